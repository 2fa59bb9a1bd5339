import PyProof.Rows.All
import Wide.All
import OpenK.AllK
import Wide.FinOn
import HandS.ForMost
import HandS.Walk
import HandS.NoneIn
import HandS.Style
import HandS.More
import HandS.TupAny
import HandS.Deep
import HandS.IsInst
import HandS.SortInts
import HandS.Wide
import HandS.Conv
import KE.SortData
import KE.DataCmp
import HandS.TupLe
import HandS.SetFor
import HandS.SortKw
import HandS.Set
import HandS.Dict
import HandS.Iter
import KE.KDictList
import HandS.Defaults
import KE.KDictZip
import KE.GoesEnum
import KE.GoesMore
import HandS.Zip
import HandS.Keys
import KE.KStateDown
import HandS.Head0
import HandS.Head1
import HandS.Head2
import HandS.HeadEnd
import HandS.HeadHook1
import HandS.HeadHook2
import PySem.Challenge.RW_lastroads_k62_whole_more_notes_and_fewer
set_option Elab.async false
set_option linter.all false
set_option maxRecDepth 100000
set_option maxHeartbeats 4000000
set_option autoImplicit false
namespace MP
open PySem PySem.Spec PyProof.Rows L2

/-! ### pure data -/
inductive D where
  | non | bl (b : Bool) | int (i : Int) | str (x : Str) | ty (n : String)
  | tup (xs : List D) | lst (xs : List D) | scr (ns : List Int) | wt (xs : List D) | loc (n : Nat)
  | dk (ks : List Key) (ds : List D) | dt (ks : List (List Key)) (ds : List D)
  | fk (ks : List Key) (ds : List D) | ft (ks : List (List Key)) (ds : List D)
/-- what an object that may change holds -/
inductive O where
  | l (ds : List D) | k (ks : List Key) (ds : List D) | t (ks : List (List Key)) (ds : List D) | fk (ks : List Key) (ds : List D) | ft (ks : List (List Key)) (ds : List D)
def O.toD : O → D
  | .l ds => .lst ds
  | .k ks ds => .dk ks ds
  | .t ks ds => .dt ks ds
  | .fk ks ds => .fk ks ds
  | .ft ks ds => .ft ks ds
/-- a result: a value, or an object that nobody else knows -/
inductive R where
  | v (d : D) | o (x : O)
def R.val : R → D
  | .v d => d
  | .o x => x.toD
inductive Sl where
  | no | va (d : D) | ow (x : O)
abbrev Envm := List Sl
abbrev Sto := List O
inductive Res (α : Type) where
  | ok (a : α) (S : Sto)
  | xn (c : Nat) (x : D) (S : Sto)
  | bad
def Res.bind {α β : Type} (r : Res α) (f : α → Sto → Res β) : Res β := match r with
  | .ok a S => f a S
  | .xn c x S => .xn c x S
  | .bad => .bad
def Res.map {α β : Type} (r : Res α) (f : α → β) : Res β := match r with
  | .ok a S => .ok (f a) S
  | .xn c x S => .xn c x S
  | .bad => .bad
abbrev Calls := Nat → List D → Sto → Res R
abbrev DE := Envm → Sto → Res D
abbrev DR := Envm → Sto → Res R
abbrev DA := Envm → Sto → Res (List D)
abbrev DT := Envm → Sto → Res Bool
inductive Out where
  | nx (e : Envm) (S : Sto) | rt (r : R) (S : Sto) | bk (e : Envm) (S : Sto) | ct (e : Envm) (S : Sto) | xn (c : Nat) (x : D) (S : Sto) | bad
abbrev DS := Envm → Sto → Out

/-! ### what stands for what -/
section
variable (K : PySem.W.Frag) (G : Hp) (r : List Addr)
mutual
inductive Rep : D → V → Prop
  | non : Rep .non .non
  | bl (b : Bool) : Rep (.bl b) (.bl b)
  | int (i : Int) : Rep (.int i) (.int i)
  | str (x : Str) : Rep (.str x) (.str x)
  | ty (n : String) : Rep (.ty n) (.ty n)
  | tup {a : Addr} {xs : List V} {ds : List D} : G a = some (.tup xs) → RepL ds xs → Rep (.tup ds) (.ref a)
  | wt {a : Addr} {xs : List V} {ds : List D} : SqT K G a xs → RepL ds xs → Rep (.wt ds) (.ref a)
  | lst {a : Addr} {xs : List V} {ds : List D} : G a = some (.lst xs) → RepL ds xs → Rep (.lst ds) (.ref a)
  | scr {a : Addr} {ns : List Int} : SqL K G a (ns.map V.int) → Rep (.scr ns) (.ref a)
  | loc {n : Nat} {a : Addr} : r[n]? = some a → Rep (.loc n) (.ref a)
  | dk {a : Addr} {ks : List Key} {ds : List D} {kvs : List (Key × V)} : G a = some (.dK kvs) → kvs.map (·.1) = ks → RepL ds (kvs.map (·.2)) → Rep (.dk ks ds) (.ref a)
  | dt {a : Addr} {ks : List (List Key)} {ds : List D} {kvs : List (List Key × V)} : G a = some (.dT kvs) → kvs.map (·.1) = ks → RepL ds (kvs.map (·.2)) → Rep (.dt ks ds) (.ref a)
  | fk {a : Addr} {o : Obj} {ks : List Key} {ds : List D} {kvs : List (Key × V)} : G a = some (.frz o (.dK kvs)) → kvs.map (·.1) = ks → RepL ds (kvs.map (·.2)) → Rep (.fk ks ds) (.ref a)
  | ft {a : Addr} {o : Obj} {ks : List (List Key)} {ds : List D} {kvs : List (List Key × V)} : G a = some (.frz o (.dT kvs)) → kvs.map (·.1) = ks → RepL ds (kvs.map (·.2)) → Rep (.ft ks ds) (.ref a)
inductive RepL : List D → List V → Prop
  | nil : RepL [] []
  | cons {d : D} {x : V} {ds : List D} {xs : List V} : Rep d x → RepL ds xs → RepL (d :: ds) (x :: xs)
end
inductive RepO : O → HO → Prop
  | l {ds : List D} {xs : List V} : RepL K G r ds xs → RepO (.l ds) (.lst xs)
  | k {ks : List Key} {ds : List D} {kvs : List (Key × V)} : kvs.map (·.1) = ks → RepL K G r ds (kvs.map (·.2)) → RepO (.k ks ds) (.dK kvs)
  | t {ks : List (List Key)} {ds : List D} {kvs : List (List Key × V)} : kvs.map (·.1) = ks → RepL K G r ds (kvs.map (·.2)) → RepO (.t ks ds) (.dT kvs)
  | fk {o : Obj} {ks : List Key} {ds : List D} {kvs : List (Key × V)} : kvs.map (·.1) = ks → RepL K G r ds (kvs.map (·.2)) → RepO (.fk ks ds) (.frz o (.dK kvs))
  | ft {o : Obj} {ks : List (List Key)} {ds : List D} {kvs : List (List Key × V)} : kvs.map (·.1) = ks → RepL K G r ds (kvs.map (·.2)) → RepO (.ft ks ds) (.frz o (.dT kvs))
end

def SubH (G G' : Hp) : Prop := ∀ a o, G a = some o → G' a = some o
theorem SubH.refl (G : Hp) : SubH G G := fun _ _ h => h
theorem SubH.trans {A B C : Hp} (h : SubH A B) (k : SubH B C) : SubH A C := fun a o e => k a o (h a o e)
theorem SubH.rd {G G' : Hp} {a : Addr} {u : HO} (h : SubH G G') (k : Rd G a u) : Rd G' a u := by
  rcases k with k | ⟨o, k⟩
  · exact .inl (h _ _ k)
  · exact .inr ⟨o, h _ _ k⟩
theorem SubH.sqL {K : PySem.W.Frag} {G G' : Hp} {a : Addr} {xs : List V} (h : SubH G G') (k : SqL K G a xs) : SqL K G' a xs := by
  rcases k with k | k
  · exact .inl (h.rd k)
  · exact .inr k
theorem SubH.sqT {K : PySem.W.Frag} {G G' : Hp} {a : Addr} {xs : List V} (h : SubH G G') (k : SqT K G a xs) : SqT K G' a xs := by
  rcases k with k | k
  · exact .inl (h.rd k)
  · exact .inr k
theorem pre_get {r r' : List Addr} {n : Nat} {a : Addr} (h : r <+: r') (e : r[n]? = some a) : r'[n]? = some a := by
  obtain ⟨t, rfl⟩ := h
  obtain ⟨hn, _⟩ := List.getElem?_eq_some_iff.mp e
  rw [List.getElem?_append_left hn]
  exact e
section
variable {K : PySem.W.Frag} {G G' : Hp} {r r' : List Addr}
mutual
theorem Rep.mono (h : SubH G G') (p : r <+: r') : ∀ {d : D} {v : V}, Rep K G r d v → Rep K G' r' d v
  | .non, _, q => by cases q; exact .non
  | .bl _, _, q => by cases q; exact .bl _
  | .int _, _, q => by cases q; exact .int _
  | .str _, _, q => by cases q; exact .str _
  | .ty _, _, q => by cases q; exact .ty _
  | .tup ds, _, q => by
    cases q with
    | tup a b => exact .tup (h _ _ a) (RepL.mono h p b)
  | .wt ds, _, q => by
    cases q with
    | wt a b => exact .wt (h.sqT a) (RepL.mono h p b)
  | .lst ds, _, q => by
    cases q with
    | lst a b => exact .lst (h _ _ a) (RepL.mono h p b)
  | .scr ns, _, q => by
    cases q with
    | scr a => exact .scr (h.sqL a)
  | .loc n, _, q => by
    cases q with
    | loc a => exact .loc (pre_get p a)
  | .dk ks ds, _, q => by
    cases q with
    | dk a b c => exact .dk (h _ _ a) b (RepL.mono h p c)
  | .dt ks ds, _, q => by
    cases q with
    | dt a b c => exact .dt (h _ _ a) b (RepL.mono h p c)
  | .fk ks ds, _, q => by
    cases q with
    | fk a b c => exact .fk (h _ _ a) b (RepL.mono h p c)
  | .ft ks ds, _, q => by
    cases q with
    | ft a b c => exact .ft (h _ _ a) b (RepL.mono h p c)
theorem RepL.mono (h : SubH G G') (p : r <+: r') : ∀ {ds : List D} {xs : List V}, RepL K G r ds xs → RepL K G' r' ds xs
  | [], _, q => by cases q; exact .nil
  | _ :: _, _, q => by
    cases q with
    | cons a b => exact .cons (Rep.mono h p a) (RepL.mono h p b)
end
theorem RepO.mono (h : SubH G G') (p : r <+: r') {x : O} {u : HO} (q : RepO K G r x u) : RepO K G' r' x u := by
  cases q with
  | l a => exact .l (a.mono h p)
  | k a b => exact .k a (b.mono h p)
  | t a b => exact .t a (b.mono h p)
  | fk a b => exact .fk a (b.mono h p)
  | ft a b => exact .ft a (b.mono h p)
theorem RepL.length : ∀ {ds : List D} {xs : List V}, RepL K G r ds xs → ds.length = xs.length
  | _, _, .nil => rfl
  | _, _, .cons _ b => by simp [RepL.length b]
theorem RepL.get : ∀ {ds : List D} {xs : List V} {i : Nat} {d : D}, RepL K G r ds xs → ds[i]? = some d → ∃ x, xs[i]? = some x ∧ Rep K G r d x
  | _, _, i, _, .nil, e => by simp at e
  | _, _, 0, _, .cons a _, e => by simp at e; subst e; exact ⟨_, rfl, a⟩
  | _, _, i + 1, d, .cons _ b, e => by
    obtain ⟨x, h1, h2⟩ := RepL.get (i := i) (d := d) b (by simpa using e)
    exact ⟨x, by simpa using h1, h2⟩
theorem RepL.getV : ∀ {ds : List D} {xs : List V} {i : Nat} {x : V}, RepL K G r ds xs → xs[i]? = some x → ∃ d, ds[i]? = some d ∧ Rep K G r d x
  | _, _, i, _, .nil, e => by simp at e
  | _, _, 0, _, .cons a _, e => by simp at e; subst e; exact ⟨_, rfl, a⟩
  | _, _, i + 1, d, .cons _ b, e => by
    obtain ⟨x, h1, h2⟩ := RepL.getV (i := i) (x := d) b (by simpa using e)
    exact ⟨x, by simpa using h1, h2⟩
theorem RepL.append : ∀ {ds es : List D} {xs ys : List V}, RepL K G r ds xs → RepL K G r es ys → RepL K G r (ds ++ es) (xs ++ ys)
  | _, _, _, _, .nil, s => s
  | _, _, _, _, .cons a b, s => .cons a (RepL.append b s)
theorem RepL.set {d : D} {x : V} (q : Rep K G r d x) : ∀ {ds : List D} {xs : List V} (i : Nat), RepL K G r ds xs → RepL K G r (ds.set i d) (xs.set i x)
  | _, _, _, .nil => .nil
  | _, _, 0, .cons _ b => .cons q b
  | _, _, i + 1, .cons a b => .cons a (RepL.set q i b)
theorem RepL.take : ∀ {ds : List D} {xs : List V} (n : Nat), RepL K G r ds xs → RepL K G r (ds.take n) (xs.take n)
  | _, _, 0, _ => .nil
  | _, _, _ + 1, .nil => .nil
  | _, _, n + 1, .cons a b => .cons a (RepL.take n b)
theorem RepL.drop : ∀ {ds : List D} {xs : List V} (n : Nat), RepL K G r ds xs → RepL K G r (ds.drop n) (xs.drop n)
  | _, _, 0, q => q
  | _, _, _ + 1, .nil => .nil
  | _, _, n + 1, .cons _ b => RepL.drop n b
theorem RepL.reverse : ∀ {ds : List D} {xs : List V}, RepL K G r ds xs → RepL K G r ds.reverse xs.reverse
  | _, _, .nil => .nil
  | _, _, .cons a b => by
    simp only [List.reverse_cons]
    exact (RepL.reverse b).append (.cons a .nil)
theorem RepL.eraseIdx : ∀ {ds : List D} {xs : List V} (n : Nat), RepL K G r ds xs → RepL K G r (ds.eraseIdx n) (xs.eraseIdx n)
  | _, _, _, .nil => .nil
  | _, _, 0, .cons _ b => b
  | _, _, n + 1, .cons a b => .cons a (RepL.eraseIdx n b)
theorem RepL.snoc {ds : List D} {xs : List V} {d : D} {x : V} (h : RepL K G r ds xs) (q : Rep K G r d x) : RepL K G r (ds ++ [d]) (xs ++ [x]) := h.append (.cons q .nil)
end

/-! ### the ghost world: G what never changes, ρ where the shared objects stand -/
structure Wd where
  G : Hp
  r : List Addr
structure Ext (W : Wd) (H : Hp) (W' : Wd) (H' : Hp) : Prop where
  g : SubH W.G W'.G
  r : W.r <+: W'.r
  gn : ∀ a, W.G a = none → W'.G a ≠ none → H a = none ∨ (a ∉ W.r ∧ ∃ xs, H a = some (.tup xs))
  rn : ∀ a, a ∈ W'.r → a ∈ W.r ∨ H a = none
  h : ∀ a o, H a = some o → a ∉ W.r → H' a = some o
  k : ∀ a o, H a = some o → ∃ o', H' a = some o'
/-- the world has grown -/
structure Gr (W W' : Wd) : Prop where
  g : SubH W.G W'.G
  r : W.r <+: W'.r
theorem Gr.refl (W : Wd) : Gr W W := ⟨SubH.refl _, List.prefix_refl _⟩
theorem Gr.trans {A B C : Wd} (h : Gr A B) (k : Gr B C) : Gr A C := ⟨h.g.trans k.g, h.r.trans k.r⟩
theorem Ext.gr {W W' : Wd} {H H' : Hp} (e : Ext W H W' H') : Gr W W' := ⟨e.g, e.r⟩
theorem Ext.refl (W : Wd) (H : Hp) : Ext W H W H :=
  ⟨SubH.refl _, List.prefix_refl _, fun a h k => absurd h k, fun a h => .inl h, fun _ _ h _ => h, fun _ o h => ⟨o, h⟩⟩
theorem Ext.trans {W W1 W2 : Wd} {H H1 H2 : Hp} (a : Ext W H W1 H1) (b : Ext W1 H1 W2 H2) : Ext W H W2 H2 := by
  have back : ∀ c, H1 c = none → H c = none := fun c e => by
    cases q : H c with
    | none => rfl
    | some o =>
      obtain ⟨o', e'⟩ := a.k c o q
      rw [e] at e'; cases e'
  refine ⟨a.g.trans b.g, a.r.trans b.r, fun c h k => ?_, fun c h => ?_, fun c o h n => ?_, fun c o h => ?_⟩
  · cases q : W1.G c with
    | none =>
      rcases b.gn c q k with z | ⟨z1, xs, z2⟩
      · exact .inl (back c z)
      · have n : c ∉ W.r := fun z => z1 (a.r.subset z)
        cases e : H c with
        | none => exact .inl rfl
        | some o =>
          have := a.h c o e n
          rw [z2] at this
          cases this
          exact .inr ⟨n, xs, rfl⟩
    | some o => exact a.gn c h (by rw [q]; simp)
  · rcases b.rn c h with z | z
    · exact a.rn c z
    · exact .inr (back c z)
  · refine b.h c o (a.h c o h n) fun z => ?_
    rcases a.rn c z with z | z
    · exact n z
    · rw [h] at z; cases z
  · obtain ⟨o', e⟩ := a.k c o h
    exact b.k c o' e
/-- a tracked thing that is not of the world stays out of it -/
def NoTup (o : HO) : Prop := ∀ xs, o ≠ .tup xs
theorem RepO.nt {K : PySem.W.Frag} {G : Hp} {r : List Addr} {x : O} {o : HO} (h : RepO K G r x o) : NoTup o := by cases h <;> exact fun _ e => nomatch e
theorem Ext.out {W W' : Wd} {H H' : Hp} (e : Ext W H W' H') {a : Addr} {o : HO} (h : H a = some o) (t : NoTup o) (n : W.G a = none) (m : a ∉ W.r) : H' a = some o ∧ W'.G a = none ∧ a ∉ W'.r := by
  refine ⟨e.h a o h m, ?_, fun z => ?_⟩
  · cases q : W'.G a with
    | none => rfl
    | some u =>
      rcases e.gn a n (by rw [q]; simp) with z | ⟨_, xs, z⟩
      · rw [h] at z; cases z
      · rw [h] at z
        cases z
        exact absurd rfl (t xs)
  · rcases e.rn a z with z | z
    · exact m z
    · rw [h] at z; cases z
theorem Ext.fresh {W W' : Wd} {H H' : Hp} (e : Ext W H W' H') {a : Addr} (h : H' a = none) : H a = none := by
  cases q : H a with
  | none => rfl
  | some o =>
    obtain ⟨o', z⟩ := e.k a o q
    rw [h] at z; cases z
section
variable (K : PySem.W.Frag)
/-- the world holds of the heap -/
structure WOk (W : Wd) (S : Sto) (H : Hp) : Prop where
  sub : SubH W.G H
  nd : W.r.Nodup
  len : W.r.length = S.length
  cell : ∀ (n : Nat) (x : O), S[n]? = some x → ∃ a u, W.r[n]? = some a ∧ H a = some u ∧ RepO K W.G W.r x u
  ng : ∀ a, a ∈ W.r → W.G a = none
def RepR (W : Wd) (H H0 : Hp) : R → V → Prop
  | .v d, v => Rep K W.G W.r d v
  | .o x, v => ∃ a u, v = .ref a ∧ H a = some u ∧ RepO K W.G W.r x u ∧ W.G a = none ∧ a ∉ W.r ∧ H0 a = none
/-- frozen, or a slot's own object that stands as it is -/
def RepB (W : Wd) (H : Hp) (d : D) (v : V) : Prop :=
  Rep K W.G W.r d v ∨ ∃ x a u, d = O.toD x ∧ v = .ref a ∧ H a = some u ∧ RepO K W.G W.r x u ∧ W.G a = none ∧ a ∉ W.r
def SlOk (W : Wd) (H H0 : Hp) : Sl → Option V → Prop
  | .no, _ => True
  | .va d, o => ∃ v, o = some v ∧ Rep K W.G W.r d v
  | .ow x, o => ∃ a u, o = some (.ref a) ∧ H a = some u ∧ RepO K W.G W.r x u ∧ W.G a = none ∧ a ∉ W.r ∧ H0 a = none
structure EnvOk (W : Wd) (H H0 : Hp) (e : Envm) (σ : L2.St) : Prop where
  len : e.length = σ.length
  sl : ∀ (i : Nat) (s : Sl) (o : Option V), e[i]? = some s → σ[i]? = some o → SlOk K W H H0 s o
  dis : ∀ (i j : Nat) (x y : O) (a : Addr), e[i]? = some (.ow x) → e[j]? = some (.ow y) → σ[i]? = some (some (.ref a)) → σ[j]? = some (some (.ref a)) → i = j
end
section
variable {K : PySem.W.Frag} {W W' : Wd} {H H' H0 : Hp} {S S' : Sto}
theorem Rep.ext {d : D} {v : V} (q : Rep K W.G W.r d v) (e : Ext W H W' H') : Rep K W'.G W'.r d v := q.mono e.g e.r
theorem RepL.ext {d : List D} {v : List V} (q : RepL K W.G W.r d v) (e : Ext W H W' H') : RepL K W'.G W'.r d v := q.mono e.g e.r
theorem RepB.ext {d : D} {v : V} (q : RepB K W H d v) (e : Ext W H W' H') : RepB K W' H' d v := by
  rcases q with q | ⟨x, a, u, e1, e2, e3, e4, e5, e6⟩
  · exact .inl (q.ext e)
  · obtain ⟨h1, h2, h3⟩ := e.out e3 e4.nt e5 e6
    exact .inr ⟨x, a, u, e1, e2, h1, e4.mono e.g e.r, h2, h3⟩
theorem EnvOk.ext {e : Envm} {σ : L2.St} (q : EnvOk K W H H0 e σ) (x : Ext W H W' H') : EnvOk K W' H' H0 e σ := by
  refine ⟨q.len, fun i s o h1 h2 => ?_, q.dis⟩
  have z := q.sl i s o h1 h2
  cases s with
  | no => trivial
  | va d =>
    obtain ⟨v, z1, z2⟩ := z
    exact ⟨v, z1, z2.ext x⟩
  | ow y =>
    obtain ⟨a, u, z1, z2, z3, z4, z5, z6⟩ := z
    obtain ⟨h1, h2, h3⟩ := x.out z2 z3.nt z4 z5
    exact ⟨a, u, z1, h1, z3.mono x.g x.r, h2, h3, z6⟩
end

/-! ### readings -/
section
variable (K : PySem.W.Frag)
/-- an expression: its value frozen -/
def tV (de : DE) : TE := fun σ H Q => ∃ W S H0 env, WOk K W S H ∧ EnvOk K W H H0 env σ ∧ ∃ d S', de env S = .ok d S' ∧ ∀ W' H' v, Ext W H W' H' → WOk K W' S' H' → Rep K W'.G W'.r d v → Q v H'
/-- .. frozen, or a slot's own object -/
def tB (de : DE) : TE := fun σ H Q => ∃ W S H0 env, WOk K W S H ∧ EnvOk K W H H0 env σ ∧ ∃ d S', de env S = .ok d S' ∧ ∀ W' H' v, Ext W H W' H' → WOk K W' S' H' → RepB K W' H' d v → Q v H'
/-- .. a value or a new object -/
def tR (dr : DR) : TE := fun σ H Q => ∃ W S H0 env, WOk K W S H ∧ EnvOk K W H H0 env σ ∧ ∃ d S', dr env S = .ok d S' ∧ ∀ W' H' v, Ext W H W' H' → WOk K W' S' H' → RepR K W' H' H d v → Q v H'
def tAV (da : DA) : TA := fun σ H Q => ∃ W S H0 env, WOk K W S H ∧ EnvOk K W H H0 env σ ∧ ∃ d S', da env S = .ok d S' ∧ ∀ W' H' v, Ext W H W' H' → WOk K W' S' H' → RepL K W'.G W'.r d v → Q v H'
/-- pairs of lists -/
inductive AllB (W : Wd) (H : Hp) : List D → List V → Prop
  | nil : AllB W H [] []
  | cons {d : D} {v : V} {ds : List D} {vs : List V} : RepB K W H d v → AllB W H ds vs → AllB W H (d :: ds) (v :: vs)
def tAB (da : DA) : TA := fun σ H Q => ∃ W S H0 env, WOk K W S H ∧ EnvOk K W H H0 env σ ∧ ∃ d S', da env S = .ok d S' ∧ ∀ W' H' v, Ext W H W' H' → WOk K W' S' H' → AllB K W' H' d v → Q v H'
def tT (dt : DT) : TT := fun σ H Q => ∃ W S H0 env, WOk K W S H ∧ EnvOk K W H H0 env σ ∧ ∃ d S', dt env S = .ok d S' ∧ ∀ W' H', Ext W H W' H' → WOk K W' S' H' → Q d H'
/-- the state within a def's body that began at H0 with W0 -/
structure SOk (W0 : Wd) (H0 : Hp) (W : Wd) (H : Hp) (S : Sto) (env : Envm) (σ : L2.St) : Prop where
  ext : Ext W0 H0 W H
  ok : WOk K W S H
  env : EnvOk K W H H0 env σ
def OutOk (W0 : Wd) (H0 : Hp) (Wc : Wd) (D : Ends) : Out → Prop
  | .nx env S => ∀ W H σ, SOk K W0 H0 W H S env σ → Gr Wc W → D.nx σ H
  | .bk env S => ∀ W H σ, SOk K W0 H0 W H S env σ → Gr Wc W → D.bk σ H
  | .ct env S => ∀ W H σ, SOk K W0 H0 W H S env σ → Gr Wc W → D.ct σ H
  | .rt r S => ∀ W H v, Ext W0 H0 W H → WOk K W S H → RepR K W H H0 r v → D.rt v H
  | .xn _ _ _ => False
  | .bad => False
def tS (ds : DS) : TS := fun D σ H => ∃ W0 H0 W S env, SOk K W0 H0 W H S env σ ∧ OutOk K W0 H0 W D (ds env S)
theorem OutOk.mono {W0 W W' : Wd} {H0 : Hp} {D : Ends} {o : Out} (h : OutOk K W0 H0 W D o) (g : Gr W W') : OutOk K W0 H0 W' D o := by
  cases o with
  | nx e S => exact fun W1 H σ s g1 => h W1 H σ s (g.trans g1)
  | bk e S => exact fun W1 H σ s g1 => h W1 H σ s (g.trans g1)
  | ct e S => exact fun W1 H σ s g1 => h W1 H σ s (g.trans g1)
  | rt r S => exact h
  | xn c x S => exact h
  | bad => exact h
end
end MP

namespace MP
open PySem PySem.Spec PyProof.Rows L2

/-! ### weakening -/
section
variable {X : Cx}
theorem PE.imp {e : Expr} {t t' : TE} (h : PE X e t) (i : ∀ σ H Q, t' σ H Q → t σ H Q) : PE X e t' := ⟨fun pins s σ H Q I q => h.run pins s σ H Q I (i σ H Q q)⟩
theorem PT.imp {e : Expr} {t t' : TT} (h : PT X e t) (i : ∀ σ H Q, t' σ H Q → t σ H Q) : PT X e t' := ⟨fun pins s σ H Q I q => h.run pins s σ H Q I (i σ H Q q)⟩
theorem PW.imp {e : Expr} {t t' : TT} (h : PW X e t) (i : ∀ σ H Q, t' σ H Q → t σ H Q) : PW X e t' := ⟨fun wh pins s σ H Q I q => h.run wh pins s σ H Q I (i σ H Q q)⟩
theorem PA.imp {es : List Expr} {t t' : TA} (h : PA X es t) (i : ∀ σ H Q, t' σ H Q → t σ H Q) : PA X es t' := ⟨fun pos pins s σ H Q I q => h.run pos pins s σ H Q I (i σ H Q q)⟩
theorem PS.imp {st : Stmt} {t t' : TS} (h : PS X st t) (i : ∀ D σ H, t' D σ H → t D σ H) : PS X st t' := ⟨fun pins s σ H D I q => h.run pins s σ H D I (i D σ H q)⟩
theorem PSs.imp {st : List Stmt} {t t' : TS} (h : PSs X st t) (i : ∀ D σ H, t' D σ H → t D σ H) : PSs X st t' := ⟨fun pins s σ H D I q => h.run pins s σ H D I (i D σ H q)⟩
theorem PTs.imp {ifs : List Expr} {t t' : TT} (h : PTs X ifs t) (i : ∀ σ H Q, t' σ H Q → t σ H Q) : PTs X ifs t' := ⟨fun pins s σ H Q I q => h.run pins s σ H Q I (i σ H Q q)⟩
theorem PI.imp {tg it : Expr} {t t' : TI} (h : PI X tg it t) (i : ∀ σ H R, t' σ H R → t σ H R) : PI X tg it t' := ⟨fun pins s σ H Q I q => h.run pins s σ H Q I (i σ H Q q)⟩
theorem PG.imp {tg : Expr} {t t' : TG} (h : PG X tg t) (i : ∀ v σ H R, t' v σ H R → t v σ H R) : PG X tg t' := ⟨fun pins s σ H v u Q I r q => h.run pins s σ H v u Q I r (i v σ H Q q)⟩
end

/-! ### denotations -/
def dVar (i : Nat) : DE := fun env S => match env[i]? with
  | some (.va d) => .ok d S
  | _ => .bad
def dBVar (i : Nat) : DE := fun env S => match env[i]? with
  | some (.va d) => .ok d S
  | some (.ow x) => .ok x.toD S
  | _ => .bad
def dMv (i : Nat) : DR := fun env S => match env[i]? with
  | some (.va d) => .ok (.v d) S
  | some (.ow x) => .ok (.o x) S
  | _ => .bad
def dC (d : D) : DE := fun _ S => .ok d S
def fz (dr : DR) : DE := fun env S => (dr env S).map R.val
def rv (de : DE) : DR := fun env S => (de env S).map R.v
def dOp (f : D → D → Sto → Res R) (da db : DE) : DR := fun env S => (da env S).bind fun x S1 => (db env S1).bind fun y S2 => f x y S2
def dUn (f : D → Sto → Res R) (da : DE) : DR := fun env S => (da env S).bind f
def dNil : DA := fun _ S => .ok [] S
def dCons (da : DE) (dr : DA) : DA := fun env S => (da env S).bind fun x S1 => (dr env S1).map fun xs => x :: xs
def dTup (da : DA) : DE := fun env S => (da env S).bind fun xs S1 => if xs.length ≤ 100000 then .ok (.tup xs) S1 else .bad
def dLst (da : DA) : DR := fun env S => (da env S).bind fun xs S1 => if xs.length ≤ 100000 then .ok (.o (.l xs)) S1 else .bad
def dB (de : DE) : DT := fun env S => (de env S).bind fun d S1 => match d with
  | .bl b => .ok b S1
  | _ => .bad
def dAndT (a b : DT) : DT := fun env S => (a env S).bind fun c S1 => if c = true then b env S1 else .ok false S1
def dOrT (a b : DT) : DT := fun env S => (a env S).bind fun c S1 => if c = true then .ok true S1 else b env S1
def dNotT (a : DT) : DT := fun env S => (a env S).map (!·)
def dAnd (a b : DE) : DE := fun env S => (a env S).bind fun d S1 => match d with
  | .bl true => b env S1
  | .bl false => .ok (.bl false) S1
  | _ => .bad
def dOr (a b : DE) : DE := fun env S => (a env S).bind fun d S1 => match d with
  | .bl true => .ok (.bl true) S1
  | .bl false => b env S1
  | _ => .bad
def dNot (a : DE) : DE := fun env S => (a env S).bind fun d S1 => match d with
  | .bl b => .ok (.bl (!b)) S1
  | _ => .bad
def dIf (c : DT) (a b : DE) : DE := fun env S => (c env S).bind fun k S1 => if k = true then a env S1 else b env S1
def dIfR (c : DT) (a b : DR) : DR := fun env S => (c env S).bind fun k S1 => if k = true then a env S1 else b env S1
def dCall (C : Calls) (f : Nat) (da : DA) : DR := fun env S => (da env S).bind fun xs S1 => C f xs S1
def dBlt (f : List D → Sto → Res R) (da : DA) : DR := fun env S => (da env S).bind f

/-! ### the rules of expressions -/
theorem EnvOk.at {K : PySem.W.Frag} {W : Wd} {H H0 : Hp} {e : Envm} {σ : L2.St} (q : EnvOk K W H H0 e σ) {i : Nat} {s : Sl} (h : e[i]? = some s) : ∃ o, σ[i]? = some o ∧ SlOk K W H H0 s o := by
  obtain ⟨hi, _⟩ := List.getElem?_eq_some_iff.mp h
  rw [q.len] at hi
  exact ⟨σ[i], List.getElem?_eq_getElem hi, q.sl i s _ h (List.getElem?_eq_getElem hi)⟩
theorem bind_ok {α β : Type} {r : Res α} {f : α → Sto → Res β} {b : β} {S' : Sto} (h : r.bind f = .ok b S') : ∃ a S1, r = .ok a S1 ∧ f a S1 = .ok b S' := by
  cases r with
  | ok a S1 => exact ⟨a, S1, rfl, h⟩
  | xn c x S => cases h
  | bad => cases h
theorem map_ok {α β : Type} {r : Res α} {f : α → β} {b : β} {S' : Sto} (h : r.map f = .ok b S') : ∃ a, r = .ok a S' ∧ f a = b := by
  cases r with
  | ok a S1 =>
    have h1 : Res.ok (f a) S1 = .ok b S' := h
    injection h1 with h2 h3
    subst h3
    exact ⟨a, rfl, h2⟩
  | xn c x S => cases h
  | bad => cases h
section
variable {X : Cx} {e a b : Expr} {pos : Pos}
theorem me_var (i : Nat) {x : Str} (hN : X.N[i]? = some x := by rfl) (hv : Vis X.env.scope x := by first | exact Or.inl rfl | exact Or.inr (Or.inl rfl) | exact Or.inr (Or.inr rfl)) (hd : (x == ("__debug__" : Str)) = false := by decide)
    (hcd : (x == ("__classdict__" : Str)) = false := by decide) : PE X (.Name x pos) (tV X.K (dVar i)) := by
  refine PE.imp (pe_var hN hv hd hcd) fun σ H Q ⟨W, S, H0, env, ok, eo, d, S', h, q⟩ => ?_
  unfold dVar at h
  split at h
  · rename_i d' he
    injection h with h1 h2
    subst h1; subst h2
    obtain ⟨o, h3, v, rfl, h4⟩ := eo.at he
    exact ⟨v, h3, q W H v (Ext.refl _ _) ok h4⟩
  · cases h
theorem me_bvar (i : Nat) {x : Str} (hN : X.N[i]? = some x := by rfl) (hv : Vis X.env.scope x := by first | exact Or.inl rfl | exact Or.inr (Or.inl rfl) | exact Or.inr (Or.inr rfl)) (hd : (x == ("__debug__" : Str)) = false := by decide)
    (hcd : (x == ("__classdict__" : Str)) = false := by decide) : PE X (.Name x pos) (tB X.K (dBVar i)) := by
  refine PE.imp (pe_var hN hv hd hcd) fun σ H Q ⟨W, S, H0, env, ok, eo, d, S', h, q⟩ => ?_
  unfold dBVar at h
  split at h
  · rename_i d' he
    injection h with h1 h2
    subst h1; subst h2
    obtain ⟨o, h3, v, rfl, h4⟩ := eo.at he
    exact ⟨v, h3, q W H v (Ext.refl _ _) ok (.inl h4)⟩
  · rename_i y he
    injection h with h1 h2
    subst h1; subst h2
    obtain ⟨o, h3, a, u, rfl, h4, h5, h6, h7, h8⟩ := eo.at he
    exact ⟨.ref a, h3, q W H (.ref a) (Ext.refl _ _) ok (.inr ⟨y, a, u, rfl, rfl, h4, h5, h6, h7⟩)⟩
  · cases h
theorem pe_vb {de : DE} (h : PE X e (tV X.K de)) : PE X e (tB X.K de) := PE.imp h fun σ H Q ⟨W, S, H0, env, ok, eo, d, S', h, q⟩ =>
  ⟨W, S, H0, env, ok, eo, d, S', h, fun W' H' v x o r => q W' H' v x o (.inl r)⟩
theorem pe_vr {de : DE} (h : PE X e (tV X.K de)) : PE X e (tR X.K (rv de)) := PE.imp h fun σ H Q ⟨W, S, H0, env, ok, eo, d, S', h, q⟩ => by
  obtain ⟨a, h1, h2⟩ := map_ok h
  subst h2
  exact ⟨W, S, H0, env, ok, eo, a, S', h1, fun W' H' v x o r => q W' H' v x o r⟩
/-- a new object is frozen -/
theorem freeze {K : PySem.W.Frag} {W : Wd} {S : Sto} {H : Hp} {x : O} {a : Addr} {u : HO} (ok : WOk K W S H) (h : H a = some u) (q : RepO K W.G W.r x u) (n : W.G a = none) (m : a ∉ W.r) :
    SubH W.G (upd W.G a u) ∧ WOk K ⟨upd W.G a u, W.r⟩ S H ∧ Rep K (upd W.G a u) W.r x.toD (.ref a) := by
  have s : SubH W.G (upd W.G a u) := fun b o e => by rw [upd_ne (ne_of_none e n)]; exact e
  refine ⟨s, ⟨fun b o e => ?_, ok.nd, ok.len, fun i y e => ?_, fun b hb => ?_⟩, ?_⟩
  · by_cases hb : b = a
    · subst hb
      have e' : upd W.G b u b = some o := e
      rw [upd_same] at e'
      cases e'
      exact h
    · have e' : upd W.G a u b = some o := e
      rw [upd_ne hb] at e'
      exact ok.sub b o e'
  · obtain ⟨c, v, h1, h2, h3⟩ := ok.cell i y e
    exact ⟨c, v, h1, h2, h3.mono s (List.prefix_refl _)⟩
  · have hb' : b ≠ a := fun z => m (z ▸ hb)
    show upd W.G a u b = none
    rw [upd_ne hb']
    exact ok.ng b hb
  · cases q with
    | l q => exact .lst upd_same (q.mono s (List.prefix_refl _))
    | k q1 q2 => exact .dk upd_same q1 (q2.mono s (List.prefix_refl _))
    | t q1 q2 => exact .dt upd_same q1 (q2.mono s (List.prefix_refl _))
    | fk q1 q2 => exact .fk upd_same q1 (q2.mono s (List.prefix_refl _))
    | ft q1 q2 => exact .ft upd_same q1 (q2.mono s (List.prefix_refl _))
theorem freeze_ext {W W' : Wd} {H H' : Hp} {a : Addr} {u : HO} (x : Ext W H W' H') (n : W'.G a = none) (h : H a = none) : Ext W H ⟨upd W'.G a u, W'.r⟩ H' := by
  refine ⟨fun b o e => ?_, x.r, fun b h1 h2 => ?_, x.rn, x.h, x.k⟩
  · have := x.g b o e
    show upd W'.G a u b = some o
    rw [upd_ne (ne_of_none this n)]
    exact this
  · by_cases hb : b = a
    · rw [hb]; exact .inl h
    · have h2' : upd W'.G a u b ≠ none := h2
      rw [upd_ne hb] at h2'
      exact x.gn b h1 h2'
theorem pe_fz {dr : DR} (h : PE X e (tR X.K dr)) : PE X e (tV X.K (fz dr)) := PE.imp h fun σ H Q ⟨W, S, H0, env, ok, eo, d, S', h, q⟩ => by
  obtain ⟨r, h1, h2⟩ := map_ok h
  subst h2
  refine ⟨W, S, H0, env, ok, eo, r, S', h1, fun W' H' v x o z => ?_⟩
  cases r with
  | v d => exact q W' H' v x o z
  | o y =>
    obtain ⟨a, u, rfl, z1, z2, z3, z4, z5⟩ := z
    obtain ⟨s, o2, r2⟩ := freeze o z1 z2 z3 z4
    exact q _ H' _ (freeze_ext x z3 z5) o2 r2
theorem me_c {v : V} {d : D} (h : PE X e (tC v)) (r : ∀ G l, Rep X.K G l d v) : PE X e (tV X.K (dC d)) := PE.imp h fun σ H Q ⟨W, S, H0, env, ok, eo, d', S', h, q⟩ => by
  cases h
  exact q W H v (Ext.refl _ _) ok (r _ _)
theorem me_int {i j} : PE X (.Constant (.int i) j pos) (tV X.K (dC (.int i))) := me_c pe_int fun _ _ => .int i
theorem me_bl {i j} : PE X (.Constant (.bool i) j pos) (tV X.K (dC (.bl i))) := me_c pe_bl fun _ _ => .bl i
theorem me_non {j} : PE X (.Constant .none j pos) (tV X.K (dC .non)) := me_c pe_non fun _ _ => .non
theorem me_str {x j} : PE X (.Constant (.str x) j pos) (tV X.K (dC (.str x))) := me_c pe_str fun _ _ => .str x

/-! ### operators -/
def rO (K : PySem.W.Frag) (f : D → D → Sto → Res R) : R2 := fun x y H Q => ∃ W S d e r S', WOk K W S H ∧ RepB K W H d x ∧ RepB K W H e y ∧ f d e S = .ok r S' ∧ ∀ W' H' v, Ext W H W' H' → WOk K W' S' H' → RepR K W' H' H r v → Q v H'
theorem RepR.back {K : PySem.W.Frag} {W : Wd} {H H0 H1 : Hp} {r : R} {v : V} (h : RepR K W H H1 r v) (f : ∀ a, H1 a = none → H0 a = none) : RepR K W H H0 r v := by
  cases r with
  | v d => exact h
  | o x =>
    obtain ⟨a, u, h1, h2, h3, h4, h5, h6⟩ := h
    exact ⟨a, u, h1, h2, h3, h4, h5, f a h6⟩
theorem tOp_of {K : PySem.W.Frag} {f : D → D → Sto → Res R} {da db : DE} {σ : L2.St} {H : Hp} {Q : VK} (h : tR K (dOp f da db) σ H Q) : tOp (rO K f) (MP.tB K da) (MP.tB K db) σ H Q := by
  obtain ⟨W, S, H0, env, ok, eo, d, S', h, q⟩ := h
  obtain ⟨x, S1, h1, h2⟩ := bind_ok h
  obtain ⟨y, S2, h3, h4⟩ := bind_ok h2
  refine ⟨W, S, H0, env, ok, eo, x, S1, h1, fun W1 H1 v e1 o1 r1 => ?_⟩
  refine ⟨W1, S1, H0, env, o1, eo.ext e1, y, S2, h3, fun W2 H2 u e2 o2 r2 => ?_⟩
  refine ⟨W2, S2, x, y, d, S', o2, r1.ext e2, r2, h4, fun W3 H3 z e3 o3 r3 => ?_⟩
  exact q W3 H3 z ((e1.trans e2).trans e3) o3 (r3.back fun a h => (e1.trans e2).fresh h)
theorem me_op {op : Operator} {f : D → D → Sto → Res R} {da db : DE} (ho : OpR X (binaryOp op) (rO X.K f)) (ha : PE X a (MP.tB X.K da)) (hb : PE X b (MP.tB X.K db)) : PE X (.BinOp a op b pos) (tR X.K (dOp f da db)) :=
  PE.imp (pe_op ho ha hb) fun _ _ _ h => tOp_of h
theorem me_cmp {op : CmpOp} {f : D → D → Sto → Res R} {da db : DE} (ho : OpR X (compareOp op) (rO X.K f)) (ha : PE X a (MP.tB X.K da)) (hb : PE X b (MP.tB X.K db)) (hm : behindInMarks op b = false) : PE X (.Compare a [op] [b] pos) (tR X.K (dOp f da db)) :=
  PE.imp (pe_cmpR ho ha hb hm) fun _ _ _ h => tOp_of h
def rU1 (K : PySem.W.Frag) (f : D → Sto → Res R) : V → Hp → VK → Prop := fun x H Q => ∃ W S d r S', WOk K W S H ∧ RepB K W H d x ∧ f d S = .ok r S' ∧ ∀ W' H' v, Ext W H W' H' → WOk K W' S' H' → RepR K W' H' H r v → Q v H'
theorem me_un {op : UnaryOp} {f : D → Sto → Res R} {da : DE} (ho : UnR X (unaryOp op) (rU1 X.K f)) (ha : PE X a (MP.tB X.K da)) : PE X (.UnaryOp op a pos) (tR X.K (dUn f da)) :=
  PE.imp (pe_un ho ha) fun σ H Q ⟨W, S, H0, env, ok, eo, d, S', h, q⟩ => by
    obtain ⟨x, S1, h1, h2⟩ := bind_ok h
    refine ⟨W, S, H0, env, ok, eo, x, S1, h1, fun W1 H1 v e1 o1 r1 => ?_⟩
    exact ⟨W1, S1, x, d, S', o1, r1, h2, fun W3 H3 z e3 o3 r3 => q W3 H3 z (e1.trans e3) o3 (r3.back fun a h => e1.fresh h)⟩
theorem me_ix {f : D → D → Sto → Res R} {da db : DE} (ho : IxR X (rO X.K f)) (ha : PE X a (MP.tB X.K da)) (hb : PE X b (MP.tB X.K db)) (hs : PlainIx b) : PE X (.Subscript a b pos) (tR X.K (dOp f da db)) :=
  PE.imp (pe_ix ho ha hb hs) fun _ _ _ h => tOp_of h

/-! ### arguments, displays -/
theorem ma_nil : PA X [] (tAV X.K dNil) := PA.imp pa_nil fun σ H Q ⟨W, S, H0, env, ok, eo, d, S', h, q⟩ => by
  cases h
  exact q W H [] (Ext.refl _ _) ok .nil
theorem ma_cons {es : List Expr} {da : DE} {dr : DA} (ha : PE X e (tV X.K da)) (hr : PA X es (tAV X.K dr)) (hs : starEach (e :: es) X.env = (false, eval e X.env) :: starEach es X.env := by rfl) : PA X (e :: es) (tAV X.K (dCons da dr)) :=
  PA.imp (pa_cons ha hr hs) fun σ H Q ⟨W, S, H0, env, ok, eo, d, S', h, q⟩ => by
    obtain ⟨x, S1, h1, h2⟩ := bind_ok h
    obtain ⟨xs, h3, h4⟩ := map_ok h2
    subst h4
    refine ⟨W, S, H0, env, ok, eo, x, S1, h1, fun W1 H1 v e1 o1 r1 => ?_⟩
    refine ⟨W1, S1, H0, env, o1, eo.ext e1, xs, S', h3, fun W2 H2 vs e2 o2 r2 => ?_⟩
    exact q W2 H2 _ (e1.trans e2) o2 (.cons (r1.ext e2) r2)
theorem mb_nil : PA X [] (tAB X.K dNil) := PA.imp pa_nil fun σ H Q ⟨W, S, H0, env, ok, eo, d, S', h, q⟩ => by
  cases h
  exact q W H [] (Ext.refl _ _) ok .nil
theorem AllB.ext {K : PySem.W.Frag} {W W' : Wd} {H H' : Hp} : ∀ {ds : List D} {vs : List V}, AllB K W H ds vs → Ext W H W' H' → AllB K W' H' ds vs
  | _, _, .nil, _ => .nil
  | _, _, .cons a b, e => .cons (a.ext e) (AllB.ext b e)
theorem mb_cons {es : List Expr} {da : DE} {dr : DA} (ha : PE X e (MP.tB X.K da)) (hr : PA X es (tAB X.K dr)) (hs : starEach (e :: es) X.env = (false, eval e X.env) :: starEach es X.env := by rfl) : PA X (e :: es) (tAB X.K (dCons da dr)) :=
  PA.imp (pa_cons ha hr hs) fun σ H Q ⟨W, S, H0, env, ok, eo, d, S', h, q⟩ => by
    obtain ⟨x, S1, h1, h2⟩ := bind_ok h
    obtain ⟨xs, h3, h4⟩ := map_ok h2
    subst h4
    refine ⟨W, S, H0, env, ok, eo, x, S1, h1, fun W1 H1 v e1 o1 r1 => ?_⟩
    refine ⟨W1, S1, H0, env, o1, eo.ext e1, xs, S', h3, fun W2 H2 vs e2 o2 r2 => ?_⟩
    exact q W2 H2 _ (e1.trans e2) o2 (.cons (r1.ext e2) r2)
theorem le_sizeLine {n : Nat} (h : n ≤ 100000) : n ≤ sizeLine := Nat.le_trans h (by decide)
/-- a new object laid beside the world -/
theorem lay_ext (W : Wd) {H : Hp} {p : Addr} {u : HO} (h : H p = none) : Ext W H W (upd H p u) :=
  ⟨SubH.refl _, List.prefix_refl _, fun a h k => absurd h k, fun a h => .inl h, fun a o e _ => by rw [upd_ne (ne_of_none e h)]; exact e, fun a o e => ⟨o, by rw [upd_ne (ne_of_none e h)]; exact e⟩⟩
theorem lay_ok {K : PySem.W.Frag} {W : Wd} {S : Sto} {H : Hp} {p : Addr} {u : HO} (ok : WOk K W S H) (h : H p = none) : WOk K W S (upd H p u) :=
  ⟨fun a o e => by
    have := ok.sub a o e
    rw [upd_ne (ne_of_none this h)]
    exact this, ok.nd, ok.len, fun i y e => by
      obtain ⟨c, v, h1, h2, h3⟩ := ok.cell i y e
      exact ⟨c, v, h1, by rw [upd_ne (ne_of_none h2 h)]; exact h2, h3⟩, ok.ng⟩
theorem WOk.gnone {K : PySem.W.Frag} {W : Wd} {S : Sto} {H : Hp} {p : Addr} (ok : WOk K W S H) (h : H p = none) : W.G p = none := by
  cases q : W.G p with
  | none => rfl
  | some o =>
    have := ok.sub p o q
    rw [h] at this; cases this
theorem WOk.rnone {K : PySem.W.Frag} {W : Wd} {S : Sto} {H : Hp} {p : Addr} (ok : WOk K W S H) (h : H p = none) : p ∉ W.r := fun m => by
  obtain ⟨i, hi, e⟩ := List.mem_iff_getElem.mp m
  have hi' : i < S.length := by rw [← ok.len]; exact hi
  obtain ⟨c, v, h1, h2, h3⟩ := ok.cell i S[i] (List.getElem?_eq_getElem hi')
  rw [List.getElem?_eq_getElem hi] at h1
  have : c = p := by rw [← Option.some.inj h1]; exact e
  rw [this, h] at h2
  cases h2
/-- a new tuple is laid and frozen -/
theorem tup_new {K : PySem.W.Frag} {W : Wd} {S : Sto} {H : Hp} {p : Addr} {xs : List V} {ds : List D} (ok : WOk K W S H) (h : H p = none) (q : RepL K W.G W.r ds xs) :
    Ext W H ⟨upd W.G p (.tup xs), W.r⟩ (upd H p (.tup xs)) ∧ WOk K ⟨upd W.G p (.tup xs), W.r⟩ S (upd H p (.tup xs)) ∧ Rep K (upd W.G p (.tup xs)) W.r (.tup ds) (.ref p) := by
  have n := ok.gnone h
  have s : SubH W.G (upd W.G p (.tup xs)) := fun b o e => by rw [upd_ne (ne_of_none e n)]; exact e
  refine ⟨freeze_ext (lay_ext W h) n h, ⟨fun b o e => ?_, ok.nd, ok.len, fun i y e => ?_, fun b hb => ?_⟩, .tup upd_same (q.mono s (List.prefix_refl _))⟩
  · by_cases hb : b = p
    · subst hb
      have e' : upd W.G b (.tup xs) b = some o := e
      rw [upd_same] at e'
      rw [upd_same]
      exact e'
    · have e' : upd W.G p (.tup xs) b = some o := e
      rw [upd_ne hb] at e'
      rw [upd_ne hb]
      exact ok.sub b o e'
  · obtain ⟨c, v, h1, h2, h3⟩ := ok.cell i y e
    exact ⟨c, v, h1, by rw [upd_ne (ne_of_none h2 h)]; exact h2, h3.mono s (List.prefix_refl _)⟩
  · have hb' : b ≠ p := fun z => ok.rnone h (z ▸ hb)
    show upd W.G p (.tup xs) b = none
    rw [upd_ne hb']
    exact ok.ng b hb
/-- a new object is laid -/
theorem obj_new {K : PySem.W.Frag} {W : Wd} {S : Sto} {H : Hp} {p : Addr} {u : HO} {x : O} (ok : WOk K W S H) (h : H p = none) (q : RepO K W.G W.r x u) :
    Ext W H W (upd H p u) ∧ WOk K W S (upd H p u) ∧ RepR K W (upd H p u) H (.o x) (.ref p) :=
  ⟨lay_ext W h, lay_ok ok h, p, u, rfl, upd_same, q, ok.gnone h, ok.rnone h, h⟩
theorem me_tup {es : List Expr} {x1} {da : DA} (h : PA X es (tAV X.K da)) : PE X (.Tuple es x1 pos) (tV X.K (dTup da)) := PE.imp (pe_tup h) fun σ H Q ⟨W, S, H0, env, ok, eo, d, S', h, q⟩ => by
  obtain ⟨xs, S1, h1, h2⟩ := bind_ok h
  split at h2
  · rename_i hl
    injection h2 with h3 h4
    subst h3; subst h4
    refine ⟨W, S, H0, env, ok, eo, xs, S1, h1, fun W1 H1 v e1 o1 r1 => ⟨by rw [← r1.length]; exact le_sizeLine hl, fun p hp => ?_⟩⟩
    obtain ⟨e2, o2, r2⟩ := tup_new o1 hp r1
    exact q _ _ _ (e1.trans e2) o2 r2
  · cases h2
theorem me_lst {es : List Expr} {da : DA} (h : PA X es (tAV X.K da)) : PE X (.List es pos) (tR X.K (dLst da)) := PE.imp (pe_lst h) fun σ H Q ⟨W, S, H0, env, ok, eo, d, S', h, q⟩ => by
  obtain ⟨xs, S1, h1, h2⟩ := bind_ok h
  split at h2
  · rename_i hl
    injection h2 with h3 h4
    subst h3; subst h4
    refine ⟨W, S, H0, env, ok, eo, xs, S1, h1, fun W1 H1 v e1 o1 r1 => ⟨by rw [← r1.length]; exact le_sizeLine hl, fun p hp => ?_⟩⟩
    obtain ⟨e2, o2, r2⟩ := obj_new (x := .l xs) o1 hp (.l r1)
    exact q _ _ _ (e1.trans e2) o2 (r2.back fun a h => e1.fresh h)
  · cases h2

/-! ### tests -/
theorem mt_val {de : DE} (h : PE X e (tV X.K de)) (he : ∀ whole, isTrue e X.env whole = (do let v ← whole; standAt e.pos; holding [v] (truthy v)) := by intro _; rfl) : PT X e (tT X.K (dB de)) :=
  PT.imp (pt_val h he) fun σ H Q ⟨W, S, H0, env, ok, eo, d, S', h, q⟩ => by
    obtain ⟨x, S1, h1, h2⟩ := bind_ok h
    split at h2
    · injection h2 with h3 h4
      subst h3; subst h4
      refine ⟨W, S, H0, env, ok, eo, _, _, h1, fun W1 H1 v e1 o1 r1 => ?_⟩
      cases r1
      exact ⟨_, rfl, q W1 H1 e1 o1⟩
    · cases h2
/-- a comparison as a test -/
theorem mt_cmp {op : CmpOp} {f : D → D → Sto → Res R} {da db : DE} (ho : OpR X (compareOp op) (rO X.K f)) (ha : PE X a (MP.tB X.K da)) (hb : PE X b (MP.tB X.K db)) (hm : behindInMarks op b = false) : PT X (.Compare a [op] [b] pos) (tT X.K (dB (fz (dOp f da db)))) :=
  PT.imp (pt_cmpR ho ha hb hm) fun σ H Q ⟨W, S, H0, env, ok, eo, d, S', h, q⟩ => by
    obtain ⟨x, S1, h1, h2⟩ := bind_ok h
    split at h2
    · injection h2 with h3 h4
      subst h3; subst h4
      obtain ⟨r, h5, h6⟩ := map_ok h1
      refine tOp_of ⟨W, S, H0, env, ok, eo, r, _, h5, fun W1 H1 v e1 o1 r1 => ?_⟩
      cases r with
      | v d =>
        cases h6
        cases r1
        exact ⟨_, rfl, q W1 H1 e1 o1⟩
      | o y => cases y <;> cases h6
    · cases h2
theorem mw_and1 {da : DT} (ha : PT X a (tT X.K da)) : PW X (.BoolOp .And [a] pos) (tT X.K da) := pw_and1 ha
theorem mw_or1 {da : DT} (ha : PT X a (tT X.K da)) : PW X (.BoolOp .Or [a] pos) (tT X.K da) := pw_or1 ha
theorem mw_and {rest : List Expr} {da db : DT} (ha : PT X a (tT X.K da)) (hb : PW X (.BoolOp .And (b :: rest) pos) (tT X.K db)) : PW X (.BoolOp .And (a :: b :: rest) pos) (tT X.K (dAndT da db)) :=
  PW.imp (pw_and ha hb) fun σ H Q ⟨W, S, H0, env, ok, eo, d, S', h, q⟩ => by
    obtain ⟨c, S1, h1, h2⟩ := bind_ok h
    refine ⟨W, S, H0, env, ok, eo, c, S1, h1, fun W1 H1 e1 o1 => ?_⟩
    cases c with
    | true => exact ⟨W1, S1, H0, env, o1, eo.ext e1, d, S', h2, fun W2 H2 e2 o2 => q W2 H2 (e1.trans e2) o2⟩
    | false =>
      cases h2
      exact q W1 H1 e1 o1
theorem mw_or {rest : List Expr} {da db : DT} (ha : PT X a (tT X.K da)) (hb : PW X (.BoolOp .Or (b :: rest) pos) (tT X.K db)) : PW X (.BoolOp .Or (a :: b :: rest) pos) (tT X.K (dOrT da db)) :=
  PW.imp (pw_or ha hb) fun σ H Q ⟨W, S, H0, env, ok, eo, d, S', h, q⟩ => by
    obtain ⟨c, S1, h1, h2⟩ := bind_ok h
    refine ⟨W, S, H0, env, ok, eo, c, S1, h1, fun W1 H1 e1 o1 => ?_⟩
    cases c with
    | false => exact ⟨W1, S1, H0, env, o1, eo.ext e1, d, S', h2, fun W2 H2 e2 o2 => q W2 H2 (e1.trans e2) o2⟩
    | true =>
      cases h2
      exact q W1 H1 e1 o1
theorem mt_not {da : DT} (ha : PT X a (tT X.K da)) : PT X (.UnaryOp .Not a pos) (tT X.K (dNotT da)) :=
  PT.imp (pt_not ha) fun σ H Q ⟨W, S, H0, env, ok, eo, d, S', h, q⟩ => by
    obtain ⟨c, h1, h2⟩ := map_ok h
    subst h2
    exact ⟨W, S, H0, env, ok, eo, c, S', h1, q⟩
/-! ### and, or, not, if as values -/
theorem me_one {op} {da : DE} (ha : PE X a (tV X.K da)) : PE X (.BoolOp op [a] pos) (tV X.K da) := pe_one ha
theorem me_and {rest : List Expr} {da db : DE} (ha : PE X a (tV X.K da)) (hb : PE X (.BoolOp .And (b :: rest) pos) (tV X.K db)) : PE X (.BoolOp .And (a :: b :: rest) pos) (tV X.K (dAnd da db)) :=
  PE.imp (pe_and ha hb) fun σ H Q ⟨W, S, H0, env, ok, eo, d, S', h, q⟩ => by
    obtain ⟨c, S1, h1, h2⟩ := bind_ok h
    refine ⟨W, S, H0, env, ok, eo, c, S1, h1, fun W1 H1 v e1 o1 r1 => ?_⟩
    split at h2
    · cases r1
      exact ⟨true, rfl, W1, S1, H0, env, o1, eo.ext e1, d, S', h2, fun W2 H2 v e2 o2 r2 => q W2 H2 v (e1.trans e2) o2 r2⟩
    · cases r1
      cases h2
      exact ⟨false, rfl, q W1 H1 _ e1 o1 (.bl false)⟩
    · cases h2
theorem me_or {rest : List Expr} {da db : DE} (ha : PE X a (tV X.K da)) (hb : PE X (.BoolOp .Or (b :: rest) pos) (tV X.K db)) : PE X (.BoolOp .Or (a :: b :: rest) pos) (tV X.K (dOr da db)) :=
  PE.imp (pe_or ha hb) fun σ H Q ⟨W, S, H0, env, ok, eo, d, S', h, q⟩ => by
    obtain ⟨c, S1, h1, h2⟩ := bind_ok h
    refine ⟨W, S, H0, env, ok, eo, c, S1, h1, fun W1 H1 v e1 o1 r1 => ?_⟩
    split at h2
    · cases r1
      cases h2
      exact ⟨true, rfl, q W1 H1 _ e1 o1 (.bl true)⟩
    · cases r1
      exact ⟨false, rfl, W1, S1, H0, env, o1, eo.ext e1, d, S', h2, fun W2 H2 v e2 o2 r2 => q W2 H2 v (e1.trans e2) o2 r2⟩
    · cases h2
theorem me_not {da : DE} (ha : PE X a (tV X.K da)) : PE X (.UnaryOp .Not a pos) (tV X.K (dNot da)) :=
  PE.imp (pe_not ha) fun σ H Q ⟨W, S, H0, env, ok, eo, d, S', h, q⟩ => by
    obtain ⟨c, S1, h1, h2⟩ := bind_ok h
    refine ⟨W, S, H0, env, ok, eo, c, S1, h1, fun W1 H1 v e1 o1 r1 => ?_⟩
    split at h2
    · cases r1
      cases h2
      exact ⟨_, rfl, q W1 H1 _ e1 o1 (.bl _)⟩
    · cases h2
theorem me_ifR {c : Expr} {dc : DT} {da db : DR} (hc : PT X c (tT X.K dc)) (ha : PE X a (tR X.K da)) (hb : PE X b (tR X.K db)) : PE X (.IfExp c a b pos) (tR X.K (dIfR dc da db)) :=
  PE.imp (pe_ifExp hc ha hb) fun σ H Q ⟨W, S, H0, env, ok, eo, d, S', h, q⟩ => by
    obtain ⟨k, S1, h1, h2⟩ := bind_ok h
    refine ⟨W, S, H0, env, ok, eo, k, S1, h1, fun W1 H1 e1 o1 => ?_⟩
    cases k with
    | true => exact ⟨W1, S1, H0, env, o1, eo.ext e1, d, S', h2, fun W2 H2 v e2 o2 r2 => q W2 H2 v (e1.trans e2) o2 (r2.back fun a h => e1.fresh h)⟩
    | false => exact ⟨W1, S1, H0, env, o1, eo.ext e1, d, S', h2, fun W2 H2 v e2 o2 r2 => q W2 H2 v (e1.trans e2) o2 (r2.back fun a h => e1.fresh h)⟩
theorem me_if {c : Expr} {dc : DT} {da db : DE} (hc : PT X c (tT X.K dc)) (ha : PE X a (tV X.K da)) (hb : PE X b (tV X.K db)) : PE X (.IfExp c a b pos) (tV X.K (dIf dc da db)) :=
  PE.imp (pe_ifExp hc ha hb) fun σ H Q ⟨W, S, H0, env, ok, eo, d, S', h, q⟩ => by
    obtain ⟨k, S1, h1, h2⟩ := bind_ok h
    refine ⟨W, S, H0, env, ok, eo, k, S1, h1, fun W1 H1 e1 o1 => ?_⟩
    cases k with
    | true => exact ⟨W1, S1, H0, env, o1, eo.ext e1, d, S', h2, fun W2 H2 v e2 o2 r2 => q W2 H2 v (e1.trans e2) o2 r2⟩
    | false => exact ⟨W1, S1, H0, env, o1, eo.ext e1, d, S', h2, fun W2 H2 v e2 o2 r2 => q W2 H2 v (e1.trans e2) o2 r2⟩

/-! ### calls of the program's own defs -/
/-- what a def promises: what the calls' function C says -/
def spC (K : PySem.W.Frag) (C : Calls) (f : Nat) (m : Nat) : Sp := fun vs H Q _ => vs.length = m ∧ ∃ W S ds r S', WOk K W S H ∧ RepL K W.G W.r ds vs ∧ C f ds S = .ok r S' ∧ ∀ W' H' v, Ext W H W' H' → WOk K W' S' H' → RepR K W' H' H r v → Q v H'
/-- the facts of the text that a body may lean on: each def of the table keeps its promise, by C -/
structure Fx (P : Program) (w : World) (K : PySem.W.Frag) (mg : Str → Option Value) (base : Heap) (A : Around) (n : Nat) (T : Nat → Option (Str × Nat)) (C : Calls) : Prop where
  room : Room n A
  ar : ∀ f x m ds S r S', T f = some (x, m) → C f ds S = .ok r S' → ds.length = m
  fn : ∀ f x m, T f = some (x, m) → ∃ (a : Addr) (fd : FuncData) (ps : List Str), mg x = some (.ref a) ∧ PySem.W.keepIn K (.ref a) = true ∧ Binds K fd ps [] ∧ ps.length = m ∧ FnOk P w K mg base CX0 n a fd ps (spC K C f m)
variable {n : Nat} {T : Nat → Option (Str × Nat)} {C : Calls}
theorem me_call (F : Fx X.prog X.w X.K X.mg X.base X.A n T C) (f : Nat) {x : Str} {p : Pos} {es : List Expr} {da : DA} {m : Nat} (hT : T f = some (x, m)) (hg : Gl X x) (ha : PA X (e :: es) (tAV X.K da))
    (hdb : (x == ("__debug__" : Str)) = false := by decide) (he : starEach (e :: es) X.env = (false, eval e X.env) :: starEach es X.env := by rfl) (hpl : (backTo pos (starEach es X.env)).any (·.1) = false := by rfl) :
    PE X (.Call (.Name x p) (e :: es) [] pos) (tR X.K (dCall C f da)) := by
  obtain ⟨a, fd, ps, h1, h2, h3, h4, h5⟩ := F.fn f x m hT
  refine PE.imp (pe_call h5 F.room hg h1 h2 h3 .nil pass0 ha hdb he hpl) fun σ H Q ⟨W, S, H0, env, ok, eo, d, S', h, q⟩ => ?_
  obtain ⟨xs, S1, h6, h7⟩ := bind_ok h
  refine ⟨W, S, H0, env, ok, eo, xs, S1, h6, fun W1 H1 v e1 o1 r1 => ?_⟩
  show spC X.K C f m (v ++ []) H1 Q E0
  rw [List.append_nil]
  exact ⟨by rw [← r1.length]; exact F.ar _ _ _ _ _ _ _ hT h7, W1, S1, xs, d, S', o1, r1, h7, fun W2 H2 z e2 o2 r2 => q W2 H2 z (e1.trans e2) o2 (r2.back fun a h => e1.fresh h)⟩
end
end MP

namespace MP
open PySem PySem.Spec PyProof.Rows L2

/-! ### targets -/
inductive Tg where
  | nm (i : Nat) | tp (ts : List Tg)
mutual
def bindTg : Tg → D → Envm → Option Envm
  | .nm i, d, e => some (e.set i (.va d))
  | .tp ts, .tup ds, e => bindTgs ts ds e
  | .tp ts, .lst ds, e => bindTgs ts ds e
  | .tp _, _, _ => none
def bindTgs : List Tg → List D → Envm → Option Envm
  | [], [], e => some e
  | t :: ts, d :: ds, e => match bindTg t d e with
    | some e1 => bindTgs ts ds e1
    | none => none
  | _, _, _ => none
end
mutual
def Tg.slots : Tg → List Nat
  | .nm i => [i]
  | .tp ts => slotsL ts
def slotsL : List Tg → List Nat
  | [] => []
  | t :: ts => t.slots ++ slotsL ts
end
/-- only these slots differ -/
structure SetOf (is : List Nat) (σ σ' : L2.St) : Prop where
  len : σ'.length = σ.length
  out : ∀ j, j ∉ is → σ'[j]? = σ[j]?
theorem SetOf.trans {is js : List Nat} {a b c : L2.St} (h : SetOf is a b) (k : SetOf js b c) : SetOf (is ++ js) a c :=
  ⟨k.len.trans h.len, fun j n => (k.out j fun z => n (List.mem_append_right _ z)).trans (h.out j fun z => n (List.mem_append_left _ z))⟩
section
variable {K : PySem.W.Frag} {W : Wd} {H H0 : Hp} {e : Envm} {σ : L2.St}
theorem EnvOk.setV (q : EnvOk K W H H0 e σ) {d : D} {v : V} (r : Rep K W.G W.r d v) (i : Nat) : EnvOk K W H H0 (e.set i (.va d)) (σ.set i (some v)) := by
  refine ⟨by rw [List.length_set, List.length_set]; exact q.len, fun j s o h1 h2 => ?_, fun j k x y a h1 h2 h3 h4 => ?_⟩
  · by_cases hj : i = j
    · subst hj
      by_cases hi : i < e.length
      · rw [List.getElem?_set_self hi] at h1
        cases h1
        rw [List.getElem?_set_self (by rw [← q.len]; exact hi)] at h2
        cases h2
        exact ⟨v, rfl, r⟩
      · rw [List.getElem?_eq_none (by rw [List.length_set]; omega)] at h1
        cases h1
    · rw [List.getElem?_set_ne hj] at h1 h2
      exact q.sl j s o h1 h2
  · have f : ∀ (m : Nat) (z : O), (e.set i (.va d))[m]? = some (.ow z) → i ≠ m ∧ e[m]? = some (.ow z) := fun m z hm => by
      by_cases c : i = m
      · subst c
        by_cases hi : i < e.length
        · rw [List.getElem?_set_self hi] at hm; cases hm
        · rw [List.getElem?_eq_none (by rw [List.length_set]; omega)] at hm; cases hm
      · rw [List.getElem?_set_ne c] at hm
        exact ⟨c, hm⟩
    obtain ⟨n1, g1⟩ := f j x h1
    obtain ⟨n2, g2⟩ := f k y h2
    rw [List.getElem?_set_ne n1] at h3
    rw [List.getElem?_set_ne n2] at h4
    exact q.dis j k x y a g1 g2 h3 h4
theorem setOf_one (σ : L2.St) (i : Nat) (o : Option V) : SetOf [i] σ (σ.set i o) := ⟨by rw [List.length_set], fun j n => by
  rw [List.getElem?_set_ne fun z => n (by simp [z])]⟩
end
section
variable (K : PySem.W.Frag)
def gT (t : Tg) : TG := fun v σ H Q => ∃ W S H0 env d, WOk K W S H ∧ EnvOk K W H H0 env σ ∧ Rep K W.G W.r d v ∧ ∃ env', bindTg t d env = some env' ∧ ∀ σ', EnvOk K W H H0 env' σ' → SetOf t.slots σ σ' → Q σ' H
def gTs (ts : List Tg) : TGs := fun vs σ H Q => ∃ W S H0 env ds, WOk K W S H ∧ EnvOk K W H H0 env σ ∧ RepL K W.G W.r ds vs ∧ ∃ env', bindTgs ts ds env = some env' ∧ ∀ σ', EnvOk K W H H0 env' σ' → SetOf (slotsL ts) σ σ' → Q σ' H
end
section
variable {X : Cx} {pos : Pos}
theorem PGs.imp {ts : List Expr} {t t' : TGs} (h : PGs X ts t) (i : ∀ v σ H R, t' v σ H R → t v σ H R) : PGs X ts t' := ⟨fun pins s σ H v u Q I r q => h.run pins s σ H v u Q I r (i v σ H Q q)⟩
theorem mg_name {i : Nat} {x : Str} (hN : X.N.Nodup) (hi : X.N[i]? = some x) (hx : Loc X.env.scope x) (hf : X.fn x = true ∨ X.env.scope.names.lookup x = some .local := by first | exact .inl rfl | exact .inr rfl | assumption) : PG X (.Name x pos) (gT X.K (.nm i)) :=
  PG.imp (pg_name hN hi hx hf) fun v σ H Q ⟨W, S, H0, env, d, ok, eo, r, env', h, q⟩ => by
    unfold bindTg at h
    cases h
    exact q _ (eo.setV r i) (by unfold Tg.slots; exact setOf_one σ i _)
theorem mgs_nil : PGs X [] (gTs X.K []) := PGs.imp pgs_nil fun v σ H Q ⟨W, S, H0, env, d, ok, eo, r, env', h, q⟩ => by
  cases r with
  | nil =>
    unfold bindTgs at h
    cases h
    exact ⟨rfl, q σ eo ⟨rfl, fun _ _ => rfl⟩⟩
  | cons _ _ => unfold bindTgs at h; cases h
theorem mgs_cons {e : Expr} {es : List Expr} {t : Tg} {ts : List Tg} (h1 : PG X e (gT X.K t)) (h2 : PGs X es (gTs X.K ts)) (hs : (assignEach (e :: es) X.env).map (·.2) = assign e X.env :: (assignEach es X.env).map (·.2) := by rfl) : PGs X (e :: es) (gTs X.K (t :: ts)) :=
  PGs.imp (pgs_cons h1 h2 hs) fun v σ H Q ⟨W, S, H0, env, d, ok, eo, r, env', h, q⟩ => by
    cases r with
    | nil => unfold bindTgs at h; cases h
    | cons r1 r2 =>
      unfold bindTgs at h
      split at h
      · rename_i e1 he1
        exact ⟨_, _, rfl, W, S, H0, env, _, ok, eo, r1, e1, he1, fun σ1 eo1 so1 => ⟨W, S, H0, e1, _, ok, eo1, r2, env', h, fun σ2 eo2 so2 => q σ2 eo2 (by unfold slotsL; exact so1.trans so2)⟩⟩
      · cases h
theorem bindTgs_len : ∀ {ts : List Tg} {ds : List D} {e e' : Envm}, bindTgs ts ds e = some e' → ds.length = ts.length
  | [], [], _, _, _ => rfl
  | t :: ts, d :: ds, e, e', h => by
    unfold bindTgs at h
    split at h
    · have := bindTgs_len h
      simp [this]
    · cases h
  | [], _ :: _, _, _, h => by unfold bindTgs at h; cases h
  | _ :: _, [], _, _, h => by unfold bindTgs at h; cases h
theorem PG.or {tg : Expr} {t t' : TG} (h : PG X tg t) (h' : PG X tg t') : PG X tg (fun v σ H Q => t v σ H Q ∨ t' v σ H Q) := ⟨fun pins s σ H v u Q I r q => q.elim (fun z => h.run pins s σ H v u Q I r z) fun z => h'.run pins s σ H v u Q I r z⟩
theorem mg_tup {es : List Expr} {k : Nat} {ts : List Tg} (hc : X.calm = true) (h : PGs X es (gTs X.K ts)) (hl : ts.length = es.length)
    (hn : (assignEach es X.env).length = es.length := by rfl) (hst : (assignEach es X.env).findIdx? (·.1) = none := by rfl) : PG X (.Tuple es k pos) (gT X.K (.tp ts)) :=
  PG.imp (PG.or (pg_tup (n := es.length) hc h hn hst) (pg_unl (n := es.length) hc h hn hst)) fun v σ H Q ⟨W, S, H0, env, d, ok, eo, r, env', h, q⟩ => by
    cases r with
    | @tup a xs ds r1 r2 =>
      unfold bindTg at h
      exact .inl ⟨_, _, rfl, SqT.of (ok.sub _ _ r1), by rw [← r2.length, bindTgs_len h]; exact hl, W, S, H0, env, _, ok, eo, r2, env', h, fun σ' eo' so => q σ' eo' (by unfold Tg.slots; exact so)⟩
    | @lst a xs ds r1 r2 =>
      unfold bindTg at h
      exact .inr ⟨_, _, rfl, SqL.of (ok.sub _ _ r1), by rw [← r2.length, bindTgs_len h]; exact hl, W, S, H0, env, _, ok, eo, r2, env', h, fun σ' eo' so => q σ' eo' (by unfold Tg.slots; exact so)⟩
    | _ => unfold bindTg at h; cases h
end

/-! ### what is walked -/
section
variable (K : PySem.W.Frag)
structure WalkM (P : Wd → Hp → Prop) (J : It) (ds : List D) : Prop where
  go : ∀ (i : Nat) W S H, i < ds.length → WOk K W S H → P W H → J.go i H
  stop : ∀ W S H, WOk K W S H → P W H → J.stop ds.length H
  yld : ∀ (i : Nat) W S H x H', i < ds.length → WOk K W S H → P W H → J.yld i H x H' → ∃ W' d, ds[i]? = some d ∧ Ext W H W' H' ∧ WOk K W' S H' ∧ Rep K W'.G W'.r d x
def PF (W : Wd) : Wd → Hp → Prop := fun W1 _ => Gr W W1
def PB (W : Wd) (H : Hp) : Wd → Hp → Prop := fun W1 H1 => Ext W H W1 H1
def iF (di : DA) : TI := fun σ H R => ∃ W S H0 env, WOk K W S H ∧ EnvOk K W H H0 env σ ∧ ∃ ds S', di env S = .ok ds S' ∧ ∀ W' H' J, Ext W H W' H' → WOk K W' S' H' → WalkM K (PF W') J ds → R J H'
def iB (di : DA) : TI := fun σ H R => ∃ W S H0 env, WOk K W S H ∧ EnvOk K W H H0 env σ ∧ ∃ ds S', di env S = .ok ds S' ∧ ∀ W' H' J, Ext W H W' H' → WOk K W' S' H' → WalkM K (PB W' H') J ds → R J H'
end
section
variable {X : Cx} {tg : Expr}
theorem WalkM.imp {K : PySem.W.Frag} {P P' : Wd → Hp → Prop} {J : It} {ds : List D} (w : WalkM K P J ds) (h : ∀ W H, P' W H → P W H) : WalkM K P' J ds :=
  ⟨fun i W S H hi ok p => w.go i W S H hi ok (h W H p), fun W S H ok p => w.stop W S H ok (h W H p), fun i W S H x H' hi ok p y => w.yld i W S H x H' hi ok (h W H p) y⟩
theorem pi_fb {it : Expr} {di : DA} (h : PI X tg it (iF X.K di)) : PI X tg it (iB X.K di) := PI.imp h fun σ H R ⟨W, S, H0, env, ok, eo, ds, S', h, q⟩ =>
  ⟨W, S, H0, env, ok, eo, ds, S', h, fun W' H' J e o w => q W' H' J e o (w.imp fun W1 H1 p => ⟨p.g, p.r⟩)⟩
/-- a list or tuple -/
theorem pi_sq {l : Expr} {tl : TE} (hl : PE X l tl) : PI X tg l (fun σ H R => tl σ H fun x H1 => ∃ a, x = .ref a ∧ (((∃ xs, SqL X.K H1 a xs) ∧ R (Itl X.K a) H1) ∨ ((∃ xs, SqT X.K H1 a xs) ∧ R (Itt X.K a) H1))) := by
  refine ⟨fun pins s σ H R I h => ?_⟩
  refine thn (hl.run pins s σ H _ I h) fun v s1 ⟨x, H1, I1, r1, q1⟩ => ?_
  obtain ⟨a, e, q1⟩ := q1
  subst e
  cases r1
  rcases q1 with ⟨⟨xs, hq⟩, q⟩ | ⟨⟨xs, hq⟩, q⟩
  · obtain ⟨its, rv, p, hz⟩ := I1.list hq
    refine wpAny_pyIter_list p.isList ?_
    refine ⟨s1.heap.objs.size, [s1.heap.objs.size], _, _, H1, rfl, I1.kept (t' := s1.toks) fun b o e => Heap.get?_push_of_some _ e, turn_list a _, ⟨_, Heap.get?_push_size _ rfl, rfl, rfl⟩, fun b hb => ?_, q⟩
    have e : b = s1.heap.objs.size := by simpa using hb
    subst e
    exact I1.fpOk (Nat.le_refl _) (I1.hok.fresh (Nat.le_refl _))
  · obtain ⟨its, rv, p, hz⟩ := I1.tuple hq
    refine wpAny_pyIter_tuple (show s1.heap.IsTuple a its.toArray from p) ?_
    refine ⟨s1.heap.objs.size, [s1.heap.objs.size], _, _, H1, rfl, I1.kept (t' := s1.toks) fun b o e => Heap.get?_push_of_some _ e, turn_tuple a _, ⟨_, Heap.get?_push_size _ rfl, rfl, rfl⟩, fun b hb => ?_, q⟩
    have e : b = s1.heap.objs.size := by simpa using hb
    subst e
    exact I1.fpOk (Nat.le_refl _) (I1.hok.fresh (Nat.le_refl _))
def itemsOf : D → Option (List D)
  | .tup ds => some ds
  | .lst ds => some ds
  | _ => none
def dSeq (de : DE) : DA := fun env S => (de env S).bind fun d S1 => match itemsOf d with
  | some ds => .ok ds S1
  | none => .bad
theorem walkL {K : PySem.W.Frag} {a : Addr} {xs : List V} {ds : List D} {P : Wd → Hp → Prop} (h : ∀ W S H, WOk K W S H → P W H → H a = some (.lst xs) ∧ RepL K W.G W.r ds xs) (hl : ds.length = xs.length) : WalkM K P (Itl K a) ds := by
  refine ⟨fun i W S H hi ok p => ?_, fun W S H ok p => ?_, fun i W S H x H' hi ok p y => ?_⟩
  · obtain ⟨h1, h2⟩ := h W S H ok p
    exact ⟨xs, xs[i]'(by omega), SqL.of h1, List.getElem?_eq_getElem _⟩
  · obtain ⟨h1, h2⟩ := h W S H ok p
    exact ⟨xs, SqL.of h1, by omega⟩
  · obtain ⟨h1, h2⟩ := h W S H ok p
    obtain ⟨rfl, y2⟩ := y
    obtain ⟨d, g1, g2⟩ := h2.getV (y2 xs (SqL.of h1))
    exact ⟨W, d, g1, Ext.refl _ _, ok, g2⟩
theorem walkT {K : PySem.W.Frag} {a : Addr} {xs : List V} {ds : List D} {P : Wd → Hp → Prop} (h : ∀ W S H, WOk K W S H → P W H → SqT K H a xs ∧ RepL K W.G W.r ds xs) (hl : ds.length = xs.length) : WalkM K P (Itt K a) ds := by
  refine ⟨fun i W S H hi ok p => ?_, fun W S H ok p => ?_, fun i W S H x H' hi ok p y => ?_⟩
  · obtain ⟨h1, h2⟩ := h W S H ok p
    exact ⟨xs, xs[i]'(by omega), h1, List.getElem?_eq_getElem _⟩
  · obtain ⟨h1, h2⟩ := h W S H ok p
    exact ⟨xs, h1, by omega⟩
  · obtain ⟨h1, h2⟩ := h W S H ok p
    obtain ⟨rfl, y2⟩ := y
    obtain ⟨d, g1, g2⟩ := h2.getV (y2 xs h1)
    exact ⟨W, d, g1, Ext.refl _ _, ok, g2⟩
theorem mi_seq {l : Expr} {de : DE} (hl : PE X l (tV X.K de)) : PI X tg l (iF X.K (dSeq de)) := PI.imp (pi_sq hl) fun σ H R ⟨W, S, H0, env, ok, eo, ds, S', h, q⟩ => by
  obtain ⟨d, S1, h1, h2⟩ := bind_ok h
  refine ⟨W, S, H0, env, ok, eo, d, S1, h1, fun W1 H1 v e1 o1 r1 => ?_⟩
  cases r1 with
  | @tup a xs ds' r1 r2 =>
    cases h2
    exact ⟨a, rfl, .inr ⟨⟨xs, SqT.of (o1.sub _ _ r1)⟩, q W1 H1 _ e1 o1 (walkT (fun W2 S2 H2 o2 p => ⟨SqT.of (o2.sub _ _ (p.g _ _ r1)), r2.mono p.g p.r⟩) r2.length)⟩⟩
  | @lst a xs ds' r1 r2 =>
    cases h2
    exact ⟨a, rfl, .inl ⟨⟨xs, SqL.of (o1.sub _ _ r1)⟩, q W1 H1 _ e1 o1 (walkL (fun W2 S2 H2 o2 p => ⟨o2.sub _ _ (p.g _ _ r1), r2.mono p.g p.r⟩) r2.length)⟩⟩
  | _ => cases h2
theorem mi_seqB {l : Expr} {de : DE} (hl : PE X l (MP.tB X.K de)) : PI X tg l (iB X.K (dSeq de)) := PI.imp (pi_sq hl) fun σ H R ⟨W, S, H0, env, ok, eo, ds, S', h, q⟩ => by
  obtain ⟨d, S1, h1, h2⟩ := bind_ok h
  refine ⟨W, S, H0, env, ok, eo, d, S1, h1, fun W1 H1 v e1 o1 r1 => ?_⟩
  rcases r1 with r1 | ⟨y, a, u, z1, z2, z3, z4, z5, z6⟩
  · cases r1 with
    | @tup a xs ds' r1 r2 =>
      cases h2
      exact ⟨a, rfl, .inr ⟨⟨xs, SqT.of (o1.sub _ _ r1)⟩, q W1 H1 _ e1 o1 (walkT (fun W2 S2 H2 o2 p => ⟨SqT.of (o2.sub _ _ (p.g _ _ r1)), r2.mono p.g p.r⟩) r2.length)⟩⟩
    | @lst a xs ds' r1 r2 =>
      cases h2
      exact ⟨a, rfl, .inl ⟨⟨xs, SqL.of (o1.sub _ _ r1)⟩, q W1 H1 _ e1 o1 (walkL (fun W2 S2 H2 o2 p => ⟨o2.sub _ _ (p.g _ _ r1), r2.mono p.g p.r⟩) r2.length)⟩⟩
    | _ => cases h2
  · subst z1 z2
    cases z4 with
    | @l ds' xs r2 =>
      cases h2
      exact ⟨a, rfl, .inl ⟨⟨xs, SqL.of z3⟩, q W1 H1 _ e1 o1 (walkL (fun W2 S2 H2 o2 p => ⟨(p.out z3 (fun _ h => nomatch h) z5 z6).1, r2.mono p.g p.r⟩) r2.length)⟩⟩
    | _ => cases h2
/-! ranges -/
def rangeD (lo hi : Int) : List D := (List.range (hi - lo).toNat).map fun i => .int (lo + (i : Nat))
def dRange1 (da : DE) : DA := fun env S => (da env S).bind fun d S1 => match d with
  | .int j => if j ≤ 100000 ∧ -100000 ≤ j then .ok (rangeD 0 j) S1 else .bad
  | _ => .bad
def dRange2 (da db : DE) : DA := fun env S => (da env S).bind fun x S1 => (db env S1).bind fun y S2 => match x, y with
  | .int i, .int j => if (i ≤ 100000 ∧ -100000 ≤ i) ∧ (j ≤ 100000 ∧ -100000 ≤ j) then .ok (rangeD i j) S2 else .bad
  | _, _ => .bad
theorem walkR {K : PySem.W.Frag} {P : Wd → Hp → Prop} (lo hi : Int) : WalkM K P (Itr lo (hi - lo).toNat) (rangeD lo hi) := by
  refine ⟨fun i W S H hl ok p => ?_, fun W S H ok p => ?_, fun i W S H x H' hl ok p y => ?_⟩
  · have hl' : i < (hi - lo).toNat := by
      have e : (rangeD lo hi).length = (hi - lo).toNat := by simp [rangeD]
      rw [e] at hl
      exact hl
    exact hl'
  · have e : (rangeD lo hi).length = (hi - lo).toNat := by simp [rangeD]
    show (hi - lo).toNat ≤ _
    rw [e]
    exact Nat.le_refl _
  · obtain ⟨rfl, rfl⟩ := y
    unfold rangeD at hl ⊢
    have hl' : i < (hi - lo).toNat := by simpa using hl
    exact ⟨W, .int (lo + (i : Nat)), by simp [hl'], Ext.refl _ _, ok, .int _⟩
theorem mi_range1 {a : Expr} {da : DE} {p pos : Pos} (hg : Gl X "range") (hm : X.mg "range" = none) (ha : PE X a (tV X.K da)) (hs : starEach [a] X.env = [(false, eval a X.env)] := by rfl) : PI X tg (.Call (.Name "range" p) [a] [] pos) (iF X.K (dRange1 da)) :=
  PI.imp (pi_range1 hg hm (pa_cons ha pa_nil hs) hs) fun σ H R ⟨W, S, H0, env, ok, eo, ds, S', h, q⟩ => by
    obtain ⟨d, S1, h1, h2⟩ := bind_ok h
    refine ⟨W, S, H0, env, ok, eo, d, S1, h1, fun W1 H1 v e1 o1 r1 => ?_⟩
    cases r1 with
    | int j =>
      have h2 : (if j ≤ 100000 ∧ -100000 ≤ j then Res.ok (rangeD 0 j) S1 else .bad) = .ok ds S' := h2
      split at h2
      · injection h2 with h3 h4
        subst h3; subst h4
        have := walkR (K := X.K) (P := PF W1) 0 j
        rw [Int.sub_zero] at this
        exact ⟨j, rfl, by omega, by omega, q W1 H1 _ e1 o1 this⟩
      · cases h2
    | _ => cases h2
theorem mi_range2 {a b : Expr} {da db : DE} {p pos : Pos} (hg : Gl X "range") (hm : X.mg "range" = none) (ha : PE X a (tV X.K da)) (hb : PE X b (tV X.K db)) (hs : starEach [a, b] X.env = [(false, eval a X.env), (false, eval b X.env)] := by rfl) (hs2 : starEach [b] X.env = [(false, eval b X.env)] := by rfl) : PI X tg (.Call (.Name "range" p) [a, b] [] pos) (iF X.K (dRange2 da db)) :=
  PI.imp (pi_range2 hg hm (pa_cons ha (pa_cons hb pa_nil (by rw [hs2]; rfl)) (by rw [hs, hs2])) hs hs2) fun σ H R ⟨W, S, H0, env, ok, eo, ds, S', h, q⟩ => by
    obtain ⟨d, S1, h1, h2⟩ := bind_ok h
    obtain ⟨d2, S2, h3, h4⟩ := bind_ok h2
    refine ⟨W, S, H0, env, ok, eo, d, S1, h1, fun W1 H1 v e1 o1 r1 => ?_⟩
    refine ⟨W1, S1, H0, env, o1, eo.ext e1, d2, S2, h3, fun W2 H2 u e2 o2 r2 => ?_⟩
    cases r1 with
    | int i =>
      cases r2 with
      | int j =>
        have h4 : (if (i ≤ 100000 ∧ -100000 ≤ i) ∧ (j ≤ 100000 ∧ -100000 ≤ j) then Res.ok (rangeD i j) S2 else .bad) = .ok ds S' := h4
        split at h4
        · injection h4 with h5 h6
          subst h5; subst h6
          exact ⟨i, j, rfl, ⟨by omega, by omega, by omega, by omega⟩, q W2 H2 _ (e1.trans e2) o2 (walkR i j)⟩
        · cases h4
      | _ => cases h4
    | _ => cases h4
end

/-! ### comprehensions -/
def wipeE (e : Envm) : List Nat → Envm
  | [] => e
  | v :: vs => (wipeE e vs).set v .no
def compL (tg : Tg) (dc : DT) (de : DE) (env : Envm) : List D → Sto → Res (List D)
  | [], S => .ok [] S
  | d :: ds, S => match bindTg tg d env with
    | none => .bad
    | some e1 => (dc e1 S).bind fun b S1 => if b = true then (de e1 S1).bind fun y S2 => (compL tg dc de env ds S2).map (y :: ·) else compL tg dc de env ds S1
def dComp (di : DA) (own : List Nat) (tg : Tg) (dc : DT) (de : DE) : DR := fun env S => (di env S).bind fun ds S1 => if ds.length ≤ 100000 then (compL tg dc de (wipeE env own) ds S1).map fun ys => .o (.l ys) else .bad
def dYes : DT := fun _ S => .ok true S
section
variable {X : Cx}
theorem mts_nil : PTs X [] (tT X.K dYes) := PTs.imp pts_nil fun σ H Q ⟨W, S, H0, env, ok, eo, d, S', h, q⟩ => by
  cases h
  exact q W H (Ext.refl _ _) ok
theorem mts_one {c : Expr} {dc : DT} (h : PT X c (tT X.K dc)) : PTs X [c] (tT X.K dc) := pts_one h
theorem EnvOk.wipe {K : PySem.W.Frag} {W : Wd} {H H0 : Hp} {e : Envm} {σ : L2.St} (q : EnvOk K W H H0 e σ) : ∀ vs : List Nat, EnvOk K W H H0 (wipeE e vs) (L2.wipe σ vs)
  | [] => q
  | v :: vs => by
    have ih := q.wipe vs
    unfold wipeE L2.wipe
    refine ⟨by rw [List.length_set, List.length_set]; exact ih.len, fun j s o h1 h2 => ?_, fun j k x y a h1 h2 h3 h4 => ?_⟩
    · by_cases hj : v = j
      · subst hj
        by_cases hi : v < (wipeE e vs).length
        · rw [List.getElem?_set_self hi] at h1
          cases h1
          trivial
        · rw [List.getElem?_eq_none (by rw [List.length_set]; omega)] at h1
          cases h1
      · rw [List.getElem?_set_ne hj] at h1 h2
        exact ih.sl j s o h1 h2
    · have f : ∀ (m : Nat) (z : O), ((wipeE e vs).set v .no)[m]? = some (.ow z) → v ≠ m ∧ (wipeE e vs)[m]? = some (.ow z) := fun m z hm => by
        by_cases c : v = m
        · subst c
          by_cases hi : v < (wipeE e vs).length
          · rw [List.getElem?_set_self hi] at hm; cases hm
          · rw [List.getElem?_eq_none (by rw [List.length_set]; omega)] at hm; cases hm
        · rw [List.getElem?_set_ne c] at hm
          exact ⟨c, hm⟩
      obtain ⟨n1, g1⟩ := f j x h1
      obtain ⟨n2, g2⟩ := f k y h2
      rw [List.getElem?_set_ne n1] at h3
      rw [List.getElem?_set_ne n2] at h4
      exact ih.dis j k x y a g1 g2 h3 h4
theorem wipe_len (σ : L2.St) : ∀ vs : List Nat, (L2.wipe σ vs).length = σ.length := wipe_length σ
theorem wipe_out' {σ : L2.St} {i : Nat} : ∀ {vs : List Nat}, i ∉ vs → (L2.wipe σ vs)[i]? = σ[i]?
  | [], _ => rfl
  | v :: vs, h => by
    unfold L2.wipe
    rw [List.getElem?_set_ne fun z => h (by simp [z])]
    exact wipe_out' fun z => h (List.mem_cons_of_mem _ z)
theorem wipe_in {σ : L2.St} {i : Nat} : ∀ {vs : List Nat}, i ∈ vs → i < σ.length → (L2.wipe σ vs)[i]? = some none
  | v :: vs, h, hi => by
    unfold L2.wipe
    by_cases c : v = i
    · subst c
      rw [List.getElem?_set_self (by rw [wipe_len]; exact hi)]
    · rw [List.getElem?_set_ne c]
      rcases List.mem_cons.mp h with z | z
      · exact absurd z.symm c
      · exact wipe_in z hi
theorem wipe_setOf {σ σ' : L2.St} {is own : List Nat} (h : SetOf is σ σ') (hs : ∀ i ∈ is, i ∈ own) : L2.wipe σ' own = L2.wipe σ own := by
  apply List.ext_getElem?
  intro i
  by_cases hi : i ∈ own
  · by_cases hl : i < σ.length
    · rw [wipe_in hi hl, wipe_in hi (by rw [h.len]; exact hl)]
    · rw [List.getElem?_eq_none (by rw [wipe_len, h.len]; omega), List.getElem?_eq_none (by rw [wipe_len]; omega)]
  · rw [wipe_out' hi, wipe_out' hi]
    exact h.out i fun z => hi (hs i z)
theorem wipe_wipe {σ : L2.St} {own : List Nat} : L2.wipe (L2.wipe σ own) own = L2.wipe σ own := by
  apply List.ext_getElem?
  intro i
  by_cases hi : i ∈ own
  · by_cases hl : i < σ.length
    · rw [wipe_in hi (by rw [wipe_len]; exact hl), wipe_in hi hl]
    · rw [List.getElem?_eq_none (by rw [wipe_len, wipe_len]; omega), List.getElem?_eq_none (by rw [wipe_len]; omega)]
  · rw [wipe_out' hi]
theorem compL_drop {tg : Tg} {dc : DT} {de : DE} {env : Envm} {ds : List D} {i : Nat} (hi : i < ds.length) : ds.drop i = ds[i] :: ds.drop (i + 1) := List.drop_eq_getElem_cons hi
/-- the reading of a comprehension -/
theorem comp_of {K : PySem.W.Frag} {di : DA} {own : List Nat} {tg : Tg} {dc : DT} {de : DE} {σ : L2.St} {H : Hp} {Q : VK} (hs : ∀ i ∈ tg.slots, i ∈ own) (h : tR K (dComp di own tg dc de) σ H Q) : tLc (iB K di) (gT K tg) (tT K dc) (tV K de) own σ H Q := by
  obtain ⟨W, S, H0, env, ok, eo, r, S', h, q⟩ := h
  obtain ⟨ds, S1, h1, h2⟩ := bind_ok h
  split at h2
  case isFalse => cases h2
  rename_i hlen
  obtain ⟨ys, h3, h4⟩ := map_ok h2
  subst h4
  refine ⟨W, S, H0, env, ok, eo, ds, S1, h1, fun W1 H1 J e1 o1 w1 => ?_⟩
  intro D hD
  -- the invariant: what has been made stands at D, the rest is as the function says
  refine ⟨fun i m Hc => m = ds.length - i ∧ i ≤ ds.length ∧ ∃ W2 S2 acc xs zs, Ext W1 H1 W2 Hc ∧ WOk K W2 S2 Hc ∧ EnvOk K W2 Hc H0 env σ ∧ RepL K W2.G W2.r acc xs ∧ Hc D = some (.lst xs) ∧ W2.G D = none ∧ D ∉ W2.r ∧ acc.length ≤ i ∧ compL tg dc de (wipeE env own) (ds.drop i) S2 = .ok zs S' ∧ ys = acc ++ zs, ⟨ds.length, by simp, Nat.zero_le _, ?_⟩, ?_⟩
  · have x1 : Ext W1 H1 W1 (upd H1 D (.lst [])) := lay_ext W1 hD
    exact ⟨W1, S1, [], [], ys, x1, lay_ok o1 hD, (eo.ext e1).ext x1, .nil, upd_same, o1.gnone hD, o1.rnone hD, by simp, by simpa using h3, by simp⟩
  · rintro i m Hc ⟨rfl, hi, W2, S2, acc, xs, zs, x2, o2, eo2, r2, hD2, gD2, rD2, hacc, hc, hys⟩
    by_cases hlt : i < ds.length
    · refine .inr ⟨w1.go i W2 S2 Hc hlt o2 x2, fun Hn => ∃ W2 S2 acc xs zs, Ext W1 H1 W2 Hn ∧ WOk K W2 S2 Hn ∧ EnvOk K W2 Hn H0 env σ ∧ RepL K W2.G W2.r acc xs ∧ Hn D = some (.lst xs) ∧ W2.G D = none ∧ D ∉ W2.r ∧ acc.length ≤ i + 1 ∧ compL tg dc de (wipeE env own) (ds.drop (i + 1)) S2 = .ok zs S' ∧ ys = acc ++ zs, fun Hn hn => ⟨ds.length - (i + 1), by omega, rfl, hlt, hn⟩, fun x Hy hy => ?_⟩
      obtain ⟨W3, d, hd, x3, o3, rd⟩ := w1.yld i W2 S2 Hc x Hy hlt o2 x2 hy
      have ed : ds[i] = d := by
        rw [List.getElem?_eq_getElem hlt] at hd
        exact Option.some.inj hd
      rw [List.drop_eq_getElem_cons hlt, ed] at hc
      unfold compL at hc
      have eo3 : EnvOk K W3 Hy H0 (wipeE env own) (L2.wipe σ own) := (eo2.ext x3).wipe own
      split at hc
      · cases hc
      rename_i e1' he1
      obtain ⟨b, S3, hb1, hb2⟩ := bind_ok hc
      obtain ⟨hDy, gDy, rDy⟩ := x3.out hD2 (fun _ h => nomatch h) gD2 rD2
      refine ⟨W3, S2, H0, wipeE env own, d, o3, eo3, rd, e1', he1, fun σ3 eo4 so => ⟨?_, ?_⟩⟩
      · rw [wipe_setOf so hs, wipe_wipe]
      · refine ⟨W3, S2, H0, e1', o3, eo4, b, S3, hb1, fun W4 H4 x4 o4 => ?_⟩
        obtain ⟨hD4, gD4, rD4⟩ := x4.out hDy (fun _ h => nomatch h) gDy rDy
        have x24 := x3.trans x4
        cases b with
        | true =>
          have hb2 : ((de e1' S3).bind fun y S2 => (compL tg dc de (wipeE env own) (ds.drop (i + 1)) S2).map (y :: ·)) = .ok zs S' := hb2
          obtain ⟨y, S4, hy1, hy2⟩ := bind_ok hb2
          obtain ⟨zs', hz1, hz2⟩ := map_ok hy2
          subst hz2
          refine ⟨W4, S3, H0, e1', o4, eo4.ext x4, y, S4, hy1, fun W5 H5 v x5 o5 r5 => ?_⟩
          obtain ⟨hD5, gD5, rD5⟩ := x5.out hD4 (fun _ h => nomatch h) gD4 rD4
          have x25 := x24.trans x5
          have x6 : Ext W1 H1 W5 (upd H5 D (.lst (xs ++ [v]))) := by
            have z := x2.trans x25
            have hD0 : H1 D = none := hD
            exact ⟨z.g, z.r, z.gn, z.rn, fun a o e n => by rw [upd_ne (ne_of_none e hD0)]; exact z.h a o e n, fun a o e => by rw [upd_ne (ne_of_none e hD0)]; exact z.k a o e⟩
          have o6 : WOk K W5 S4 (upd H5 D (.lst (xs ++ [v]))) := by
            refine ⟨fun a o e => ?_, o5.nd, o5.len, fun n yy e => ?_, o5.ng⟩
            · rw [upd_ne (ne_of_none e gD5)]
              exact o5.sub a o e
            · obtain ⟨c, u, c1, c2, c3⟩ := o5.cell n yy e
              have nc : c ≠ D := fun z => rD5 (by rw [← z]; exact List.mem_of_getElem? c1)
              exact ⟨c, u, c1, by rw [upd_ne nc]; exact c2, c3⟩
          have eo6 : EnvOk K W5 (upd H5 D (.lst (xs ++ [v]))) H0 env σ := by
            have eo5 := (eo2.ext x25)
            refine ⟨eo5.len, fun j s o g1 g2 => ?_, eo5.dis⟩
            have z := eo5.sl j s o g1 g2
            cases s with
            | no => trivial
            | va d => exact z
            | ow y0 =>
              obtain ⟨a, u, z1, z2, z3, z4, z5, z6⟩ := z
              have z0 := (eo.ext e1).sl j _ o g1 g2
              obtain ⟨a', u', y1, y2, _⟩ := z0
              rw [z1] at y1
              cases y1
              exact ⟨a, u, z1, by rw [upd_ne (ne_of_none y2 hD)]; exact z2, z3, z4, z5, z6⟩
          refine ⟨xs, hD5, ?_, W5, S4, acc ++ [y], xs ++ [v], zs', x6, o6, eo6, ((r2.mono x25.g x25.r).snoc r5), upd_same, gD5, rD5, by simp; omega, hz1, by rw [hys]; simp⟩
          have := r2.length
          exact Nat.lt_of_le_of_lt (show xs.length ≤ 100000 by omega) (by decide)
        | false =>
          have hb2 : compL tg dc de (wipeE env own) (ds.drop (i + 1)) S3 = .ok zs S' := hb2
          exact ⟨W4, S3, acc, xs, zs, x2.trans x24, o4, eo2.ext x24, r2.mono x24.g x24.r, hD4, gD4, rD4, by omega, hb2, hys⟩
    · have ei : i = ds.length := by omega
      subst ei
      rw [List.drop_length] at hc
      unfold compL at hc
      injection hc with hc1 hc2
      subst hc1; subst hc2
      rw [List.append_nil] at hys
      subst hys
      refine .inl ⟨w1.stop W2 S2 Hc o2 x2, q W2 Hc _ (e1.trans x2) o2 ?_⟩
      exact ⟨D, .lst xs, rfl, hD2, .l r2, gD2, rD2, e1.fresh hD⟩
theorem me_comp {elt tg iter : Expr} {ifs : List Expr} {scope : Scope} {own : List (Str × Nat)} {pos : Pos} {di : DA} {g : Tg} {dc : DT} {de : DE} (hc : X.calm = true) (hN : X.N.Nodup) (hi : PI X tg iter (iB X.K di)) (ok : BlkOk X.N X.env.scope scope own)
    (hg : ∀ (s : Shared) (H : Hp) (C : Addr) (cl : List (Str × Addr)) (fp : List Addr), PG (X.blk s H scope (compEnvC scope cl C X.env) fp) tg (gT X.K g)) (ht : ∀ (s : Shared) (H : Hp) (C : Addr) (cl : List (Str × Addr)) (fp : List Addr), PTs (X.blk s H scope (compEnvC scope cl C X.env) fp) ifs (tT X.K dc))
    (he : ∀ (s : Shared) (H : Hp) (C : Addr) (cl : List (Str × Addr)) (fp : List Addr), PE (X.blk s H scope (compEnvC scope cl C X.env) fp) elt (tV X.K de)) (hsl : ∀ i ∈ g.slots, i ∈ own.map (·.2)) (hs : ∀ x, foldedSetIterable iter X.env x = pure x := by intro _; rfl) :
    PE X (.ListComp elt [⟨tg, iter, ifs, 0⟩] scope pos) (tR X.K (dComp di (own.map (·.2)) g dc de)) :=
  PE.imp (pe_lc hc hN hi ok hg ht he hs) fun _ _ _ h => comp_of hsl h
end
end MP

namespace MP
open PySem PySem.Spec PyProof.Rows L2

/-! ### statements: what they say -/
def slOf : R → Sl
  | .v d => .va d
  | .o x => .ow x
def dSet (i : Nat) (dr : DR) : DS := fun env S => match dr env S with
  | .ok r S1 => .nx (env.set i (slOf r)) S1
  | .xn c x S1 => .xn c x S1
  | .bad => .bad
/-- a shared object -/
def dSh (i : Nat) (dr : DR) : DS := fun env S => match dr env S with
  | .ok (.o x) S1 => .nx (env.set i (.va (.loc S1.length))) (S1 ++ [x])
  | .ok (.v (.loc n)) S1 => .nx (env.set i (.va (.loc n))) S1
  | .ok _ _ => .bad
  | .xn c x S1 => .xn c x S1
  | .bad => .bad
def dSeqS (a b : DS) : DS := fun env S => match a env S with
  | .nx e S1 => b e S1
  | o => o
def dSkip : DS := fun env S => .nx env S
def dBreak : DS := fun env S => .bk env S
def dCont : DS := fun env S => .ct env S
def dRet (dr : DR) : DS := fun env S => match dr env S with
  | .ok r S1 => .rt r S1
  | .xn c x S1 => .xn c x S1
  | .bad => .bad
def dRetN : DS := fun _ S => .rt (.v .non) S
def dDrop (de : DE) : DS := fun env S => match de env S with
  | .ok _ S1 => .nx env S1
  | .xn c x S1 => .xn c x S1
  | .bad => .bad
def dIfS (c : DT) (a b : DS) : DS := fun env S => match c env S with
  | .ok true S1 => a env S1
  | .ok false S1 => b env S1
  | .xn c x S1 => .xn c x S1
  | .bad => .bad
def dNever : DS := fun _ _ => .bad
/-- a slot's own object is frozen -/
def frzE (i : Nat) (env : Envm) : Envm := match env[i]? with
  | some (.ow x) => env.set i (.va x.toD)
  | _ => env
def dFrz (i : Nat) (d : DS) : DS := fun env S => d (frzE i env) S
def dUnp (t : Tg) (de : DE) : DS := fun env S => match de env S with
  | .ok d S1 => (match bindTg t d env with
    | some e1 => .nx e1 S1
    | none => .bad)
  | .xn c x S1 => .xn c x S1
  | .bad => .bad
def forL (t : Tg) (b : DS) : List D → DS
  | [], env, S => .nx env S
  | d :: ds, env, S => match bindTg t d env with
    | none => .bad
    | some e1 => match b e1 S with
      | .nx e2 S2 => forL t b ds e2 S2
      | .ct e2 S2 => forL t b ds e2 S2
      | .bk e2 S2 => .nx e2 S2
      | .rt r S2 => .rt r S2
      | .xn c x S2 => .xn c x S2
      | .bad => .bad
def dFor (di : DA) (t : Tg) (b : DS) : DS := fun env S => match di env S with
  | .ok ds S1 => forL t b ds env S1
  | .xn c x S1 => .xn c x S1
  | .bad => .bad
def whileL (c : DT) (b : DS) : Nat → DS
  | 0, _, _ => .bad
  | n + 1, env, S => match c env S with
    | .ok true S1 => (match b env S1 with
      | .nx e2 S2 => whileL c b n e2 S2
      | .ct e2 S2 => whileL c b n e2 S2
      | .bk e2 S2 => .nx e2 S2
      | .rt r S2 => .rt r S2
      | .xn c x S2 => .xn c x S2
      | .bad => .bad)
    | .ok false S1 => .nx env S1
    | .xn c x S1 => .xn c x S1
    | .bad => .bad
def fuelW : Nat := 100000
def dWhile (c : DT) (b : DS) : DS := whileL c b fuelW
abbrev DRs := Envm → Sto → Res (List R)
def rNil : DRs := fun _ S => .ok [] S
def rCons (dr : DR) (d : DRs) : DRs := fun env S => (dr env S).bind fun r S1 => (d env S1).map fun rs => r :: rs
def setSls : List Nat → List R → Envm → Option Envm
  | [], [], e => some e
  | i :: is, r :: rs, e => setSls is rs (e.set i (slOf r))
  | _, _, _ => none
def dPar (is : List Nat) (d : DRs) : DS := fun env S => match d env S with
  | .ok rs S1 => (match setSls is rs env with
    | some e1 => .nx e1 S1
    | none => .bad)
  | .xn c x S1 => .xn c x S1
  | .bad => .bad
/-- name op= e -/
def dAug (i : Nat) (f : D → D → Sto → Res R) (de : DE) : DS := fun env S => match env[i]? with
  | some (.va x) => (match (de env S).bind fun y S1 => f x y S1 with
    | .ok r S2 => .nx (env.set i (slOf r)) S2
    | .xn c x S1 => .xn c x S1
    | .bad => .bad)
  | _ => .bad

/-! ### worlds within a body -/
section
variable {K : PySem.W.Frag} {W0 W W' : Wd} {H0 H H' : Hp} {S S' : Sto} {env : Envm} {σ : L2.St}
theorem SOk.step (s : SOk K W0 H0 W H S env σ) (e : Ext W H W' H') (o : WOk K W' S' H') : SOk K W0 H0 W' H' S' env σ := ⟨s.ext.trans e, o, s.env.ext e⟩
/-- a slot gets a result -/
theorem EnvOk.setR {e : Envm} (q : EnvOk K W H H0 e σ) {r : R} {v : V} (z : RepR K W H H0 r v) (i : Nat) (n : ∀ x a, r = .o x → v = .ref a → ∀ j y, j ≠ i → e[j]? = some (.ow y) → σ[j]? ≠ some (some (.ref a))) : EnvOk K W H H0 (e.set i (slOf r)) (σ.set i (some v)) := by
  cases r with
  | v d => exact q.setV z i
  | o x =>
    obtain ⟨a, u, rfl, z2, z3, z4, z5, z6⟩ := z
    refine ⟨by rw [List.length_set, List.length_set]; exact q.len, fun j s o h1 h2 => ?_, fun j k y y' b h1 h2 h3 h4 => ?_⟩
    · by_cases hj : i = j
      · subst hj
        by_cases hi : i < e.length
        · rw [List.getElem?_set_self hi] at h1
          cases h1
          rw [List.getElem?_set_self (by rw [← q.len]; exact hi)] at h2
          cases h2
          exact ⟨a, u, rfl, z2, z3, z4, z5, z6⟩
        · rw [List.getElem?_eq_none (by rw [List.length_set]; omega)] at h1
          cases h1
      · rw [List.getElem?_set_ne hj] at h1 h2
        exact q.sl j s o h1 h2
    · by_cases hj : i = j
      · subst hj
        by_cases hk : i = k
        · exact hk
        · rw [List.getElem?_set_ne hk] at h2 h4
          have hi : i < σ.length := by
            have := (List.getElem?_eq_some_iff.mp h3).1
            rw [List.length_set] at this
            exact this
          rw [List.getElem?_set_self hi] at h3
          cases h3
          exact absurd h4 (n x _ rfl rfl k y' (Ne.symm hk) h2)
      · by_cases hk : i = k
        · subst hk
          rw [List.getElem?_set_ne hj] at h1 h3
          have hi : i < σ.length := by
            have := (List.getElem?_eq_some_iff.mp h4).1
            rw [List.length_set] at this
            exact this
          rw [List.getElem?_set_self hi] at h4
          cases h4
          exact absurd h3 (n x _ rfl rfl j y (Ne.symm hj) h1)
        · rw [List.getElem?_set_ne hj] at h1 h3
          rw [List.getElem?_set_ne hk] at h2 h4
          exact q.dis j k y y' b h1 h2 h3 h4
/-- an own object of a slot stands in the heap -/
theorem EnvOk.owned {e : Envm} (q : EnvOk K W H H0 e σ) {j : Nat} {y : O} {a : Addr} (h : e[j]? = some (.ow y)) (h2 : σ[j]? = some (some (.ref a))) : ∃ u, H a = some u ∧ RepO K W.G W.r y u ∧ W.G a = none ∧ a ∉ W.r ∧ H0 a = none := by
  obtain ⟨b, u, h3, h4⟩ := q.sl j _ _ h h2
  cases h3
  exact ⟨u, h4⟩
theorem SOk.setR {r : R} {v : V} (s : SOk K W0 H0 W H S env σ) (e : Ext W H W' H') (o : WOk K W' S' H') (z : RepR K W' H' H r v) (i : Nat) : SOk K W0 H0 W' H' S' (env.set i (slOf r)) (σ.set i (some v)) := by
  have s' := s.step e o
  refine ⟨s'.ext, o, s'.env.setR (z.back fun a h => s.ext.fresh h) i fun x a er ev j y _ h1 h2 => ?_⟩
  subst er ev
  obtain ⟨b, u, h3, h4, h5, h6, h7, h8⟩ := z
  cases h3
  obtain ⟨u', g1, _⟩ := s.env.owned h1 h2
  rw [h8] at g1
  cases g1
/-- a slot's own object is frozen -/
theorem SOk.frz (s : SOk K W0 H0 W H S env σ) (i : Nat) : ∃ W', SOk K W0 H0 W' H S (frzE i env) σ ∧ Gr W W' := by
  unfold frzE
  split
  · rename_i x hx
    obtain ⟨o, h1, a, u, rfl, h2, h3, h4, h5, h6⟩ := s.env.at hx
    obtain ⟨f1, f2, f3⟩ := freeze s.ok h2 h3 h4 h5
    refine ⟨⟨upd W.G a u, W.r⟩, ⟨freeze_ext s.ext h4 h6, f2, ⟨by rw [List.length_set]; exact s.env.len, fun j t o g1 g2 => ?_, fun j k y y' b g1 g2 g3 g4 => ?_⟩⟩, ⟨f1, List.prefix_refl _⟩⟩
    · by_cases hj : i = j
      · subst hj
        have hi := (List.getElem?_eq_some_iff.mp hx).1
        rw [List.getElem?_set_self hi] at g1
        cases g1
        rw [h1] at g2
        cases g2
        exact ⟨_, rfl, f3⟩
      · rw [List.getElem?_set_ne hj] at g1
        have z := s.env.sl j t o g1 g2
        cases t with
        | no => trivial
        | va d =>
          obtain ⟨v, z1, z2⟩ := z
          exact ⟨v, z1, z2.mono f1 (List.prefix_refl _)⟩
        | ow y =>
          obtain ⟨b, u', z1, z2, z3, z4, z5, z6⟩ := z
          refine ⟨b, u', z1, z2, z3.mono f1 (List.prefix_refl _), ?_, z5, z6⟩
          show upd W.G a u b = none
          have nb : b ≠ a := fun e => by
            subst e
            subst z1
            exact hj (s.env.dis i j x y b hx g1 h1 g2)
          rw [upd_ne nb]
          exact z4
    · have f : ∀ (m : Nat) (z : O), (env.set i (.va x.toD))[m]? = some (.ow z) → env[m]? = some (.ow z) := fun m z hm => by
        by_cases c : i = m
        · subst c
          have hi := (List.getElem?_eq_some_iff.mp hx).1
          rw [List.getElem?_set_self hi] at hm
          cases hm
        · rw [List.getElem?_set_ne c] at hm
          exact hm
      exact s.env.dis j k y y' b (f j y g1) (f k y' g2) g3 g4
  · exact ⟨W, s, Gr.refl _⟩
/-- a slot's own object is changed -/
theorem SOk.own {i : Nat} {x x' : O} {a : Addr} {u : HO} (s : SOk K W0 H0 W H S env σ) (h : env[i]? = some (.ow x)) (h2 : σ[i]? = some (some (.ref a))) (q : RepO K W.G W.r x' u) : SOk K W0 H0 W (upd H a u) S (env.set i (.ow x')) σ := by
  obtain ⟨u0, g1, g2, g3, g4, g5⟩ := s.env.owned h h2
  have hi := (List.getElem?_eq_some_iff.mp h).1
  refine ⟨⟨s.ext.g, s.ext.r, s.ext.gn, s.ext.rn, fun b o e n => ?_, fun b o e => ?_⟩, ⟨fun b o e => ?_, s.ok.nd, s.ok.len, fun n y e => ?_, s.ok.ng⟩, ⟨by rw [List.length_set]; exact s.env.len, fun j t o e1 e2 => ?_, fun j k y y' b e1 e2 e3 e4 => ?_⟩⟩
  · rw [upd_ne (ne_of_none e g5)]
    exact s.ext.h b o e n
  · rw [upd_ne (ne_of_none e g5)]
    exact s.ext.k b o e
  · rw [upd_ne (ne_of_none e g3)]
    exact s.ok.sub b o e
  · obtain ⟨c, v, c1, c2, c3⟩ := s.ok.cell n y e
    have nc : c ≠ a := fun z => g4 (by rw [← z]; exact List.mem_of_getElem? c1)
    exact ⟨c, v, c1, by rw [upd_ne nc]; exact c2, c3⟩
  · by_cases hj : i = j
    · subst hj
      rw [List.getElem?_set_self hi] at e1
      cases e1
      rw [h2] at e2
      cases e2
      exact ⟨a, u, rfl, upd_same, q, g3, g4, g5⟩
    · rw [List.getElem?_set_ne hj] at e1
      have z := s.env.sl j t o e1 e2
      cases t with
      | no => trivial
      | va d => exact z
      | ow y =>
        obtain ⟨b, u', z1, z2, z3, z4, z5, z6⟩ := z
        have nb : b ≠ a := fun e => by
          subst e
          subst z1
          exact hj (s.env.dis i j x y b h e1 h2 e2)
        exact ⟨b, u', z1, by rw [upd_ne nb]; exact z2, z3, z4, z5, z6⟩
  · have f : ∀ (m : Nat) (z : O), (env.set i (.ow x'))[m]? = some (.ow z) → ∃ z', env[m]? = some (.ow z') := fun m z hm => by
      by_cases c : i = m
      · subst c
        exact ⟨x, h⟩
      · rw [List.getElem?_set_ne c] at hm
        exact ⟨z, hm⟩
    obtain ⟨z1, f1⟩ := f j y e1
    obtain ⟨z2, f2⟩ := f k y' e2
    exact s.env.dis j k z1 z2 b f1 f2 e3 e4
/-- a shared object is changed -/
theorem Ext.cell {a : Addr} {u : HO} (h : a ∈ W.r) : Ext W H W (upd H a u) :=
  ⟨SubH.refl _, List.prefix_refl _, fun a h k => absurd h k, fun a h => .inl h, fun b o e n => by
    have nb : b ≠ a := fun z => n (by rw [z]; exact h)
    rw [upd_ne nb]; exact e, fun b o e => by
    by_cases hb : b = a
    · exact ⟨u, by rw [hb]; exact upd_same⟩
    · exact ⟨o, by rw [upd_ne hb]; exact e⟩⟩
theorem WOk.cellSet {n : Nat} {a : Addr} {x : O} {u : HO} (ok : WOk K W S H) (h : W.r[n]? = some a) (q : RepO K W.G W.r x u) : WOk K W (S.set n x) (upd H a u) := by
  have ha := List.mem_of_getElem? h
  refine ⟨fun b o e => ?_, ok.nd, by rw [List.length_set]; exact ok.len, fun m y e => ?_, ok.ng⟩
  · rw [upd_ne (ne_of_none e (ok.ng a ha))]
    exact ok.sub b o e
  · by_cases hm : n = m
    · subst hm
      have hn : n < S.length := by
        rw [← ok.len]
        exact (List.getElem?_eq_some_iff.mp h).1
      rw [List.getElem?_set_self hn] at e
      cases e
      exact ⟨a, u, h, upd_same, q⟩
    · rw [List.getElem?_set_ne hm] at e
      obtain ⟨c, v, c1, c2, c3⟩ := ok.cell m y e
      have nc : c ≠ a := fun z => by
        subst z
        obtain ⟨l1, g1⟩ := List.getElem?_eq_some_iff.mp h
        obtain ⟨l2, g2⟩ := List.getElem?_eq_some_iff.mp c1
        exact hm ((List.getElem_inj ok.nd).mp (g1.trans g2.symm))
      exact ⟨c, v, c1, by rw [upd_ne nc]; exact c2, c3⟩
/-- a new object becomes a shared one -/
theorem share {a : Addr} {x : O} {u : HO} (ok : WOk K W S H) (h : H a = some u) (q : RepO K W.G W.r x u) (g : W.G a = none) (n : a ∉ W.r) : WOk K ⟨W.G, W.r ++ [a]⟩ (S ++ [x]) H ∧ Rep K W.G (W.r ++ [a]) (.loc S.length) (.ref a) := by
  refine ⟨⟨ok.sub, ?_, by simp [ok.len], fun m y e => ?_, fun b hb => ?_⟩, .loc ?_⟩
  · rw [List.nodup_append]
    refine ⟨ok.nd, by simp, fun b hb c hc => ?_⟩
    have : c = a := by simpa using hc
    subst this
    exact fun z => n (z ▸ hb)
  · by_cases hm : m < S.length
    · rw [List.getElem?_append_left hm] at e
      obtain ⟨c, v, c1, c2, c3⟩ := ok.cell m y e
      exact ⟨c, v, pre_get ⟨[a], rfl⟩ c1, c2, c3.mono (SubH.refl _) ⟨[a], rfl⟩⟩
    · rw [List.getElem?_append_right (by omega)] at e
      have e0 : m - S.length = 0 := by
        cases k : m - S.length with
        | zero => rfl
        | succ k' => rw [k] at e; simp at e
      rw [e0] at e
      cases e
      have em : m = S.length := by omega
      subst em
      exact ⟨a, u, by rw [← ok.len]; simp, h, q.mono (SubH.refl _) ⟨[a], rfl⟩⟩
  · rcases List.mem_append.mp hb with z | z
    · exact ok.ng b z
    · have : b = a := by simpa using z
      rw [this]
      exact g
  · rw [← ok.len]
    simp
end

/-! ### statements: their rules -/
section
variable {X : Cx} {st : Stmt} {rest : List Stmt} {e : Expr} {pos : Pos}
theorem mss_nil : PSs X [] (tS X.K dSkip) := PSs.imp pss_nil fun D σ H ⟨W0, H0, W, S, env, s, q⟩ => q W H σ s (Gr.refl _)
theorem mss_cons {a b : DS} (h1 : PS X st (tS X.K a)) (h2 : PSs X rest (tS X.K b)) : PSs X (st :: rest) (tS X.K (dSeqS a b)) := PSs.imp (pss_cons h1 h2) fun D σ H ⟨W0, H0, W, S, env, s, q⟩ => by
  refine ⟨W0, H0, W, S, env, s, ?_⟩
  unfold dSeqS at q
  cases h : a env S with
  | nx e S1 =>
    rw [h] at q
    exact fun W1 H1 σ1 s1 g1 => ⟨W0, H0, W1, S1, e, s1, q.mono _ g1⟩
  | rt r S1 => rw [h] at q; exact q
  | bk e S1 => rw [h] at q; exact q
  | ct e S1 => rw [h] at q; exact q
  | xn c x S1 => rw [h] at q; exact q
  | bad => rw [h] at q; exact q
theorem mss_one {a : DS} (h1 : PS X st (tS X.K a)) : PSs X [st] (tS X.K a) := pss_one h1
theorem ms_frz {a : DS} (i : Nat) (h1 : PS X st (tS X.K a)) : PS X st (tS X.K (dFrz i a)) := PS.imp h1 fun D σ H ⟨W0, H0, W, S, env, s, q⟩ => by
  obtain ⟨W', s', g⟩ := s.frz i
  exact ⟨W0, H0, W', S, frzE i env, s', q.mono _ g⟩
theorem ms_pass : PS X (.Pass pos) (tS X.K dSkip) := PS.imp ps_pass fun D σ H ⟨W0, H0, W, S, env, s, q⟩ => q W H σ s (Gr.refl _)
theorem ms_break : PS X (.Break pos) (tS X.K dBreak) := PS.imp ps_break fun D σ H ⟨W0, H0, W, S, env, s, q⟩ => q W H σ s (Gr.refl _)
theorem ms_continue : PS X (.Continue pos) (tS X.K dCont) := PS.imp ps_continue fun D σ H ⟨W0, H0, W, S, env, s, q⟩ => q W H σ s (Gr.refl _)
theorem ms_never : PS X st (tS X.K dNever) := PS.imp ps_never fun D σ H ⟨W0, H0, W, S, env, s, q⟩ => q
theorem ms_doc {x j pos pos'} : PS X (.Expr (.Constant (.str x) j pos) pos') (tS X.K dSkip) := PS.imp ps_doc fun D σ H ⟨W0, H0, W, S, env, s, q⟩ => q W H σ s (Gr.refl _)
theorem ms_ret {dr : DR} (he : PE X e (tR X.K dr)) : PS X (.Return (some e) pos) (tS X.K (dRet dr)) := PS.imp (ps_ret he) fun D σ H ⟨W0, H0, W, S, env, s, q⟩ => by
  unfold dRet at q
  cases h : dr env S with
  | ok r S1 =>
    rw [h] at q
    exact ⟨W, S, H0, env, s.ok, s.env, r, S1, h, fun W1 H1 v e1 o1 r1 => q W1 H1 v (s.ext.trans e1) o1 (r1.back fun a h => s.ext.fresh h)⟩
  | xn c x S1 => rw [h] at q; exact q.elim
  | bad => rw [h] at q; exact q.elim
theorem ms_retN : PS X (.Return none pos) (tS X.K dRetN) := PS.imp ps_retN fun D σ H ⟨W0, H0, W, S, env, s, q⟩ => q W H .non s.ext s.ok .non
/-- return x, x a slot: its own object goes out -/
theorem ms_retMv (i : Nat) {x : Str} {p : Pos} (hN : X.N[i]? = some x := by rfl) (hv : Vis X.env.scope x := by first | exact Or.inl rfl | exact Or.inr (Or.inl rfl) | exact Or.inr (Or.inr rfl)) (hd : (x == ("__debug__" : Str)) = false := by decide)
    (hcd : (x == ("__classdict__" : Str)) = false := by decide) : PS X (.Return (some (.Name x p)) pos) (tS X.K (dRet (dMv i))) := PS.imp (ps_ret (pe_var hN hv hd hcd)) fun D σ H ⟨W0, H0, W, S, env, s, q⟩ => by
  unfold dRet dMv at q
  cases h : env[i]? with
  | none => rw [h] at q; exact q.elim
  | some sl =>
    rw [h] at q
    obtain ⟨o, h3, h4⟩ := s.env.at h
    cases sl with
    | no => exact q.elim
    | va d =>
      obtain ⟨v, rfl, h5⟩ := h4
      exact ⟨v, h3, q W H v s.ext s.ok h5⟩
    | ow y =>
      obtain ⟨a, u, rfl, h5, h6, h7, h8, h9⟩ := h4
      exact ⟨.ref a, h3, q W H _ s.ext s.ok ⟨a, u, rfl, h5, h6, h7, h8, h9⟩⟩
theorem ms_expr {de : DE} (he : PE X e (tV X.K de)) (hs : swapsWith e none pos.line X.env = pure false := by rfl) : PS X (.Expr e pos) (tS X.K (dDrop de)) := PS.imp (ps_expr he hs) fun D σ H ⟨W0, H0, W, S, env, s, q⟩ => by
  unfold dDrop at q
  cases h : de env S with
  | ok r S1 =>
    rw [h] at q
    exact ⟨W, S, H0, env, s.ok, s.env, r, S1, h, fun W1 H1 v e1 o1 r1 => q W1 H1 σ (s.step e1 o1) e1.gr⟩
  | xn c x S1 => rw [h] at q; exact q.elim
  | bad => rw [h] at q; exact q.elim
theorem ms_if {c : Expr} {a b : List Stmt} {dc : DT} {da db : DS} (hc : PT X c (tT X.K dc)) (ha : PSs X a (tS X.K da)) (hb : PSs X b (tS X.K db)) : PS X (.If c a b pos) (tS X.K (dIfS dc da db)) := PS.imp (ps_if hc ha hb) fun D σ H ⟨W0, H0, W, S, env, s, q⟩ => by
  unfold dIfS at q
  cases h : dc env S with
  | ok k S1 =>
    rw [h] at q
    refine ⟨W, S, H0, env, s.ok, s.env, k, S1, h, fun W1 H1 e1 o1 => ?_⟩
    cases k with
    | true => exact ⟨W0, H0, W1, S1, env, s.step e1 o1, q.mono _ e1.gr⟩
    | false => exact ⟨W0, H0, W1, S1, env, s.step e1 o1, q.mono _ e1.gr⟩
  | xn c x S1 => rw [h] at q; exact q.elim
  | bad => rw [h] at q; exact q.elim
theorem ms_set {i : Nat} {x : Str} {dr : DR} {pos' : Pos} (hN : X.N.Nodup) (hi : X.N[i]? = some x) (hx : Loc X.env.scope x) (he : PE X e (tR X.K dr)) (hs : swapsWith e (some (.Name x pos')) pos.line X.env = pure false := by rfl) (hf : X.fn x = true ∨ X.env.scope.names.lookup x = some .local := by first | exact .inl rfl | exact .inr rfl | assumption) :
    PS X (.Assign [.Name x pos'] e pos) (tS X.K (dSet i dr)) := PS.imp (ps_set hN hi hx he hs hf) fun D σ H ⟨W0, H0, W, S, env, s, q⟩ => by
  unfold dSet at q
  cases h : dr env S with
  | ok r S1 =>
    rw [h] at q
    exact ⟨W, S, H0, env, s.ok, s.env, r, S1, h, fun W1 H1 v e1 o1 r1 => q W1 H1 _ (s.setR e1 o1 r1 i) e1.gr⟩
  | xn c x S1 => rw [h] at q; exact q.elim
  | bad => rw [h] at q; exact q.elim
theorem ms_setLc {i : Nat} {y : Str} {py : Pos} {elt tg iter : Expr} {ifs : List Expr} {scope : Scope} {own : List (Str × Nat)} {pos spos : Pos} {di : DA} {g : Tg} {dc : DT} {de : DE} (hc : X.calm = true) (hN : X.N.Nodup) (hy : X.N[i]? = some y) (hyl : X.env.scope.names.lookup y = some .local)
    (hsw : swapsWith (.ListComp elt [⟨tg, iter, ifs, 0⟩] scope pos) (some (.Name y py)) spos.line X.env = pure true) (hi : PI X tg iter (iB X.K di)) (ok : BlkOk X.N X.env.scope scope own)
    (hg : ∀ (s : Shared) (H : Hp) (C : Addr) (cl : List (Str × Addr)) (fp : List Addr), PG (X.blk s H scope (compEnvC scope cl C X.env) fp) tg (gT X.K g)) (ht : ∀ (s : Shared) (H : Hp) (C : Addr) (cl : List (Str × Addr)) (fp : List Addr), PTs (X.blk s H scope (compEnvC scope cl C X.env) fp) ifs (tT X.K dc))
    (he : ∀ (s : Shared) (H : Hp) (C : Addr) (cl : List (Str × Addr)) (fp : List Addr), PE (X.blk s H scope (compEnvC scope cl C X.env) fp) elt (tV X.K de)) (hsl : ∀ i ∈ g.slots, i ∈ own.map (·.2)) (hs : ∀ x, foldedSetIterable iter X.env x = pure x := by intro _; rfl) :
    PS X (.Assign [.Name y py] (.ListComp elt [⟨tg, iter, ifs, 0⟩] scope pos) spos) (tS X.K (dSet i (dComp di (own.map (·.2)) g dc de))) := PS.imp (ps_setLc hc hN hy hyl hsw hi ok hg ht he hs) fun D σ H ⟨W0, H0, W, S, env, s, q⟩ => by
  unfold dSet at q
  cases h : dComp di (own.map (·.2)) g dc de env S with
  | ok r S1 =>
    rw [h] at q
    exact comp_of hsl ⟨W, S, H0, env, s.ok, s.env, r, S1, h, fun W1 H1 v e1 o1 r1 => q W1 H1 _ (s.setR e1 o1 r1 i) e1.gr⟩
  | xn c x S1 => rw [h] at q; exact q.elim
  | bad => rw [h] at q; exact q.elim
theorem ms_sh {i : Nat} {x : Str} {dr : DR} {pos' : Pos} (hN : X.N.Nodup) (hi : X.N[i]? = some x) (hx : Loc X.env.scope x) (he : PE X e (tR X.K dr)) (hs : swapsWith e (some (.Name x pos')) pos.line X.env = pure false := by rfl) (hf : X.fn x = true ∨ X.env.scope.names.lookup x = some .local := by first | exact .inl rfl | exact .inr rfl | assumption) :
    PS X (.Assign [.Name x pos'] e pos) (tS X.K (dSh i dr)) := PS.imp (ps_set hN hi hx he hs hf) fun D σ H ⟨W0, H0, W, S, env, s, q⟩ => by
  unfold dSh at q
  cases h : dr env S with
  | ok r S1 =>
    rw [h] at q
    refine ⟨W, S, H0, env, s.ok, s.env, r, S1, h, fun W1 H1 v e1 o1 r1 => ?_⟩
    cases r with
    | o y =>
      obtain ⟨a, u, rfl, z1, z2, z3, z4, z5⟩ := r1
      obtain ⟨f1, f2⟩ := share o1 z1 z2 z3 z4
      have x1 : Ext W H ⟨W1.G, W1.r ++ [a]⟩ H1 := ⟨e1.g, e1.r.trans ⟨[a], rfl⟩, e1.gn, fun b hb => by
        rcases List.mem_append.mp hb with z | z
        · exact e1.rn b z
        · have : b = a := by simpa using z
          rw [this]
          exact .inr z5, e1.h, e1.k⟩
      exact q _ H1 _ (s.setR (r := .v (.loc S1.length)) x1 f1 f2 i) x1.gr
    | v d =>
      cases d with
      | loc n => exact q W1 H1 _ (s.setR (r := .v (.loc n)) e1 o1 r1 i) e1.gr
      | _ => exact q.elim
  | xn c x S1 => rw [h] at q; exact q.elim
  | bad => rw [h] at q; exact q.elim
theorem ms_unp {tg : Expr} {t : Tg} {de : DE} (he : PE X e (tV X.K de)) (hg : PG X tg (gT X.K t)) (hs : swapsWithSole [tg] e pos.line X.env = pure false := by rfl) (hw : swappedStores [tg] e X.env = pure none := by rfl)
    (h1 : (assignEach [tg] X.env).map (·.2) = [assign tg X.env] := by rfl) : PS X (.Assign [tg] e pos) (tS X.K (dUnp t de)) := PS.imp (ps_asg he hg hs hw h1) fun D σ H ⟨W0, H0, W, S, env, s, q⟩ => by
  unfold dUnp at q
  cases h : de env S with
  | ok d S1 =>
    rw [h] at q
    refine ⟨W, S, H0, env, s.ok, s.env, d, S1, h, fun W1 H1 v e1 o1 r1 => ?_⟩
    have s1 := s.step e1 o1
    have q : OutOk X.K W0 H0 W D (match bindTg t d env with | some e1 => Out.nx e1 S1 | none => .bad) := q
    cases hb : bindTg t d env with
    | none => rw [hb] at q; exact q.elim
    | some env' =>
      rw [hb] at q
      exact ⟨W1, S1, H0, env, d, o1, s1.env, r1, env', hb, fun σ' eo _ => q W1 H1 σ' ⟨s1.ext, o1, eo⟩ e1.gr⟩
  | xn c x S1 => rw [h] at q; exact q.elim
  | bad => rw [h] at q; exact q.elim
theorem ms_for {tg iter : Expr} {body : List Stmt} {di : DA} {t : Tg} {db : DS} (hp : PassesOwn (model X.prog X.w) X.A X.env X.xe) (hc : X.calm = true) (hi : PI X tg iter (iF X.K di)) (hg : PG X tg (gT X.K t)) (hb : PSs X body (tS X.K db))
    (hs : ∀ x, foldedSetIterable iter X.env x = pure x := by intro _; rfl) : PS X (.For tg iter body [] pos) (tS X.K (dFor di t db)) := PS.imp (ps_for hp hc hi hg hb hs) fun D σ H ⟨W0, H0, W, S, env, s, q⟩ => by
  unfold dFor at q
  cases h : di env S with
  | xn c x S1 => rw [h] at q; exact q.elim
  | bad => rw [h] at q; exact q.elim
  | ok ds S1 =>
    rw [h] at q
    refine ⟨W, S, H0, env, s.ok, s.env, ds, S1, h, fun W1 H1 J e1 o1 w1 => ?_⟩
    refine ⟨fun i m σ H => m = ds.length - i ∧ i ≤ ds.length ∧ ∃ W2 S2 env2, SOk X.K W0 H0 W2 H S2 env2 σ ∧ Gr W1 W2 ∧ OutOk X.K W0 H0 W D (forL t db (ds.drop i) env2 S2), ⟨ds.length, by simp, Nat.zero_le _, W1, S1, env, s.step e1 o1, Gr.refl _, by simpa using q⟩, ?_⟩
    rintro i m σ2 H2 ⟨rfl, hi, W2, S2, env2, s2, p2, q2⟩
    by_cases hlt : i < ds.length
    · refine .inr ⟨w1.go i W2 S2 H2 hlt s2.ok p2, fun σ H => ∃ W2 S2 env2, SOk X.K W0 H0 W2 H S2 env2 σ ∧ Gr W1 W2 ∧ OutOk X.K W0 H0 W D (forL t db (ds.drop (i + 1)) env2 S2), fun σ' H' hn => ⟨ds.length - (i + 1), by omega, rfl, hlt, hn⟩, fun x Hy hy => ?_⟩
      obtain ⟨W3, d, hd, x3, o3, rd⟩ := w1.yld i W2 S2 H2 x Hy hlt s2.ok p2 hy
      have ed : ds[i] = d := by
        rw [List.getElem?_eq_getElem hlt] at hd
        exact Option.some.inj hd
      rw [List.drop_eq_getElem_cons hlt, ed] at q2
      unfold forL at q2
      have s3 := s2.step x3 o3
      have p3 := p2.trans x3.gr
      cases hbt : bindTg t d env2 with
      | none => rw [hbt] at q2; exact q2.elim
      | some env3 =>
        rw [hbt] at q2
        refine ⟨W3, S2, H0, env2, d, o3, s3.env, rd, env3, hbt, fun σ4 eo4 _ => ?_⟩
        refine ⟨W0, H0, W3, S2, env3, ⟨s3.ext, o3, eo4⟩, ?_⟩
        have q2 : OutOk X.K W0 H0 W D (match db env3 S2 with
          | .nx e2 S2 => forL t db (ds.drop (i + 1)) e2 S2
          | .ct e2 S2 => forL t db (ds.drop (i + 1)) e2 S2
          | .bk e2 S2 => .nx e2 S2
          | .rt r S2 => .rt r S2
          | .xn c x S2 => .xn c x S2
          | .bad => .bad) := q2
        cases hb : db env3 S2 with
        | nx e4 S4 => rw [hb] at q2; exact fun W5 H5 σ5 s5 g5 => ⟨W5, S4, e4, s5, p3.trans g5, q2⟩
        | ct e4 S4 => rw [hb] at q2; exact fun W5 H5 σ5 s5 g5 => ⟨W5, S4, e4, s5, p3.trans g5, q2⟩
        | bk e4 S4 => rw [hb] at q2; exact fun W5 H5 σ5 s5 g5 => q2 W5 H5 σ5 s5 ((e1.gr.trans p3).trans g5)
        | rt r S4 => rw [hb] at q2; exact q2
        | xn c x S4 => rw [hb] at q2; exact q2
        | bad => rw [hb] at q2; exact q2
    · have ei : i = ds.length := by omega
      subst ei
      rw [List.drop_length] at q2
      unfold forL at q2
      exact .inl ⟨w1.stop W2 S2 H2 s2.ok p2, q2 W2 H2 σ2 s2 (e1.gr.trans p2)⟩
theorem ms_while {c : Expr} {body : List Stmt} {dc : DT} {db : DS} (hp : PassesOwn (model X.prog X.w) X.A X.env X.xe) (hc : PT X c (tT X.K dc)) (hb : PSs X body (tS X.K db)) : PS X (.While c body [] pos) (tS X.K (dWhile dc db)) := PS.imp (ps_while hp hc hb) fun D σ H ⟨W0, H0, W, S, env, s, q⟩ => by
  unfold dWhile at q
  refine ⟨fun m σ H => ∃ W2 S2 env2, SOk X.K W0 H0 W2 H S2 env2 σ ∧ Gr W W2 ∧ OutOk X.K W0 H0 W D (whileL dc db m env2 S2), ⟨fuelW, W, S, env, s, Gr.refl _, q⟩, ?_⟩
  rintro m σ2 H2 ⟨W2, S2, env2, s2, g2, q2⟩
  cases m with
  | zero => exact q2.elim
  | succ m =>
    unfold whileL at q2
    cases h : dc env2 S2 with
    | xn c x S1 => rw [h] at q2; exact q2.elim
    | bad => rw [h] at q2; exact q2.elim
    | ok k S3 =>
      rw [h] at q2
      refine ⟨W2, S2, H0, env2, s2.ok, s2.env, k, S3, h, fun W3 H3 e3 o3 => ?_⟩
      have s3 := s2.step e3 o3
      have g3 := g2.trans e3.gr
      cases k with
      | false => exact q2 W3 H3 σ2 s3 g3
      | true =>
        refine ⟨fun σ H => ∃ W2 S2 env2, SOk X.K W0 H0 W2 H S2 env2 σ ∧ Gr W W2 ∧ OutOk X.K W0 H0 W D (whileL dc db m env2 S2), fun σ' H' hn => ⟨m, Nat.lt_succ_self m, hn⟩, W0, H0, W3, S3, env2, s3, ?_⟩
        have q2 : OutOk X.K W0 H0 W D (match db env2 S3 with
          | .nx e2 S2 => whileL dc db m e2 S2
          | .ct e2 S2 => whileL dc db m e2 S2
          | .bk e2 S2 => .nx e2 S2
          | .rt r S2 => .rt r S2
          | .xn c x S2 => .xn c x S2
          | .bad => .bad) := q2
        cases hb : db env2 S3 with
        | nx e4 S4 => rw [hb] at q2; exact fun W5 H5 σ5 s5 g5 => ⟨W5, S4, e4, s5, g3.trans g5, q2⟩
        | ct e4 S4 => rw [hb] at q2; exact fun W5 H5 σ5 s5 g5 => ⟨W5, S4, e4, s5, g3.trans g5, q2⟩
        | bk e4 S4 => rw [hb] at q2; exact fun W5 H5 σ5 s5 g5 => q2 W5 H5 σ5 s5 (g3.trans g5)
        | rt r S4 => rw [hb] at q2; exact q2
        | xn c x S4 => rw [hb] at q2; exact q2
        | bad => rw [hb] at q2; exact q2
end
end MP

namespace MP
open PySem PySem.Spec PyProof.Rows L2

/-! ### several results at once -/
section
variable (K : PySem.W.Frag)
structure RL (W : Wd) (H H1 : Hp) (rs : List R) (vs : List V) : Prop where
  len : rs.length = vs.length
  each : ∀ (i : Nat) r v, rs[i]? = some r → vs[i]? = some v → RepR K W H H1 r v
  dis : ∀ (i j : Nat) x y a, rs[i]? = some (.o x) → rs[j]? = some (.o y) → vs[i]? = some (.ref a) → vs[j]? = some (.ref a) → i = j
def tAR (d : DRs) : TA := fun σ H Q => ∃ W S H0 env, WOk K W S H ∧ EnvOk K W H H0 env σ ∧ ∃ rs S', d env S = .ok rs S' ∧ ∀ W' H' vs, Ext W H W' H' → WOk K W' S' H' → RL K W' H' H rs vs → Q vs H'
end
theorem RepR.ext {K : PySem.W.Frag} {W W' : Wd} {H H' H0 : Hp} {r : R} {v : V} (h : RepR K W H H0 r v) (e : Ext W H W' H') : RepR K W' H' H0 r v := by
  cases r with
  | v d => exact Rep.ext h e
  | o x =>
    obtain ⟨a, u, h1, h2, h3, h4, h5, h6⟩ := h
    obtain ⟨g1, g2, g3⟩ := e.out h2 h3.nt h4 h5
    exact ⟨a, u, h1, g1, h3.mono e.g e.r, g2, g3, h6⟩
section
variable {X : Cx} {e : Expr} {pos : Pos}
theorem mr_nil : PA X [] (tAR X.K rNil) := PA.imp pa_nil fun σ H Q ⟨W, S, H0, env, ok, eo, d, S', h, q⟩ => by
  cases h
  exact q W H [] (Ext.refl _ _) ok ⟨rfl, fun i r v h => by simp at h, fun i j x y a h => by simp at h⟩
theorem mr_cons {es : List Expr} {dr : DR} {d : DRs} (ha : PE X e (tR X.K dr)) (hr : PA X es (tAR X.K d)) (hs : starEach (e :: es) X.env = (false, eval e X.env) :: starEach es X.env := by rfl) : PA X (e :: es) (tAR X.K (rCons dr d)) :=
  PA.imp (pa_cons ha hr hs) fun σ H Q ⟨W, S, H0, env, ok, eo, rs, S', h, q⟩ => by
    obtain ⟨x, S1, h1, h2⟩ := bind_ok h
    obtain ⟨xs, h3, h4⟩ := map_ok h2
    subst h4
    refine ⟨W, S, H0, env, ok, eo, x, S1, h1, fun W1 H1 v e1 o1 r1 => ?_⟩
    refine ⟨W1, S1, H0, env, o1, eo.ext e1, xs, S', h3, fun W2 H2 vs e2 o2 r2 => ?_⟩
    have old : ∀ (y : O) (a : Addr), x = .o y → v = .ref a → ∀ (j : Nat) z, xs[j]? = some (.o z) → vs[j]? = some (.ref a) → False := fun y a ex ev j z g1 g2 => by
      subst ex ev
      obtain ⟨b, u, k1, k2, _⟩ := r1
      cases k1
      obtain ⟨b, u', l1, l2, l3, l4, l5, l6⟩ := r2.each j _ _ g1 g2
      cases l1
      rw [l6] at k2
      cases k2
    refine q W2 H2 _ (e1.trans e2) o2 ⟨by simp [r2.len], fun i r u g1 g2 => ?_, fun i j y z a g1 g2 g3 g4 => ?_⟩
    · cases i with
      | zero =>
        cases g1
        cases g2
        exact (r1.ext e2)
      | succ i => exact (r2.each i r u (by simpa using g1) (by simpa using g2)).back fun a h => e1.fresh h
    · cases i with
      | zero =>
        cases g1
        cases g3
        cases j with
        | zero => rfl
        | succ j => exact (old y a rfl rfl j z (by simpa using g2) (by simpa using g4)).elim
      | succ i =>
        cases j with
        | zero =>
          cases g2
          cases g4
          exact (old z a rfl rfl i y (by simpa using g1) (by simpa using g3)).elim
        | succ j => rw [r2.dis i j y z a (by simpa using g1) (by simpa using g2) (by simpa using g3) (by simpa using g4)]
def setSts : List Nat → List V → L2.St → L2.St
  | i :: is, v :: vs, σ => setSts is vs (σ.set i (some v))
  | _, _, σ => σ
theorem EnvOk.setRs {K : PySem.W.Frag} {W : Wd} {H H0 H1 : Hp} : ∀ (is : List Nat) (rs : List R) (vs : List V) (e e' : Envm) (σ : L2.St), EnvOk K W H H0 e σ → RL K W H H1 rs vs → (∀ a, H1 a = none → H0 a = none) → setSls is rs e = some e' →
    (∀ (i : Nat) (x : O) (a : Addr), rs[i]? = some (.o x) → vs[i]? = some (.ref a) → ∀ (j : Nat) (y : O), e[j]? = some (.ow y) → σ[j]? ≠ some (some (.ref a))) → EnvOk K W H H0 e' (setSts is vs σ)
  | [], [], vs, e, e', σ, q, z, b, h, n => by
    unfold setSls at h
    cases h
    unfold setSts
    exact q
  | i :: is, r :: rs, [], e, e', σ, q, z, b, h, n => by
    have := z.len
    simp at this
  | i :: is, r :: rs, v :: vs, e, e', σ, q, z, b, h, n => by
    unfold setSls at h
    unfold setSts
    have r0 := z.each 0 r v rfl rfl
    refine EnvOk.setRs (H1 := H1) is rs vs (e.set i (slOf r)) e' (σ.set i (some v)) (q.setR (r0.back b) i fun x a er ev j y _ g1 => ?_) ⟨?_, fun j r' v' g1 g2 => z.each (j + 1) r' v' (by simpa using g1) (by simpa using g2), fun j k x y a g1 g2 g3 g4 => ?_⟩ b h fun j x a g1 g2 k y g3 => ?_
    · subst er ev
      exact n 0 x a rfl rfl j y g1
    · have := z.len
      simpa using this
    · have := z.dis (j + 1) (k + 1) x y a (by simpa using g1) (by simpa using g2) (by simpa using g3) (by simpa using g4)
      omega
    · by_cases hk : i = k
      · subst hk
        have hi : i < σ.length := by
          have := (List.getElem?_eq_some_iff.mp g3).1
          rw [List.length_set, q.len] at this
          exact this
        rw [List.getElem?_set_self (by rw [q.len]; exact hi)] at g3
        rw [List.getElem?_set_self hi]
        intro ev
        have ev' : v = .ref a := Option.some.inj (Option.some.inj ev)
        cases r with
        | v d => cases g3
        | o w =>
          have := z.dis 0 (j + 1) w x a rfl (by simpa using g1) (by simp [ev']) (by simpa using g2)
          omega
      · rw [List.getElem?_set_ne hk] at g3 ⊢
        exact n (j + 1) x a (by simpa using g1) (by simpa using g2) k y g3
  | [], _ :: _, _, _, _, _, _, _, _, h, _ => by unfold setSls at h; cases h
  | _ :: _, [], _, _, _, _, _, _, _, h, _ => by unfold setSls at h; cases h
theorem SOk.setRs {K : PySem.W.Frag} {W0 W W' : Wd} {H0 H H' : Hp} {S S' : Sto} {env env' : Envm} {σ : L2.St} {is : List Nat} {rs : List R} {vs : List V} (s : SOk K W0 H0 W H S env σ) (e : Ext W H W' H') (o : WOk K W' S' H') (z : RL K W' H' H rs vs) (h : setSls is rs env = some env') :
    SOk K W0 H0 W' H' S' env' (setSts is vs σ) := by
  have s' := s.step e o
  refine ⟨s'.ext, o, EnvOk.setRs (H1 := H) is rs vs env env' σ s'.env z (fun a h => s.ext.fresh h) h fun i x a g1 g2 j y g3 g4 => ?_⟩
  obtain ⟨b, u, l1, l2, l3, l4, l5, l6⟩ := z.each i _ _ g1 g2
  cases l1
  obtain ⟨u', k1, _⟩ := s.env.owned g3 g4
  rw [l6] at k1
  cases k1
/-- the end of an assignment to several names -/
theorem par_of {K : PySem.W.Frag} {is : List Nat} {d : DRs} {D : Ends} {σ : L2.St} {H : Hp} (h : tS K (dPar is d) D σ H) : tAR K d σ H fun vs H1 => vs.length = is.length ∧ D.nx (setSts is vs σ) H1 ∧ ∀ p u, H1 p = none → D.nx (setSts is vs σ) (upd H1 p u) := by
  obtain ⟨W0, H0, W, S, env, s, q⟩ := h
  unfold dPar at q
  cases h : d env S with
  | xn c x S1 => rw [h] at q; exact q.elim
  | bad => rw [h] at q; exact q.elim
  | ok rs S1 =>
    rw [h] at q
    have q : OutOk K W0 H0 W D (match setSls is rs env with | some e1 => Out.nx e1 S1 | none => .bad) := q
    refine ⟨W, S, H0, env, s.ok, s.env, rs, S1, h, fun W1 H1 vs e1 o1 r1 => ?_⟩
    cases hb : setSls is rs env with
    | none => rw [hb] at q; exact q.elim
    | some env' =>
      rw [hb] at q
      have ln : ∀ (is : List Nat) (rs : List R) (e e' : Envm), setSls is rs e = some e' → rs.length = is.length := by
        intro is
        induction is with
        | nil =>
          intro rs e e' g
          cases rs with
          | nil => rfl
          | cons _ _ => unfold setSls at g; cases g
        | cons i is ih =>
          intro rs e e' g
          cases rs with
          | nil => unfold setSls at g; cases g
          | cons r rs =>
            unfold setSls at g
            simp [ih rs _ _ g]
      have s1 := s.setRs e1 o1 r1 hb
      refine ⟨by rw [← r1.len]; exact ln _ _ _ _ hb, q W1 H1 _ s1 e1.gr, fun p u hp => ?_⟩
      have x2 : Ext W1 H1 W1 (upd H1 p u) := lay_ext W1 hp
      exact q W1 _ _ (s1.step x2 (lay_ok o1 hp)) e1.gr
theorem ms_par2 {i j : Nat} {x y : Str} {a b : Expr} {d : DRs} {px py pt : Pos} {kt k2 pt2} (hc : X.calm = true) (hN : X.N.Nodup) (hi : X.N[i]? = some x) (hj : X.N[j]? = some y) (hij : i ≠ j)
    (hx : X.env.scope.names.lookup x = some .local) (hy : X.env.scope.names.lookup y = some .local) (ha : PA X [a, b] (tAR X.K d))
    (hw : swappedStores [.Tuple [.Name x px, .Name y py] kt pt] (.Tuple [a, b] k2 pt2) X.env = pure (some [x, y]))
    (hs : swapsWithSole [.Tuple [.Name x px, .Name y py] kt pt] (.Tuple [a, b] k2 pt2) pos.line X.env = pure false := by rfl) :
    PS X (.Assign [.Tuple [.Name x px, .Name y py] kt pt] (.Tuple [a, b] k2 pt2) pos) (tS X.K (dPar [i, j] d)) := PS.imp (ps_par hc hN hi hj hij hx hy ha hw hs) fun D σ H h => by
  obtain ⟨W, S, H0, env, o, eo, rs, S', h1, q⟩ := par_of h
  refine ⟨W, S, H0, env, o, eo, rs, S', h1, fun W' H' vs e1 o1 r1 => ?_⟩
  obtain ⟨q1, q2, _⟩ := q W' H' vs e1 o1 r1
  match vs, q1, q2 with
  | [v, w], _, q2 => exact ⟨v, w, rfl, q2⟩
theorem ms_par3 {i j l : Nat} {x y z : Str} {a b c : Expr} {d : DRs} {px py pz pt : Pos} {kt k2 pt2} (hc : X.calm = true) (hN : X.N.Nodup) (hi : X.N[i]? = some x) (hj : X.N[j]? = some y) (hl : X.N[l]? = some z) (hij : i ≠ j) (hil : i ≠ l) (hjl : j ≠ l)
    (hx : X.env.scope.names.lookup x = some .local) (hy : X.env.scope.names.lookup y = some .local) (hz : X.env.scope.names.lookup z = some .local) (ha : PA X [a, b, c] (tAR X.K d))
    (hw : swappedStores [.Tuple [.Name x px, .Name y py, .Name z pz] kt pt] (.Tuple [a, b, c] k2 pt2) X.env = pure (some [x, y, z]))
    (hs : swapsWithSole [.Tuple [.Name x px, .Name y py, .Name z pz] kt pt] (.Tuple [a, b, c] k2 pt2) pos.line X.env = pure false := by rfl) :
    PS X (.Assign [.Tuple [.Name x px, .Name y py, .Name z pz] kt pt] (.Tuple [a, b, c] k2 pt2) pos) (tS X.K (dPar [i, j, l] d)) := PS.imp (ps_par3 hc hN hi hj hl hij hil hjl hx hy hz ha hw hs) fun D σ H h => by
  obtain ⟨W, S, H0, env, o, eo, rs, S', h1, q⟩ := par_of h
  refine ⟨W, S, H0, env, o, eo, rs, S', h1, fun W' H' vs e1 o1 r1 => ?_⟩
  obtain ⟨q1, q2, _⟩ := q W' H' vs e1 o1 r1
  match vs, q1, q2 with
  | [v, w, u], _, q2 => exact ⟨v, w, u, rfl, q2⟩
/-- names, one after another -/
def gNames : List Nat → TGs
  | [] => gNil
  | i :: is => gCons (gName i) (gNames is)
theorem mgn_nil : PGs X [] (gNames []) := pgs_nil
theorem mgn_cons {i : Nat} {es : List Expr} {is : List Nat} (h1 : PG X e (gName i)) (h2 : PGs X es (gNames is)) (hs : (assignEach (e :: es) X.env).map (·.2) = assign e X.env :: (assignEach es X.env).map (·.2) := by rfl) : PGs X (e :: es) (gNames (i :: is)) := pgs_cons h1 h2 hs
theorem gNames_of : ∀ {is : List Nat} {vs : List V} {σ : L2.St} {H : Hp} {Q : L2.St → Hp → Prop}, vs.length = is.length → Q (setSts is vs σ) H → gNames is vs σ H Q
  | [], [], σ, H, Q, _, q => ⟨rfl, q⟩
  | i :: is, v :: vs, σ, H, Q, h, q => ⟨v, vs, rfl, gNames_of (by simpa using h) q⟩
/-- a, b, .. = e1, e2, .. through a tuple -/
theorem ms_parN {ts es : List Expr} {is : List Nat} {d : DRs} {kt k2 : Nat} {pt pt2 : Pos} (hc : X.calm = true) (hg : PGs X ts (gNames is)) (ha : PA X es (tAR X.K d)) (hl : is.length = ts.length) (hz : is.length ≤ 100)
    (hn : (assignEach ts X.env).length = ts.length := by rfl) (hst : (assignEach ts X.env).findIdx? (·.1) = none := by rfl)
    (hs : swapsWithSole [.Tuple ts kt pt] (.Tuple es k2 pt2) pos.line X.env = pure false := by rfl) (hw : swappedStores [.Tuple ts kt pt] (.Tuple es k2 pt2) X.env = pure none := by rfl)
    (h1 : (assignEach [.Tuple ts kt pt] X.env).map (·.2) = [assign (.Tuple ts kt pt) X.env] := by rfl) : PS X (.Assign [.Tuple ts kt pt] (.Tuple es k2 pt2) pos) (tS X.K (dPar is d)) :=
  PS.imp (ps_asg (pe_tup ha) (pg_tup (n := ts.length) hc hg hn hst) hs hw h1) fun D σ H h => by
    obtain ⟨W, S, H0, env, o, eo, rs, S', h1, q⟩ := par_of h
    refine ⟨W, S, H0, env, o, eo, rs, S', h1, fun W' H' vs e1 o1 r1 => ?_⟩
    obtain ⟨q1, q2, q3⟩ := q W' H' vs e1 o1 r1
    refine ⟨le_sizeLine (by omega), fun p hp => ⟨p, vs, rfl, SqT.of upd_same, by omega, gNames_of q1 (q3 p _ hp)⟩⟩

/-! ### name op= e -/
theorem ms_aug {i : Nat} {x : Str} {op : Operator} {f : D → D → Sto → Res R} {de : DE} {pos' : Pos} (hN : X.N.Nodup) (hi : X.N[i]? = some x) (hx : Loc X.env.scope x) (he : PE X e (MP.tB X.K de)) (ho : OpR X (inplaceOp op) (rO X.K f)) (hf : X.fn x = true ∨ X.env.scope.names.lookup x = some .local := by first | exact .inl rfl | exact .inr rfl | assumption) :
    PS X (.AugAssign (.Name x pos') op e pos) (tS X.K (dAug i f de)) := PS.imp (ps_aug hN hi hx he ho hf) fun D σ H ⟨W0, H0, W, S, env, s, q⟩ => by
  unfold dAug at q
  cases h : env[i]? with
  | none => rw [h] at q; exact q.elim
  | some sl =>
    rw [h] at q
    obtain ⟨o, h3, h4⟩ := s.env.at h
    cases sl with
    | no => exact q.elim
    | ow y => exact q.elim
    | va d =>
      obtain ⟨v, rfl, h5⟩ := h4
      have q : OutOk X.K W0 H0 W D (match (de env S).bind fun y S1 => f d y S1 with
        | .ok r S2 => .nx (env.set i (slOf r)) S2
        | .xn c x S1 => .xn c x S1
        | .bad => .bad) := q
      cases hr : (de env S).bind fun y S1 => f d y S1 with
      | xn c x S1 => rw [hr] at q; exact q.elim
      | bad => rw [hr] at q; exact q.elim
      | ok r S2 =>
        rw [hr] at q
        obtain ⟨y, S1, g1, g2⟩ := bind_ok hr
        refine ⟨v, h3, W, S, H0, env, s.ok, s.env, y, S1, g1, fun W1 H1 u e1 o1 r1 => ?_⟩
        refine ⟨W1, S1, d, y, r, S2, o1, .inl (h5.ext e1), r1, g2, fun W2 H2 z e2 o2 r2 => ?_⟩
        exact q W2 H2 _ (s.setR (e1.trans e2) o2 (r2.back fun a h => e1.fresh h) i) (e1.trans e2).gr

/-! ### objects of slots, and shared ones, that change -/
def isL (S : Sto) (n : Nat) : Bool := match S[n]? with
  | some (.l _) => true
  | _ => false
/-- what is done with a list; own or shared -/
def mutL (i : Nat) (f : List D → Option (List D)) (env : Envm) (S : Sto) : Out := match env[i]? with
  | some (.ow (.l ds)) => (match f ds with
    | some ds' => .nx (env.set i (.ow (.l ds'))) S
    | none => .bad)
  | some (.va (.loc n)) => (match S[n]? with
    | some (.l ds) => (match f ds with
      | some ds' => .nx env (S.set n (.l ds'))
      | none => .bad)
    | _ => .bad)
  | _ => .bad
def listSlot (i : Nat) (env : Envm) (S : Sto) : Bool := match env[i]? with
  | some (.ow (.l _)) => true
  | some (.va (.loc n)) => isL S n
  | _ => false
/-- the slot's list -/
theorem list_slot {K : PySem.W.Frag} {i : Nat} {env : Envm} {S : Sto} {W : Wd} {H H0 : Hp} {σ : L2.St} (o : WOk K W S H) (eo : EnvOk K W H H0 env σ) (h : listSlot i env S = true) : ∃ a xs, σ[i]? = some (some (.ref a)) ∧ H a = some (.lst xs) := by
  unfold listSlot at h
  cases hi : env[i]? with
  | none => rw [hi] at h; cases h
  | some sl =>
    rw [hi] at h
    obtain ⟨ov, h3, h4⟩ := eo.at hi
    cases sl with
    | no => cases h
    | ow y =>
      cases y with
      | k _ _ => cases h
      | t _ _ => cases h
      | fk _ _ => cases h
      | ft _ _ => cases h
      | l ds =>
        obtain ⟨a, u, rfl, g1, g2, g3⟩ := h4
        cases g2 with
        | @l _ xs g2 => exact ⟨a, xs, h3, g1⟩
    | va x =>
      cases x with
      | loc n =>
        obtain ⟨v, rfl, g1⟩ := h4
        cases g1 with
        | @loc _ a g1 =>
        have h : isL S n = true := h
        unfold isL at h
        cases hS : S[n]? with
        | none => rw [hS] at h; cases h
        | some y =>
          rw [hS] at h
          obtain ⟨a0, u0, c1, c2, c3⟩ := o.cell n y hS
          rw [g1] at c1
          cases c1
          cases y with
          | k _ _ => cases h
          | t _ _ => cases h
          | fk _ _ => cases h
          | ft _ _ => cases h
          | l ds =>
            cases c3 with
            | @l _ xs c3 => exact ⟨a, xs, h3, c2⟩
      | _ => cases h
/-- .. and how it is changed -/
theorem mut_of {K : PySem.W.Frag} {i : Nat} {f : List D → Option (List D)} {env : Envm} {S : Sto} {W0 W Wc : Wd} {H H0 : Hp} {σ : L2.St} {D : Ends} (s : SOk K W0 H0 W H S env σ) (g : Gr Wc W) (q : OutOk K W0 H0 Wc D (mutL i f env S)) :
    ∃ a ds xs ds', σ[i]? = some (some (.ref a)) ∧ H a = some (.lst xs) ∧ RepL K W.G W.r ds xs ∧ f ds = some ds' ∧ ∀ xs', RepL K W.G W.r ds' xs' → D.nx σ (upd H a (.lst xs')) := by
  unfold mutL at q
  cases hi : env[i]? with
  | none => rw [hi] at q; exact q.elim
  | some sl =>
    rw [hi] at q
    obtain ⟨o, h3, h4⟩ := s.env.at hi
    cases sl with
    | no => exact q.elim
    | ow y =>
      cases y with
      | k _ _ => exact q.elim
      | t _ _ => exact q.elim
      | fk _ _ => exact q.elim
      | ft _ _ => exact q.elim
      | l ds =>
        obtain ⟨a, u, rfl, g1, g2, g3, g4, g5⟩ := h4
        cases g2 with
        | @l _ xs g2 =>
        have q : OutOk K W0 H0 Wc D (match f ds with
          | some ds' => .nx (env.set i (.ow (.l ds'))) S
          | none => .bad) := q
        cases hf : f ds with
        | none => rw [hf] at q; exact q.elim
        | some ds' =>
          rw [hf] at q
          exact ⟨a, ds, xs, ds', h3, g1, g2, hf, fun xs' rx => q W _ σ (s.own hi h3 (.l rx)) g⟩
    | va x =>
      cases x with
      | loc n =>
        have q : OutOk K W0 H0 Wc D (match S[n]? with
          | some (.l ds) => (match f ds with
            | some ds' => .nx env (S.set n (.l ds'))
            | none => .bad)
          | _ => .bad) := q
        obtain ⟨v0, rfl, g1⟩ := h4
        cases g1 with
        | @loc _ a g1 =>
        cases hS : S[n]? with
        | none => rw [hS] at q; exact q.elim
        | some y =>
          rw [hS] at q
          cases y with
          | k _ _ => exact q.elim
          | t _ _ => exact q.elim
          | fk _ _ => exact q.elim
          | ft _ _ => exact q.elim
          | l ds =>
            have q : OutOk K W0 H0 Wc D (match f ds with
              | some ds' => .nx env (S.set n (.l ds'))
              | none => .bad) := q
            cases hf : f ds with
            | none => rw [hf] at q; exact q.elim
            | some ds' =>
              rw [hf] at q
              obtain ⟨a0, u0, c1, c2, c3⟩ := s.ok.cell n _ hS
              rw [g1] at c1
              cases c1
              cases c3 with
              | @l _ xs c3 =>
              refine ⟨a, ds, xs, ds', h3, c2, c3, hf, fun xs' rx => ?_⟩
              exact q W _ σ (s.step (Ext.cell (List.mem_of_getElem? g1)) (s.ok.cellSet g1 (.l rx))) g
      | _ => exact q.elim
/-- x.m(e) as a statement, x a slot's list -/
def dMut1 (i : Nat) (f : List D → D → Option (List D)) (de : DE) : DS := fun env S => if listSlot i env S = true then (match de env S with
  | .ok d S1 => mutL i (f · d) env S1
  | .xn c x S1 => .xn c x S1
  | .bad => .bad) else .bad
theorem mut1_of {K : PySem.W.Frag} {i : Nat} {f : List D → D → Option (List D)} {de : DE} {r : V → List V → Hp → VK → Prop} {D : Ends} {σ : L2.St} {H : Hp}
    (hr : ∀ (G : Hp) (l : List Addr) (H : Hp) (a : Addr) (ds ds' : List MP.D) (d : MP.D) (xs : List V) (v : V) (Q : VK), SubH G H → H a = some (.lst xs) → RepL K G l ds xs → Rep K G l d v → f ds d = some ds' → (∀ xs', RepL K G l ds' xs' → Q .non (upd H a (.lst xs'))) → r (.ref a) [v] H Q)
    (h : tS K (dMut1 i f de) D σ H) : tDrop (tBM K "list" r (tVar i) (tCons (tV K de) tNil)) D σ H := by
  obtain ⟨W0, H0, W, S, env, s, q⟩ := h
  unfold dMut1 at q
  split at q
  case isFalse => exact q.elim
  rename_i hl
  obtain ⟨a, xs, h1, h2⟩ := list_slot s.ok s.env hl
  refine ⟨.ref a, h1, .inl ⟨rfl, xs, SqL.of h2⟩, ?_⟩
  cases h : de env S with
  | xn c x S1 => rw [h] at q; exact q.elim
  | bad => rw [h] at q; exact q.elim
  | ok d S1 =>
    rw [h] at q
    refine ⟨W, S, H0, env, s.ok, s.env, d, S1, h, fun W1 H1 v e1 o1 r1 => ?_⟩
    obtain ⟨a', ds, xs', ds', g1, g2, g3, g4, g5⟩ := mut_of (s.step e1 o1) e1.gr q
    rw [h1] at g1
    cases g1
    exact hr W1.G W1.r H1 a ds ds' d xs' v _ o1.sub g2 g3 r1 g4 g5
def fApp : List D → D → Option (List D) := fun ds d => if ds.length ≤ 100000 then some (ds ++ [d]) else none
def fExt : List D → D → Option (List D) := fun ds d => match d with
  | .lst es => if ds.length + es.length ≤ 100000 then some (ds ++ es) else none
  | _ => none
theorem ms_app (i : Nat) {x : Str} {de : DE} {p1 p2 p3 : Pos} (he : PE X e (tV X.K de)) (hN : X.N[i]? = some x := by rfl) (hv : Vis X.env.scope x := by first | exact Or.inl rfl | exact Or.inr (Or.inl rfl) | exact Or.inr (Or.inr rfl)) (hd : (x == ("__debug__" : Str)) = false := by decide)
    (hcd : (x == ("__classdict__" : Str)) = false := by decide) (hst : starEach [e] X.env = (false, eval e X.env) :: starEach [] X.env := by rfl) (hbase : attributeBase (.Name x p1) "append" X.env (eval (.Name x p1) X.env) = eval (.Name x p1) X.env := by rfl)
    (hfew : ((backTo p3 (starEach [e] X.env)).all (fun x => !x.1) && (backToKw p3 (keywordEach [] X.env)).all (fun x => x.1.isSome) && decide ([e].length + ([] : List Keyword).length + (if ([] : List Keyword).isEmpty then 0 else 1) < 30)) = true := by rfl)
    (hline : (p2.endLine == p3.line) = true := by rfl) (hs : swapsWith (.Call (.Attribute (.Name x p1) "append" p2) [e] [] p3) none pos.line X.env = pure false := by rfl) :
    PS X (.Expr (.Call (.Attribute (.Name x p1) "append" p2) [e] [] p3) pos) (tS X.K (dMut1 i fApp de)) :=
  PS.imp (ps_expr (pe_bm PySem.F.plainAttrs_list PySem.F.slot_list_append PySem.F.type_list_append mt_append (pe_var hN hv hd hcd) (pa_cons he pa_nil hst) hbase hfew hline hst) hs) fun D σ H h => mut1_of (fun G l H a ds ds' d xs v Q sb h1 h2 h3 h4 h5 => by
    unfold fApp at h4
    split at h4
    case isFalse => cases h4
    cases h4
    have := h2.length
    exact ⟨a, xs, v, rfl, rfl, h1, Nat.lt_of_le_of_lt (show xs.length ≤ 100000 by omega) (by decide), h5 _ (h2.snoc h3)⟩) h
theorem ms_ext (i : Nat) {x : Str} {de : DE} {p1 p2 p3 : Pos} (he : PE X e (tV X.K de)) (hN : X.N[i]? = some x := by rfl) (hv : Vis X.env.scope x := by first | exact Or.inl rfl | exact Or.inr (Or.inl rfl) | exact Or.inr (Or.inr rfl)) (hd : (x == ("__debug__" : Str)) = false := by decide)
    (hcd : (x == ("__classdict__" : Str)) = false := by decide) (hst : starEach [e] X.env = (false, eval e X.env) :: starEach [] X.env := by rfl) (hbase : attributeBase (.Name x p1) "extend" X.env (eval (.Name x p1) X.env) = eval (.Name x p1) X.env := by rfl)
    (hfew : ((backTo p3 (starEach [e] X.env)).all (fun x => !x.1) && (backToKw p3 (keywordEach [] X.env)).all (fun x => x.1.isSome) && decide ([e].length + ([] : List Keyword).length + (if ([] : List Keyword).isEmpty then 0 else 1) < 30)) = true := by rfl)
    (hline : (p2.endLine == p3.line) = true := by rfl) (hs : swapsWith (.Call (.Attribute (.Name x p1) "extend" p2) [e] [] p3) none pos.line X.env = pure false := by rfl) :
    PS X (.Expr (.Call (.Attribute (.Name x p1) "extend" p2) [e] [] p3) pos) (tS X.K (dMut1 i fExt de)) :=
  PS.imp (ps_expr (pe_bm PySem.F.plainAttrs_list PySem.F.slot_list_extend PySem.F.type_list_extend mt_extend (pe_var hN hv hd hcd) (pa_cons he pa_nil hst) hbase hfew hline hst) hs) fun D σ H h => mut1_of (fun G l H a ds ds' d xs v Q sb h1 h2 h3 h4 h5 => by
    unfold fExt at h4
    split at h4
    case h_2 => cases h4
    split at h4
    case isFalse => cases h4
    cases h4
    have := h2.length
    cases h3 with
    | @lst b zs _ k1 k2 =>
      have := k2.length
      exact ⟨a, b, xs, zs, rfl, rfl, h1, sb _ _ k1, le_sizeLine (by omega), h5 _ (h2.append k2)⟩) h
/-- found.append(left.pop(e)) -/
def dAppPop (i j : Nat) (de : DE) : DS := fun env S => if listSlot i env S = true ∧ listSlot j env S = true ∧ i ≠ j then (match de env S with
  | .ok (.int k) S1 => (match env[i]?, env[j]? with
    | some (.ow (.l ds)), some (.ow (.l es)) => if 0 ≤ k ∧ k ≤ 100000 ∧ ds.length ≤ 100000 then (match es[k.toNat]? with
      | some y => .nx ((env.set j (.ow (.l (es.eraseIdx k.toNat)))).set i (.ow (.l (ds ++ [y])))) S1
      | none => .bad) else .bad
    | _, _ => .bad)
  | .ok _ _ => .bad
  | .xn c x S1 => .xn c x S1
  | .bad => .bad) else .bad
theorem own_slot {K : PySem.W.Frag} {W : Wd} {H H0 : Hp} {e : Envm} {σ : L2.St} (q : EnvOk K W H H0 e σ) {i : Nat} {ds : List D} (h : e[i]? = some (.ow (.l ds))) : ∃ a xs, σ[i]? = some (some (.ref a)) ∧ H a = some (.lst xs) ∧ RepL K W.G W.r ds xs := by
  obtain ⟨o, h3, a, u, rfl, g1, g2, g3⟩ := q.at h
  cases g2 with
  | @l _ xs g2 => exact ⟨a, xs, h3, g1, g2⟩
theorem ms_appPop (i j : Nat) {x y : Str} {de : DE} {p1 p2 p3 q1 q2 q3 : Pos} (he : PE X e (tV X.K de)) (hN : X.N[i]? = some x := by rfl) (hv : Vis X.env.scope x := by first | exact Or.inl rfl | exact Or.inr (Or.inl rfl) | exact Or.inr (Or.inr rfl)) (hd : (x == ("__debug__" : Str)) = false := by decide)
    (hcd : (x == ("__classdict__" : Str)) = false := by decide) (hN2 : X.N[j]? = some y := by rfl) (hv2 : Vis X.env.scope y := by first | exact Or.inl rfl | exact Or.inr (Or.inl rfl) | exact Or.inr (Or.inr rfl)) (hd2 : (y == ("__debug__" : Str)) = false := by decide)
    (hcd2 : (y == ("__classdict__" : Str)) = false := by decide)
    (hst : starEach [(.Call (.Attribute (.Name y q1) "pop" q2) [e] [] q3 : Expr)] X.env = (false, eval (.Call (.Attribute (.Name y q1) "pop" q2) [e] [] q3) X.env) :: starEach [] X.env := by rfl) (hbase : attributeBase (.Name x p1) "append" X.env (eval (.Name x p1) X.env) = eval (.Name x p1) X.env := by rfl)
    (hfew : ((backTo p3 (starEach [(.Call (.Attribute (.Name y q1) "pop" q2) [e] [] q3 : Expr)] X.env)).all (fun x => !x.1) && (backToKw p3 (keywordEach [] X.env)).all (fun x => x.1.isSome) && decide ([(.Call (.Attribute (.Name y q1) "pop" q2) [e] [] q3 : Expr)].length + ([] : List Keyword).length + (if ([] : List Keyword).isEmpty then 0 else 1) < 30)) = true := by rfl)
    (hline : (p2.endLine == p3.line) = true := by rfl) (hst2 : starEach [e] X.env = (false, eval e X.env) :: starEach [] X.env := by rfl) (hbase2 : attributeBase (.Name y q1) "pop" X.env (eval (.Name y q1) X.env) = eval (.Name y q1) X.env := by rfl)
    (hfew2 : ((backTo q3 (starEach [e] X.env)).all (fun x => !x.1) && (backToKw q3 (keywordEach [] X.env)).all (fun x => x.1.isSome) && decide ([e].length + ([] : List Keyword).length + (if ([] : List Keyword).isEmpty then 0 else 1) < 30)) = true := by rfl)
    (hline2 : (q2.endLine == q3.line) = true := by rfl) (hs : swapsWith (.Call (.Attribute (.Name x p1) "append" p2) [(.Call (.Attribute (.Name y q1) "pop" q2) [e] [] q3 : Expr)] [] p3) none pos.line X.env = pure false := by rfl) :
    PS X (.Expr (.Call (.Attribute (.Name x p1) "append" p2) [(.Call (.Attribute (.Name y q1) "pop" q2) [e] [] q3 : Expr)] [] p3) pos) (tS X.K (dAppPop i j de)) :=
  PS.imp (ps_expr (pe_bm PySem.F.plainAttrs_list PySem.F.slot_list_append PySem.F.type_list_append mt_append (pe_var hN hv hd hcd) (pa_cons (pe_bm PySem.F.plainAttrs_list PySem.F.slot_list_pop PySem.F.type_list_pop mt_popAt (pe_var hN2 hv2 hd2 hcd2) (pa_cons he pa_nil hst2) hbase2 hfew2 hline2 hst2) pa_nil hst) hbase hfew hline hst) hs) fun D σ H ⟨W0, H0, W, S, env, s, q⟩ => by
    unfold dAppPop at q
    split at q
    case isFalse => exact q.elim
    rename_i hl
    obtain ⟨l1, l2, nij⟩ := hl
    obtain ⟨a, xs, h1, h2⟩ := list_slot s.ok s.env l1
    obtain ⟨b, ys, h3, h4⟩ := list_slot s.ok s.env l2
    refine ⟨.ref a, h1, .inl ⟨rfl, xs, SqL.of h2⟩, .ref b, h3, .inl ⟨rfl, ys, SqL.of h4⟩, ?_⟩
    cases h : de env S with
    | xn c x S1 => rw [h] at q; exact q.elim
    | bad => rw [h] at q; exact q.elim
    | ok d S1 =>
      rw [h] at q
      cases d with
      | int k =>
        refine ⟨W, S, H0, env, s.ok, s.env, _, S1, h, fun W1 H1 v e1 o1 r1 => ?_⟩
        cases r1
        have s1 := s.step e1 o1
        have q : OutOk X.K W0 H0 W D (match env[i]?, env[j]? with
          | some (.ow (.l ds)), some (.ow (.l es)) => if 0 ≤ k ∧ k ≤ 100000 ∧ ds.length ≤ 100000 then (match es[k.toNat]? with
            | some y => .nx ((env.set j (.ow (.l (es.eraseIdx k.toNat)))).set i (.ow (.l (ds ++ [y])))) S1
            | none => .bad) else .bad
          | _, _ => .bad) := q
        split at q
        case h_2 => exact q.elim
        rename_i ds es gi gj
        split at q
        case isFalse => exact q.elim
        rename_i hk
        cases hy : es[k.toNat]? with
        | none => rw [hy] at q; exact q.elim
        | some z =>
          rw [hy] at q
          obtain ⟨b', ys', k1, k2, k3⟩ := own_slot s1.env gj
          rw [h3] at k1
          cases k1
          obtain ⟨w, m1, m2⟩ := k3.get hy
          have kl : k.toNat < ys'.length := (List.getElem?_eq_some_iff.mp m1).1
          have s2 := s1.own gj h3 (x' := .l (es.eraseIdx k.toNat)) (.l (k3.eraseIdx k.toNat))
          have gi2 : (env.set j (.ow (.l (es.eraseIdx k.toNat))))[i]? = some (.ow (.l ds)) := by
            rw [List.getElem?_set_ne (Ne.symm nij)]
            exact gi
          obtain ⟨a', xs', n1, n2, n3⟩ := own_slot s2.env gi2
          rw [h1] at n1
          cases n1
          have hxl := n3.length
          have ek : seqIndex? k ys'.length = some k.toNat := (ixN_seq (show ixN ys'.length k = some k.toNat by
            unfold ixN
            rw [if_pos hk.1, if_pos (by omega)])).1
          refine ⟨b, ys', k, k.toNat, w, rfl, rfl, k2, by omega, by omega, ek, m1, ?_⟩
          refine ⟨a, xs', w, rfl, rfl, n2, Nat.lt_of_le_of_lt (show xs'.length ≤ 100000 by omega) (by decide), ?_⟩
          exact q W1 _ σ (s2.own gi2 h1 (x' := .l (ds ++ [z])) (.l (n3.snoc m2))) e1.gr
      | _ => exact q.elim
end
end MP

namespace MP
open PySem PySem.Spec PyProof.Rows L2

/-! ### inversions -/
section
variable {K : PySem.W.Frag} {W : Wd} {S : Sto} {H : Hp} {v : V}
theorem RepB.int_inv {i : Int} (h : RepB K W H (.int i) v) : v = .int i := by
  rcases h with h | ⟨x, a, u, e, _⟩
  · cases h; rfl
  · cases x <;> cases e
theorem RepB.bl_inv {i : Bool} (h : RepB K W H (.bl i) v) : v = .bl i := by
  rcases h with h | ⟨x, a, u, e, _⟩
  · cases h; rfl
  · cases x <;> cases e
theorem RepB.str_inv {i : Str} (h : RepB K W H (.str i) v) : v = .str i := by
  rcases h with h | ⟨x, a, u, e, _⟩
  · cases h; rfl
  · cases x <;> cases e
theorem RepB.non_inv (h : RepB K W H .non v) : v = .non := by
  rcases h with h | ⟨x, a, u, e, _⟩
  · cases h; rfl
  · cases x <;> cases e
theorem RepB.lst_inv {ds : List D} (h : RepB K W H (.lst ds) v) (ok : WOk K W S H) : ∃ a xs, v = .ref a ∧ H a = some (.lst xs) ∧ RepL K W.G W.r ds xs := by
  rcases h with h | ⟨x, a, u, e, e2, e3, e4, _⟩
  · cases h with
    | lst h1 h2 => exact ⟨_, _, rfl, ok.sub _ _ h1, h2⟩
  · cases e4 with
    | l e4 =>
      cases e
      exact ⟨_, _, e2, e3, e4⟩
    | k _ _ => cases e
    | t _ _ => cases e
    | fk _ _ => cases e
    | ft _ _ => cases e
theorem RepB.tup_inv {ds : List D} (h : RepB K W H (.tup ds) v) : ∃ a xs, v = .ref a ∧ W.G a = some (.tup xs) ∧ RepL K W.G W.r ds xs := by
  rcases h with h | ⟨x, a, u, e, e2, e3, e4, _⟩
  · cases h with
    | tup h1 h2 => exact ⟨_, _, rfl, h1, h2⟩
  · cases x <;> cases e
theorem RepB.wt_inv {ds : List D} (h : RepB K W H (.wt ds) v) : ∃ a xs, v = .ref a ∧ SqT K W.G a xs ∧ RepL K W.G W.r ds xs := by
  rcases h with h | ⟨x, a, u, e, e2, e3, e4, _⟩
  · cases h with
    | wt h1 h2 => exact ⟨_, _, rfl, h1, h2⟩
  · cases x <;> cases e
theorem RepB.scr_inv {ns : List Int} (h : RepB K W H (.scr ns) v) : ∃ a, v = .ref a ∧ SqL K W.G a (ns.map V.int) := by
  rcases h with h | ⟨x, a, u, e, e2, e3, e4, _⟩
  · cases h with
    | scr h1 => exact ⟨_, rfl, h1⟩
  · cases x <;> cases e
theorem RepB.loc_inv {n : Nat} (h : RepB K W H (.loc n) v) : ∃ a, v = .ref a ∧ W.r[n]? = some a := by
  rcases h with h | ⟨x, a, u, e, e2, e3, e4, _⟩
  · cases h with
    | loc h1 => exact ⟨_, rfl, h1⟩
  · cases x <;> cases e
theorem RepB.dk_inv {ks : List Key} {ds : List D} (h : RepB K W H (.dk ks ds) v) (ok : WOk K W S H) : ∃ a kvs, v = .ref a ∧ H a = some (.dK kvs) ∧ kvs.map (·.1) = ks ∧ RepL K W.G W.r ds (kvs.map (·.2)) := by
  rcases h with h | ⟨x, a, u, e, e2, e3, e4, _⟩
  · cases h with
    | dk h1 h2 h3 => exact ⟨_, _, rfl, ok.sub _ _ h1, h2, h3⟩
  · cases e4 with
    | l e4 => cases e
    | k e4 e5 =>
      cases e
      exact ⟨_, _, e2, e3, e4, e5⟩
    | t _ _ => cases e
    | fk _ _ => cases e
    | ft _ _ => cases e
theorem RepB.dt_inv {ks : List (List Key)} {ds : List D} (h : RepB K W H (.dt ks ds) v) (ok : WOk K W S H) : ∃ a kvs, v = .ref a ∧ H a = some (.dT kvs) ∧ kvs.map (·.1) = ks ∧ RepL K W.G W.r ds (kvs.map (·.2)) := by
  rcases h with h | ⟨x, a, u, e, e2, e3, e4, _⟩
  · cases h with
    | dt h1 h2 h3 => exact ⟨_, _, rfl, ok.sub _ _ h1, h2, h3⟩
  · cases e4 with
    | l e4 => cases e
    | t e4 e5 =>
      cases e
      exact ⟨_, _, e2, e3, e4, e5⟩
    | k _ _ => cases e
    | fk _ _ => cases e
    | ft _ _ => cases e
/-- a locked dict -/
theorem RepB.fk_inv {ks : List Key} {ds : List D} (h : RepB K W H (.fk ks ds) v) (ok : WOk K W S H) : ∃ a o kvs, v = .ref a ∧ H a = some (.frz o (.dK kvs)) ∧ kvs.map (·.1) = ks ∧ RepL K W.G W.r ds (kvs.map (·.2)) := by
  rcases h with h | ⟨x, a, u, e, e2, e3, e4, _⟩
  · cases h with
    | fk h1 h2 h3 => exact ⟨_, _, _, rfl, ok.sub _ _ h1, h2, h3⟩
  · cases e4 with
    | fk e4 e5 =>
      cases e
      exact ⟨_, _, _, e2, e3, e4, e5⟩
    | _ => cases e
theorem RepB.ft_inv {ks : List (List Key)} {ds : List D} (h : RepB K W H (.ft ks ds) v) (ok : WOk K W S H) : ∃ a o kvs, v = .ref a ∧ H a = some (.frz o (.dT kvs)) ∧ kvs.map (·.1) = ks ∧ RepL K W.G W.r ds (kvs.map (·.2)) := by
  rcases h with h | ⟨x, a, u, e, e2, e3, e4, _⟩
  · cases h with
    | ft h1 h2 h3 => exact ⟨_, _, _, rfl, ok.sub _ _ h1, h2, h3⟩
  · cases e4 with
    | ft e4 e5 =>
      cases e
      exact ⟨_, _, _, e2, e3, e4, e5⟩
    | _ => cases e
theorem WOk.loc {n : Nat} {a : Addr} {ds : List D} (ok : WOk K W S H) (h : W.r[n]? = some a) (e : S[n]? = some (.l ds)) : ∃ xs, H a = some (.lst xs) ∧ RepL K W.G W.r ds xs := by
  obtain ⟨b, u, h1, h2, h3⟩ := ok.cell n _ e
  rw [h] at h1
  cases h1
  cases h3 with
  | l h3 => exact ⟨_, h2, h3⟩
end
/-- an operator that gives a value of no heap -/
def pureO (g : D → D → Option D) : D → D → Sto → Res R := fun d e S => match g d e with
  | some r => .ok (.v r) S
  | none => .bad
theorem pureO_ok {g : D → D → Option D} {d e : D} {S S' : Sto} {r : R} (h : pureO g d e S = .ok r S') : ∃ z, g d e = some z ∧ r = .v z ∧ S' = S := by
  unfold pureO at h
  cases hg : g d e with
  | none => rw [hg] at h; cases h
  | some z =>
    rw [hg] at h
    cases h
    exact ⟨z, rfl, rfl, rfl⟩

/-! ### arithmetic -/
def fAdd : D → D → Sto → Res R := fun d e S => match d, e with
  | .int i, .int j => .ok (.v (.int (i + j))) S
  | .lst xs, .lst ys => if xs.length + ys.length ≤ 100000 then .ok (.o (.l (xs ++ ys))) S else .bad
  | .tup xs, .tup ys => if xs.length + ys.length ≤ 100000 then .ok (.v (.tup (xs ++ ys))) S else .bad
  | .str x, .str y => if x.length + y.length ≤ 100000 then .ok (.v (.str (x ++ y))) S else .bad
  | _, _ => .bad
def gI (f : Int → Int → Int) : D → D → Option D := fun d e => match d, e with
  | .int i, .int j => some (.int (f i j))
  | _, _ => none
def gB (f : Int → Int → Bool) : D → D → Option D := fun d e => match d, e with
  | .int i, .int j => some (.bl (f i j))
  | _, _ => none
theorem gI_inv {f : Int → Int → Int} {d e z : D} (h : gI f d e = some z) : ∃ i j, d = .int i ∧ e = .int j ∧ z = .int (f i j) := by
  unfold gI at h
  split at h
  · cases h
    exact ⟨_, _, rfl, rfl, rfl⟩
  · cases h
theorem gB_inv {f : Int → Int → Bool} {d e z : D} (h : gB f d e = some z) : ∃ i j, d = .int i ∧ e = .int j ∧ z = .bl (f i j) := by
  unfold gB at h
  split at h
  · cases h
    exact ⟨_, _, rfl, rfl, rfl⟩
  · cases h
section
variable {X : Cx}
theorem OpR.imp {f : Value → Value → Sem Value} {r r' : R2} (h : OpR X f r) (i : ∀ x y H Q, r' x y H Q → r x y H Q) : OpR X f r' := fun pins s σ H x y v u Q I rx ry q => h pins s σ H x y v u Q I rx ry (i x y H Q q)
theorem CallR.imp {f : Value} {r r' : List V → Hp → VK → Prop} (h : CallR X f r) (i : ∀ x H Q, r' x H Q → r x H Q) : CallR X f r' := fun pins s σ H x u Q I rx q => h pins s σ H x u Q I rx (i x H Q q)
theorem IxR.imp {r r' : R2} (h : IxR X r) (i : ∀ x y H Q, r' x y H Q → r x y H Q) : IxR X r' := fun value slice pins s σ H x y v u Q I rx ry q => h value slice pins s σ H x y v u Q I rx ry (i x y H Q q)
theorem mo_add : OpR X (binaryOp .Add) (rO X.K fAdd) :=
  OpR.imp (OpR.or op_add (OpR.or op_cat (OpR.or op_catA op_add_str))) fun x y H Q ⟨W, S, d, e, r, S', ok, rx, ry, h, q⟩ => by
    unfold fAdd at h
    split at h
    · cases h
      obtain rfl := rx.int_inv
      obtain rfl := ry.int_inv
      exact .inl ⟨_, _, rfl, rfl, q W H _ (Ext.refl _ _) ok (.int _)⟩
    · split at h
      case isFalse => cases h
      cases h
      rename_i hl
      obtain ⟨a, xs', rfl, h1, h2⟩ := rx.lst_inv ok
      obtain ⟨b, ys', rfl, h3, h4⟩ := ry.lst_inv ok
      refine .inr (.inl ⟨a, b, xs', ys', rfl, rfl, h1, h3, ?_, fun p hp => ?_⟩)
      · rw [← h2.length, ← h4.length]
        exact le_sizeLine hl
      · obtain ⟨e1, o1, r1⟩ := obj_new (x := .l _) ok hp (.l (h2.append h4))
        exact q _ _ _ e1 o1 r1
    · split at h
      case isFalse => cases h
      cases h
      rename_i hl
      obtain ⟨a, xs', rfl, h1, h2⟩ := rx.tup_inv
      obtain ⟨b, ys', rfl, h3, h4⟩ := ry.tup_inv
      refine .inr (.inr (.inl ⟨a, b, xs', ys', rfl, rfl, SqT.of (ok.sub _ _ h1), SqT.of (ok.sub _ _ h3), ?_, fun z => ?_, fun z1 z2 => ?_, fun z1 z2 p hp => ?_⟩))
      · rw [← h2.length, ← h4.length]
        exact le_sizeLine hl
      · subst z
        cases h2
        exact q W H _ (Ext.refl _ _) ok (.tup h3 h4)
      · subst z2
        cases h4
        rw [List.append_nil] at q
        exact q W H _ (Ext.refl _ _) ok (.tup h1 h2)
      · obtain ⟨e1, o1, r1⟩ := tup_new ok hp (h2.append h4)
        exact q _ _ _ e1 o1 r1
    · split at h
      case isFalse => cases h
      cases h
      rename_i hl
      obtain rfl := rx.str_inv
      obtain rfl := ry.str_inv
      exact .inr (.inr (.inr ⟨_, _, rfl, rfl, le_sizeLine hl, q W H _ (Ext.refl _ _) ok (.str _)⟩))
    · cases h
theorem mo_int {f : Value → Value → Sem Value} {g : Int → Int → Int} (h : OpR X f (rI0 fun i j => .int (g i j))) : OpR X f (rO X.K (pureO (gI g))) := OpR.imp h fun x y H Q ⟨W, S, d, e, r, S', ok, rx, ry, h, q⟩ => by
  obtain ⟨z, h1, rfl, rfl⟩ := pureO_ok h
  obtain ⟨i, j, rfl, rfl, rfl⟩ := gI_inv h1
  obtain rfl := rx.int_inv
  obtain rfl := ry.int_inv
  exact ⟨_, _, rfl, rfl, q W H _ (Ext.refl _ _) ok (.int _)⟩
theorem mo_bool {f : Value → Value → Sem Value} {g : Int → Int → Bool} (h : OpR X f (rI0 fun i j => .bl (g i j))) : OpR X f (rO X.K (pureO (gB g))) := OpR.imp h fun x y H Q ⟨W, S, d, e, r, S', ok, rx, ry, h, q⟩ => by
  obtain ⟨z, h1, rfl, rfl⟩ := pureO_ok h
  obtain ⟨i, j, rfl, rfl, rfl⟩ := gB_inv h1
  obtain rfl := rx.int_inv
  obtain rfl := ry.int_inv
  exact ⟨_, _, rfl, rfl, q W H _ (Ext.refl _ _) ok (.bl _)⟩
def fSub := pureO (gI fun i j => i - j)
theorem mo_sub : OpR X (binaryOp .Sub) (rO X.K fSub) := mo_int op_sub
theorem mo_iadd : OpR X (inplaceOp .Add) (rO X.K (pureO (gI fun i j => i + j))) := mo_int iop_add
theorem mo_isub : OpR X (inplaceOp .Sub) (rO X.K fSub) := mo_int iop_sub
/-- products: of ints, one of them below 2^64, or both below 2^2000; a list so many times -/
def big : Nat := 2 ^ 2000
def mulOk (i j : Int) : Bool := decide (i.natAbs < 18446744073709551616) || decide (j.natAbs < 18446744073709551616) || (decide (i.natAbs < big) && decide (j.natAbs < big))
theorem mulOk_ok {i j : Int} (h : mulOk i j = true) : CMul i j ∨ CMulW i j := by
  unfold mulOk at h
  simp only [Bool.or_eq_true, Bool.and_eq_true, decide_eq_true_eq] at h
  rcases h with (h | h) | ⟨h1, h2⟩
  · exact .inl (.inl ⟨by omega, by omega⟩)
  · exact .inl (.inr ⟨by omega, by omega⟩)
  · exact .inr (wide_mul (a := 2000) (b := 2000) h1 h2 (by decide) (by decide) (by decide))
def fMul : D → D → Sto → Res R := fun d e S => match d, e with
  | .int i, .int j => if mulOk i j = true then .ok (.v (.int (i * j))) S else .bad
  | .lst xs, .int k => if xs.length * k.toNat ≤ 100000 ∧ -100000 ≤ k ∧ k ≤ 100000 then .ok (.o (.l (List.replicate k.toNat xs).flatten)) S else .bad
  | _, _ => .bad
theorem RepL.rep {K : PySem.W.Frag} {G : Hp} {l : List Addr} {ds : List D} {xs : List V} (h : RepL K G l ds xs) : ∀ n : Nat, RepL K G l (List.replicate n ds).flatten (List.replicate n xs).flatten
  | 0 => .nil
  | n + 1 => by
    rw [List.replicate_succ, List.replicate_succ, List.flatten_cons, List.flatten_cons]
    exact h.append (h.rep n)
theorem mo_mul : OpR X (binaryOp .Mult) (rO X.K fMul) :=
  OpR.imp (OpR.or op_mul (OpR.or op_mulW op_rep)) fun x y H Q ⟨W, S, d, e, r, S', ok, rx, ry, h, q⟩ => by
    unfold fMul at h
    split at h
    · split at h
      case isFalse => cases h
      cases h
      rename_i hm
      obtain rfl := rx.int_inv
      obtain rfl := ry.int_inv
      rcases mulOk_ok hm with c | c
      · exact .inl ⟨_, _, rfl, rfl, c, q W H _ (Ext.refl _ _) ok (.int _)⟩
      · exact .inr (.inl ⟨_, _, rfl, rfl, c, q W H _ (Ext.refl _ _) ok (.int _)⟩)
    · split at h
      case isFalse => cases h
      cases h
      rename_i hm
      obtain ⟨a, xs', rfl, h1, h2⟩ := rx.lst_inv ok
      obtain rfl := ry.int_inv
      refine .inr (.inr ⟨a, _, xs', rfl, rfl, h1, by omega, by omega, ?_, fun p hp => ?_⟩)
      · rw [← h2.length]
        exact le_sizeLine hm.1
      · obtain ⟨e1, o1, r1⟩ := obj_new (x := .l _) ok hp (.l (h2.rep _))
        exact q _ _ _ e1 o1 r1
    · cases h
theorem iop_mulW : OpR X (inplaceOp .Mult) (rI CMulW fun i j => .int (i * j)) := opI fun _ _ _ _ _ _ _ hc q => imul_int q hc.ok
def fIMul : D → D → Sto → Res R := fun d e S => match d, e with
  | .int i, .int j => if mulOk i j = true then .ok (.v (.int (i * j))) S else .bad
  | _, _ => .bad
theorem mo_imul : OpR X (inplaceOp .Mult) (rO X.K fIMul) :=
  OpR.imp (OpR.or iop_mul iop_mulW) fun x y H Q ⟨W, S, d, e, r, S', ok, rx, ry, h, q⟩ => by
    unfold fIMul at h
    split at h
    · split at h
      case isFalse => cases h
      cases h
      rename_i hm
      obtain rfl := rx.int_inv
      obtain rfl := ry.int_inv
      rcases mulOk_ok hm with c | c
      · exact .inl ⟨_, _, rfl, rfl, c, q W H _ (Ext.refl _ _) ok (.int _)⟩
      · exact .inr ⟨_, _, rfl, rfl, c, q W H _ (Ext.refl _ _) ok (.int _)⟩
    · cases h
def fDiv : D → D → Sto → Res R := fun d e S => match d, e with
  | .int i, .int j => if 0 < j ∧ j.natAbs < big then .ok (.v (.int (i / j))) S else .bad
  | _, _ => .bad
theorem mo_div : OpR X (binaryOp .FloorDiv) (rO X.K fDiv) := OpR.imp op_fdivW fun x y H Q ⟨W, S, d, e, r, S', ok, rx, ry, h, q⟩ => by
  unfold fDiv at h
  split at h
  · split at h
    case isFalse => cases h
    cases h
    rename_i hm
    obtain rfl := rx.int_inv
    obtain rfl := ry.int_inv
    exact ⟨_, _, rfl, rfl, wide_div (b := 2000) hm.1 hm.2 (by decide) (by decide), q W H _ (Ext.refl _ _) ok (.int _)⟩
  · cases h
def fMod : D → D → Sto → Res R := fun d e S => match d, e with
  | .int i, .int j => if 0 < j then .ok (.v (.int (i % j))) S else .bad
  | _, _ => .bad
theorem mo_mod : OpR X (binaryOp .Mod) (rO X.K fMod) := OpR.imp op_mod fun x y H Q ⟨W, S, d, e, r, S', ok, rx, ry, h, q⟩ => by
  unfold fMod at h
  split at h
  · split at h
    case isFalse => cases h
    cases h
    rename_i hm
    obtain rfl := rx.int_inv
    obtain rfl := ry.int_inv
    exact ⟨_, _, rfl, rfl, hm, q W H _ (Ext.refl _ _) ok (.int _)⟩
  · cases h
def fPow : D → D → Sto → Res R := fun d e S => match d, e with
  | .int i, .int j => if 0 ≤ j ∧ j ≤ 1000 ∧ i.natAbs < 18446744073709551616 then .ok (.v (.int (i ^ j.toNat))) S else .bad
  | _, _ => .bad
theorem mo_pow : OpR X (binaryOp .Pow) (rO X.K fPow) := OpR.imp op_pow fun x y H Q ⟨W, S, d, e, r, S', ok, rx, ry, h, q⟩ => by
  unfold fPow at h
  split at h
  · split at h
    case isFalse => cases h
    cases h
    rename_i hm
    obtain rfl := rx.int_inv
    obtain rfl := ry.int_inv
    exact ⟨_, _, rfl, rfl, ⟨hm.1, by omega, hm.2.2⟩, q W H _ (Ext.refl _ _) ok (.int _)⟩
  · cases h
def fNeg : D → Sto → Res R := fun d S => match d with
  | .int i => .ok (.v (.int (-i))) S
  | _ => .bad
theorem mo_neg : UnR X (unaryOp .USub) (rU1 X.K fNeg) := fun pins s σ H x v Q I rx ⟨W, S, d, r, S', ok, rd, h, q⟩ => by
  unfold fNeg at h
  split at h
  · cases h
    obtain rfl := rd.int_inv
    exact un_neg pins s σ H _ v Q I rx ⟨_, rfl, q W H _ (Ext.refl _ _) ok (.int _)⟩
  · cases h

/-! ### equality -/
def fitN : Nat → D → Bool
  | _, .non => true
  | _, .bl _ => true
  | _, .int _ => true
  | _, .str x => PyData.strOk x
  | n + 1, .tup ds => ds.all (fitN n)
  | n + 1, .lst ds => ds.all (fitN n)
  | _, _ => false
mutual
def toPy : D → PyData
  | .bl b => .bool b
  | .int i => .int i
  | .str x => .str x
  | .tup ds => .tuple (toPys ds)
  | .lst ds => .list (toPys ds)
  | _ => .none
def toPys : List D → List PyData
  | [] => []
  | d :: ds => toPy d :: toPys ds
end
mutual
/-- Python's == of data -/
def deq : D → D → Bool
  | .non, .non => true
  | .bl a, .bl b => a == b
  | .bl a, .int j => (if a then 1 else 0) == j
  | .int i, .bl b => i == (if b then 1 else 0)
  | .int i, .int j => i == j
  | .str x, .str y => x == y
  | .lst xs, .lst ys => deqs xs ys
  | .tup xs, .tup ys => deqs xs ys
  | _, _ => false
def deqs : List D → List D → Bool
  | [], [] => true
  | x :: xs, y :: ys => deq x y && deqs xs ys
  | _, _ => false
end
theorem toPys_map : ∀ ds : List D, toPys ds = ds.map toPy
  | [] => by unfold toPys; rfl
  | d :: ds => by unfold toPys; rw [toPys_map ds]; rfl
theorem fit_lay : ∀ (n : Nat) (d : D), fitN n d = true → (toPy d).canLay0 = true ∧ (toPy d).depth ≤ n + 1 := by
  intro n
  induction n with
  | zero =>
    intro d h
    cases d with
    | non => exact ⟨by simp [toPy, PyData.canLay0], by simp [toPy, PyData.depth]⟩
    | bl b => exact ⟨by simp [toPy, PyData.canLay0], by simp [toPy, PyData.depth]⟩
    | int i => exact ⟨by simp [toPy, PyData.canLay0], by simp [toPy, PyData.depth]⟩
    | str x =>
      have h : PyData.strOk x = true := h
      exact ⟨by simpa [toPy, PyData.canLay0] using h, by simp [toPy, PyData.depth]⟩
    | _ => simp [fitN] at h
  | succ n ih =>
    have all : ∀ ds : List D, ds.all (fitN n) = true → PyData.canLayAll0 (toPys ds) = true ∧ PyData.depthAll (toPys ds) ≤ n + 1 := by
      intro ds
      induction ds with
      | nil => intro _; exact ⟨by simp [toPys, PyData.canLayAll0], by simp [toPys, PyData.depthAll]⟩
      | cons d ds ih2 =>
        intro h
        rw [List.all_cons, Bool.and_eq_true] at h
        obtain ⟨h1, h2⟩ := ih d h.1
        obtain ⟨h3, h4⟩ := ih2 h.2
        refine ⟨by simp [toPys, PyData.canLayAll0, h1, h3], ?_⟩
        simp only [toPys, PyData.depthAll]
        omega
    intro d h
    cases d with
    | non => exact ⟨by simp [toPy, PyData.canLay0], by simp [toPy, PyData.depth]⟩
    | bl b => exact ⟨by simp [toPy, PyData.canLay0], by simp [toPy, PyData.depth]⟩
    | int i => exact ⟨by simp [toPy, PyData.canLay0], by simp [toPy, PyData.depth]⟩
    | str x =>
      have h : PyData.strOk x = true := h
      exact ⟨by simpa [toPy, PyData.canLay0] using h, by simp [toPy, PyData.depth]⟩
    | tup ds =>
      have h : ds.all (fitN n) = true := h
      obtain ⟨h1, h2⟩ := all ds h
      refine ⟨by simpa [toPy, PyData.canLay0] using h1, ?_⟩
      simp only [toPy, PyData.depth]
      omega
    | lst ds =>
      have h : ds.all (fitN n) = true := h
      obtain ⟨h1, h2⟩ := all ds h
      refine ⟨by simpa [toPy, PyData.canLay0] using h1, ?_⟩
      simp only [toPy, PyData.depth]
      omega
    | _ => simp [fitN] at h
theorem fit_shaped {d : D} (h : fitN 20 d = true) : SeqAt.shaped (toPy d) = true := by
  obtain ⟨h1, h2⟩ := fit_lay 20 d h
  unfold SeqAt.shaped
  rw [h1, Bool.true_and]
  exact decide_eq_true (by omega)
theorem fit_dp {K : PySem.W.Frag} {G H : Hp} {l : List Addr} (sb : SubH G H) : ∀ (n : Nat) (d : D) (v : V), fitN n d = true → Rep K G l d v → Dp K H v (toPy d) := by
  intro n
  induction n with
  | zero =>
    intro d v h r
    cases r with
    | non => exact .non
    | bl b => exact .bl b
    | int i => exact .int i
    | str x => exact .str x
    | _ => simp [fitN] at h
  | succ n ih =>
    have all : ∀ (ds : List D) (xs : List V), ds.all (fitN n) = true → RepL K G l ds xs → DpAll K H xs (toPys ds) := by
      intro ds
      induction ds with
      | nil => intro xs _ r; cases r; exact .nil
      | cons d ds ih2 =>
        intro xs h r
        rw [List.all_cons, Bool.and_eq_true] at h
        cases r with
        | cons r1 r2 => exact .cons (ih d _ h.1 r1) (ih2 _ h.2 r2)
    intro d v h r
    cases r with
    | non => exact .non
    | bl b => exact .bl b
    | int i => exact .int i
    | str x => exact .str x
    | @tup a xs ds r1 r2 => exact .tup (SqT.of (sb _ _ r1)) (all ds xs h r2)
    | @lst a xs ds r1 r2 => exact .lst (SqL.of (sb _ _ r1)) (all ds xs h r2)
    | _ => simp [fitN] at h
theorem fit_dps {K : PySem.W.Frag} {G H : Hp} {l : List Addr} (sb : SubH G H) (n : Nat) : ∀ (ds : List D) (xs : List V), ds.all (fitN n) = true → RepL K G l ds xs → DpAll K H xs (toPys ds)
  | [], _, _, .nil => .nil
  | d :: ds, _, h, .cons r1 r2 => by
    rw [List.all_cons, Bool.and_eq_true] at h
    exact .cons (fit_dp sb n d _ h.1 r1) (fit_dps sb n ds _ h.2 r2)
theorem RepB.dp {K : PySem.W.Frag} {W : Wd} {S : Sto} {H : Hp} {d : D} {v : V} {n : Nat} (h : RepB K W H d v) (ok : WOk K W S H) (f : fitN (n + 1) d = true) : Dp K H v (toPy d) := by
  rcases h with h | ⟨x, a, u, rfl, rfl, h3, h4, _⟩
  · exact fit_dp ok.sub (n + 1) d v f h
  · cases h4 with
    | @l ds xs h4 => exact .lst (SqL.of h3) (fit_dps ok.sub n ds xs f h4)
    | k _ _ => simp [O.toD, fitN] at f
    | t _ _ => simp [O.toD, fitN] at f
    | fk _ _ => simp [O.toD, fitN] at f
    | ft _ _ => simp [O.toD, fitN] at f
theorem deq_py : ∀ (n : Nat) (d e : D), fitN n d = true → fitN n e = true → PyData.eqv (toPy d) (toPy e) = deq d e := by
  intro n
  induction n with
  | zero =>
    intro d e h1 h2
    cases d <;> first | (simp [fitN] at h1; done) | (cases e <;> first | (simp [fitN] at h2; done) | simp [toPy, PyData.eqv, deq])
  | succ n ih =>
    have all : ∀ ds es : List D, ds.all (fitN n) = true → es.all (fitN n) = true → PyData.eqvAll (toPys ds) (toPys es) = deqs ds es := by
      intro ds
      induction ds with
      | nil => intro es _ _; cases es <;> simp [toPys, PyData.eqvAll, deqs]
      | cons d ds ih2 =>
        intro es h1 h2
        cases es with
        | nil => simp [toPys, PyData.eqvAll, deqs]
        | cons e es =>
          rw [List.all_cons, Bool.and_eq_true] at h1 h2
          simp only [toPys, PyData.eqvAll, deqs]
          rw [ih d e h1.1 h2.1, ih2 es h1.2 h2.2]
    intro d e h1 h2
    cases d <;> first | (simp [fitN] at h1; done) | (cases e <;> first | (simp [fitN] at h2; done) | (simp [toPy, PyData.eqv, deq]; done) | (simp only [toPy, PyData.eqv, deq]; exact all _ _ h1 h2))
def fEq : D → D → Sto → Res R := fun d e S => if fitN 20 d = true ∧ fitN 20 e = true then .ok (.v (.bl (deq d e))) S else .bad
def fNe : D → D → Sto → Res R := fun d e S => if fitN 20 d = true ∧ fitN 20 e = true then .ok (.v (.bl (!deq d e))) S else .bad
theorem mo_eq (hu : X.A.units + 64 < cLine) : OpR X (compareOp .Eq) (rO X.K fEq) := OpR.imp (op_eqD hu) fun x y H Q ⟨W, S, d, e, r, S', ok, rx, ry, h, q⟩ => by
  unfold fEq at h
  split at h
  case isFalse => cases h
  cases h
  rename_i hf
  refine ⟨toPy d, toPy e, rx.dp ok hf.1, ry.dp ok hf.2, fit_shaped hf.1, fit_shaped hf.2, ?_⟩
  rw [deq_py 20 d e hf.1 hf.2]
  exact q W H _ (Ext.refl _ _) ok (.bl _)
theorem mo_ne (hu : X.A.units + 64 < cLine) : OpR X (compareOp .NotEq) (rO X.K fNe) := OpR.imp (op_neD hu) fun x y H Q ⟨W, S, d, e, r, S', ok, rx, ry, h, q⟩ => by
  unfold fNe at h
  split at h
  case isFalse => cases h
  cases h
  rename_i hf
  refine ⟨toPy d, toPy e, rx.dp ok hf.1, ry.dp ok hf.2, fit_shaped hf.1, fit_shaped hf.2, ?_⟩
  rw [deq_py 20 d e hf.1 hf.2]
  exact q W H _ (Ext.refl _ _) ok (.bl _)
def isNon : D → Bool
  | .non => true
  | _ => false
theorem RepB.isNon {K : PySem.W.Frag} {W : Wd} {H : Hp} {d : D} {v : V} (h : RepB K W H d v) : decide (v = .non) = MP.isNon d := by
  rcases h with h | ⟨x, a, u, rfl, rfl, _⟩
  · cases h <;> first | rfl | exact decide_eq_false (fun z => nomatch z)
  · cases x <;> exact decide_eq_false (fun z => nomatch z)
end
end MP

namespace MP
open PySem PySem.Spec PyProof.Rows L2

/-! ### dicts by keys -/
def keyOf : D → Option Key
  | .int i => some (.inl i)
  | .str x => some (.inr x)
  | _ => none
def keysOfL : List D → Option (List Key)
  | [] => some []
  | d :: ds => match keyOf d, keysOfL ds with
    | some k, some ks => some (k :: ks)
    | _, _ => none
def keysOf : D → Option (List Key)
  | .tup ds => keysOfL ds
  | _ => none
section
variable {κ : Type} [DecidableEq κ]
def lookK : List κ → List D → κ → Option D
  | k :: ks, d :: ds, q => if k = q then some d else lookK ks ds q
  | _, _, _ => none
def putVs : List κ → List D → κ → D → List D
  | k :: ks, d :: ds, q, z => (if k = q then z else d) :: putVs ks ds q z
  | _, _, _, _ => []
def putKs (ks : List κ) (q : κ) : List κ := if q ∈ ks then ks else ks ++ [q]
def putDs (ks : List κ) (ds : List D) (q : κ) (z : D) : List D := if q ∈ ks then putVs ks ds q z else ds ++ [z]
variable {K : PySem.W.Frag} {G : Hp} {l : List Addr}
theorem look_some : ∀ {kvs : List (κ × V)} {ks : List κ} {ds : List D} {q : κ} {d : D}, kvs.map (·.1) = ks → RepL K G l ds (kvs.map (·.2)) → lookK ks ds q = some d → ∃ v, valV kvs q = some v ∧ Rep K G l d v
  | [], ks, ds, q, d, e, r, h => by
    subst e
    cases r
    unfold lookK at h
    cases h
  | (k, v) :: kvs, ks, ds, q, d, e, r, h => by
    subst e
    cases r with
    | cons r1 r2 =>
      rw [List.map_cons] at h
      unfold lookK at h
      by_cases c : k = q
      · rw [if_pos c] at h
        cases h
        exact ⟨v, valV_pos c, r1⟩
      · rw [if_neg c] at h
        obtain ⟨w, h1, h2⟩ := look_some rfl r2 h
        exact ⟨w, by rw [valV_neg c]; exact h1, h2⟩
theorem look_none : ∀ {kvs : List (κ × V)} {ks : List κ} {ds : List D} {q : κ}, kvs.map (·.1) = ks → RepL K G l ds (kvs.map (·.2)) → lookK ks ds q = none → valV kvs q = none
  | [], ks, ds, q, e, r, h => rfl
  | (k, v) :: kvs, ks, ds, q, e, r, h => by
    subst e
    cases r with
    | cons r1 r2 =>
      rw [List.map_cons] at h
      unfold lookK at h
      by_cases c : k = q
      · rw [if_pos c] at h
        cases h
      · rw [if_neg c] at h
        rw [valV_neg c]
        exact look_none rfl r2 h
theorem has_iff {kvs : List (κ × V)} {ks : List κ} {q : κ} (e : kvs.map (·.1) = ks) : (kvs.any fun kv => decide (kv.1 = q)) = decide (q ∈ ks) := by
  subst e
  induction kvs with
  | nil => simp
  | cons p r ih =>
    rw [List.any_cons, ih, List.map_cons]
    by_cases c : p.1 = q
    · simp [c]
    · have c' : ¬ q = p.1 := fun z => c z.symm
      simp [c, c']
theorem put_rep {kvs : List (κ × V)} {ks : List κ} {ds : List D} {q : κ} {d : D} {v : V} (e : kvs.map (·.1) = ks) (r : RepL K G l ds (kvs.map (·.2))) (z : Rep K G l d v) :
    (putK kvs q v).map (·.1) = putKs ks q ∧ RepL K G l (putDs ks ds q d) ((putK kvs q v).map (·.2)) := by
  unfold putK putKs putDs
  rw [has_iff e]
  by_cases c : q ∈ ks
  · rw [if_pos (decide_eq_true c), if_pos c, if_pos c]
    subst e
    clear c
    refine ⟨?_, ?_⟩
    · rw [List.map_map]
      apply List.map_congr_left
      intro p _
      simp only [Function.comp]
      split <;> rfl
    · induction kvs generalizing ds with
      | nil => cases r; exact .nil
      | cons p t ih =>
        cases r with
        | cons r1 r2 =>
          rw [List.map_cons, List.map_cons, List.map_cons]
          unfold putVs
          by_cases c : p.1 = q
          · rw [if_pos c, if_pos c]
            exact .cons z (ih r2)
          · rw [if_neg c, if_neg c]
            exact .cons r1 (ih r2)
  · rw [if_neg (by simp [c]), if_neg c, if_neg c]
    subst e
    refine ⟨by simp, ?_⟩
    rw [List.map_append]
    exact r.append (.cons z .nil)
end
theorem key_rep {K : PySem.W.Frag} {W : Wd} {H : Hp} {d : D} {v : V} {k : Key} (h : RepB K W H d v) (e : keyOf d = some k) : v = kV k := by
  cases d with
  | int i => cases e; rw [h.int_inv]; rfl
  | str x => cases e; rw [h.str_inv]; rfl
  | _ => cases e
theorem keysL_rep {K : PySem.W.Frag} {W : Wd} {H : Hp} : ∀ {ds : List D} {xs : List V} {ks : List Key}, RepL K W.G W.r ds xs → keysOfL ds = some ks → xs = ks.map kV
  | [], _, ks, r, e => by
    cases r
    unfold keysOfL at e
    cases e
    rfl
  | d :: ds, _, ks, r, e => by
    cases r with
    | cons r1 r2 =>
      unfold keysOfL at e
      split at e
      · rename_i k ks' h1 h2
        cases e
        rw [key_rep (H := H) (.inl r1) h1, keysL_rep (H := H) r2 h2]
        rfl
      · cases e
theorem keys_rep {K : PySem.W.Frag} {W : Wd} {S : Sto} {H : Hp} {d : D} {v : V} {ks : List Key} (h : RepB K W H d v) (ok : WOk K W S H) (e : keysOf d = some ks) : ∃ b, v = .ref b ∧ H b = some (.tup (ks.map kV)) := by
  cases d with
  | tup ds =>
    obtain ⟨b, xs, rfl, h1, h2⟩ := h.tup_inv
    rw [← keysL_rep (H := H) h2 e]
    exact ⟨b, rfl, ok.sub _ _ h1⟩
  | _ => cases e
/-- what a dict holds at a key -/
def dlook : D → D → Option (Option D)
  | .dk ks ds, k => match keyOf k with
    | some q => some (lookK ks ds q)
    | none => none
  | .dt ks ds, k => match keysOf k with
    | some q => some (lookK ks ds q)
    | none => none
  | .fk ks ds, k => match keyOf k with
    | some q => some (lookK ks ds q)
    | none => none
  | .ft ks ds, k => match keysOf k with
    | some q => some (lookK ks ds q)
    | none => none
  | _, _ => none
theorem dlook_get {K : PySem.W.Frag} {W : Wd} {S : Sto} {H : Hp} {d k : D} {v y : V} {o : Option D} (ok : WOk K W S H) (h : RepB K W H d v) (hk : RepB K W H k y) (e : dlook d k = some o) :
    ∃ a ov, v = .ref a ∧ DGet H a y ov ∧ ov.isSome = o.isSome ∧ (∀ z, o = some z → ∃ u, ov = some u ∧ Rep K W.G W.r z u) := by
  unfold dlook at e
  split at e
  · split at e
    case h_2 => cases e
    rename_i ks ds _ q hq
    obtain ⟨a, kvs, rfl, h1, h2, h3⟩ := h.dk_inv ok
    obtain rfl := key_rep hk hq
    cases e
    refine ⟨a, valV kvs q, rfl, DGet.k h1, ?_, fun z hz => ?_⟩
    · cases hl : lookK ks ds q with
      | none => rw [look_none h2 h3 hl]; rfl
      | some z =>
        obtain ⟨u, g1, g2⟩ := look_some h2 h3 hl
        rw [g1]
        rfl
    · obtain ⟨u, g1, g2⟩ := look_some h2 h3 hz
      exact ⟨u, g1, g2⟩
  · split at e
    case h_2 => cases e
    rename_i ks ds _ q hq
    obtain ⟨a, kvs, rfl, h1, h2, h3⟩ := h.dt_inv ok
    obtain ⟨b, rfl, hb⟩ := keys_rep hk ok hq
    cases e
    refine ⟨a, valV kvs q, rfl, DGet.t h1 hb, ?_, fun z hz => ?_⟩
    · cases hl : lookK ks ds q with
      | none => rw [look_none h2 h3 hl]; rfl
      | some z =>
        obtain ⟨u, g1, g2⟩ := look_some h2 h3 hl
        rw [g1]
        rfl
    · obtain ⟨u, g1, g2⟩ := look_some h2 h3 hz
      exact ⟨u, g1, g2⟩
  · split at e
    case h_2 => cases e
    rename_i ks ds _ q hq
    obtain ⟨a, oo, kvs, rfl, h1, h2, h3⟩ := h.fk_inv ok
    obtain rfl := key_rep hk hq
    cases e
    refine ⟨a, valV kvs q, rfl, (.inl ⟨kvs, q, .inr ⟨oo, h1⟩, rfl, rfl⟩), ?_, fun z hz => ?_⟩
    · cases hl : lookK ks ds q with
      | none => rw [look_none h2 h3 hl]; rfl
      | some z =>
        obtain ⟨u, g1, g2⟩ := look_some h2 h3 hl
        rw [g1]
        rfl
    · obtain ⟨u, g1, g2⟩ := look_some h2 h3 hz
      exact ⟨u, g1, g2⟩
  · split at e
    case h_2 => cases e
    rename_i ks ds _ q hq
    obtain ⟨a, oo, kvs, rfl, h1, h2, h3⟩ := h.ft_inv ok
    obtain ⟨b, rfl, hb⟩ := keys_rep hk ok hq
    cases e
    refine ⟨a, valV kvs q, rfl, (.inr ⟨kvs, q, b, .inr ⟨oo, h1⟩, rfl, hb, rfl⟩), ?_, fun z hz => ?_⟩
    · cases hl : lookK ks ds q with
      | none => rw [look_none h2 h3 hl]; rfl
      | some z =>
        obtain ⟨u, g1, g2⟩ := look_some h2 h3 hl
        rw [g1]
        rfl
    · obtain ⟨u, g1, g2⟩ := look_some h2 h3 hz
      exact ⟨u, g1, g2⟩
  · cases e

/-! ### in -/
def din (d c : D) : Option Bool := match c with
  | .lst es => if fitN 20 d = true ∧ es.all (fitN 19) = true then some (es.any fun z => deq z d) else none
  | .tup es => if fitN 20 d = true ∧ es.all (fitN 19) = true then some (es.any fun z => deq z d) else none
  | .wt es => if fitN 20 d = true ∧ es.all (fitN 19) = true then some (es.any fun z => deq z d) else none
  | .dk ks ds => (dlook (.dk ks ds) d).map (·.isSome)
  | .dt ks ds => (dlook (.dt ks ds) d).map (·.isSome)
  | .fk ks ds => (dlook (.fk ks ds) d).map (·.isSome)
  | .ft ks ds => (dlook (.ft ks ds) d).map (·.isSome)
  | _ => none
def fIn : D → D → Sto → Res R := fun d c S => match din d c with
  | some b => .ok (.v (.bl b)) S
  | none => .bad
def fNotIn : D → D → Sto → Res R := fun d c S => match din d c with
  | some b => .ok (.v (.bl (!b))) S
  | none => .bad
theorem fit_mono : ∀ (n : Nat) (d : D), fitN n d = true → fitN (n + 1) d = true := by
  intro n
  induction n with
  | zero =>
    intro d h
    cases d <;> first | exact h | simp [fitN] at h
  | succ n ih =>
    intro d h
    cases d with
    | tup ds =>
      have h : ds.all (fitN n) = true := h
      show ds.all (fitN (n + 1)) = true
      rw [List.all_eq_true] at h ⊢
      exact fun x hx => ih x (h x hx)
    | lst ds =>
      have h : ds.all (fitN n) = true := h
      show ds.all (fitN (n + 1)) = true
      rw [List.all_eq_true] at h ⊢
      exact fun x hx => ih x (h x hx)
    | _ => first | exact h | simp [fitN] at h
theorem any_py {es : List D} {d : D} (h : es.all (fitN 19) = true) (hd : fitN 20 d = true) : ((toPys es).any fun z => PyData.eqv z (toPy d)) = es.any fun z => deq z d := by
  induction es with
  | nil => simp [toPys]
  | cons e es ih =>
    rw [List.all_cons, Bool.and_eq_true] at h
    simp only [toPys, List.any_cons]
    rw [ih h.2, deq_py 20 e d (fit_mono 19 e h.1) hd]
section
variable {X : Cx}
theorem op_inT (hu : X.A.units + 65 < cLine) : OpR X (compareOp .In) (fun x y H Q => ∃ d ds, Dp X.K H x d ∧ Dp X.K H y (.tuple ds) ∧ SeqAt.shaped d = true ∧ SeqAt.shaped (.tuple ds) = true ∧ Q (.bl (ds.any fun z => PyData.eqv z d)) H) := by
  intro pins s σ H x y v u Q I rx ry ⟨d, ds, hd, he, sd, se, q⟩
  obtain ⟨_, r1⟩ := Dp.reads I d x v hd rx
  obtain ⟨_, r2⟩ := Dp.reads I (.tuple ds) y u he ry
  exact SeqAt.in_tuple_reads r2 r1 (SeqAt.canLay_of_shaped se) (SeqAt.canLay_of_shaped sd) (room_in_shaped sd hu) ⟨.bl _, H, I, rfl, q⟩
theorem op_notInT (hu : X.A.units + 65 < cLine) : OpR X (compareOp .NotIn) (fun x y H Q => ∃ d ds, Dp X.K H x d ∧ Dp X.K H y (.tuple ds) ∧ SeqAt.shaped d = true ∧ SeqAt.shaped (.tuple ds) = true ∧ Q (.bl (!ds.any fun z => PyData.eqv z d)) H) := by
  intro pins s σ H x y v u Q I rx ry ⟨d, ds, hd, he, sd, se, q⟩
  obtain ⟨_, r1⟩ := Dp.reads I d x v hd rx
  obtain ⟨_, r2⟩ := Dp.reads I (.tuple ds) y u he ry
  exact SeqAt.notIn_tuple_reads r2 r1 (SeqAt.canLay_of_shaped se) (SeqAt.canLay_of_shaped sd) (room_in_shaped sd hu) ⟨.bl _, H, I, rfl, q⟩
theorem op_inDk (hu : X.A.units + 65 < cLine) : OpR X (compareOp .In) (fun x y H Q => ∃ a o, y = .ref a ∧ DGet H a x o ∧ Q (.bl o.isSome) H) := by
  intro pins s σ H x y v u Q I rx ry ⟨a, o, ey, g, q⟩
  subst ey
  cases ry
  exact d_in (by omega) I g rx fun s' I' => ⟨.bl _, H, I', rfl, q⟩
theorem op_notInDk (hu : X.A.units + 65 < cLine) : OpR X (compareOp .NotIn) (fun x y H Q => ∃ a o, y = .ref a ∧ DGet H a x o ∧ Q (.bl (!o.isSome)) H) := by
  intro pins s σ H x y v u Q I rx ry ⟨a, o, ey, g, q⟩
  subst ey
  cases ry
  exact d_notIn (by omega) I g rx fun s' I' => ⟨.bl _, H, I', rfl, q⟩
theorem din_of {K : PySem.W.Frag} {W : Wd} {S : Sto} {H : Hp} {d c : D} {x y : V} {b : Bool} (ok : WOk K W S H) (rx : RepB K W H d x) (ry : RepB K W H c y) (h : din d c = some b) :
    (∃ p ps, Dp K H x p ∧ Dp K H y (.list ps) ∧ SeqAt.shaped p = true ∧ SeqAt.shaped (.list ps) = true ∧ (ps.any fun z => PyData.eqv z p) = b) ∨
    (∃ p ps, Dp K H x p ∧ Dp K H y (.tuple ps) ∧ SeqAt.shaped p = true ∧ SeqAt.shaped (.tuple ps) = true ∧ (ps.any fun z => PyData.eqv z p) = b) ∨
    (∃ a o, y = .ref a ∧ DGet H a x o ∧ o.isSome = b) := by
  have dictc : ∀ {dd : D}, (dlook dd d).map (·.isSome) = some b → RepB K W H dd y → ∃ a o, y = .ref a ∧ DGet H a x o ∧ o.isSome = b := fun {dd} h1 h2 => by
    obtain ⟨o, e1, e2⟩ := Option.map_eq_some_iff.mp h1
    obtain ⟨a, ov, g1, g2, g3, _⟩ := dlook_get ok h2 rx e1
    exact ⟨a, ov, g1, g2, g3.trans e2⟩
  unfold din at h
  split at h
  · split at h
    case isFalse => cases h
    rename_i es hf
    cases h
    have ff : fitN 20 (.lst es) = true := hf.2
    refine .inl ⟨toPy d, toPys es, rx.dp ok hf.1, by have := ry.dp (n := 19) ok ff; simpa [toPy] using this, fit_shaped hf.1, by have := fit_shaped ff; simpa [toPy] using this, any_py hf.2 hf.1⟩
  · split at h
    case isFalse => cases h
    rename_i es hf
    cases h
    have ff : fitN 20 (.tup es) = true := hf.2
    refine .inr (.inl ⟨toPy d, toPys es, rx.dp ok hf.1, by have := ry.dp (n := 19) ok ff; simpa [toPy] using this, fit_shaped hf.1, by have := fit_shaped ff; simpa [toPy] using this, any_py hf.2 hf.1⟩)
  · split at h
    case isFalse => cases h
    rename_i es hf
    cases h
    have ff : fitN 20 (.tup es) = true := hf.2
    obtain ⟨a, xs, rfl, h1, h2⟩ := ry.wt_inv
    refine .inr (.inl ⟨toPy d, toPys es, rx.dp ok hf.1, .tup (ok.sub.sqT h1) (fit_dps ok.sub 19 es xs hf.2 h2), fit_shaped hf.1, by have := fit_shaped ff; simpa [toPy] using this, any_py hf.2 hf.1⟩)
  · exact .inr (.inr (dictc h ry))
  · exact .inr (.inr (dictc h ry))
  · exact .inr (.inr (dictc h ry))
  · exact .inr (.inr (dictc h ry))
  · cases h
theorem mo_in (hu : X.A.units + 65 < cLine) : OpR X (compareOp .In) (rO X.K fIn) := OpR.imp (OpR.or (op_inD hu) (OpR.or (op_inT hu) (op_inDk hu))) fun x y H Q ⟨W, S, d, e, r, S', ok, rx, ry, h, q⟩ => by
  unfold fIn at h
  cases hb : din d e with
  | none => rw [hb] at h; cases h
  | some b =>
    rw [hb] at h
    cases h
    have fin := q W H _ (Ext.refl _ _) ok (.bl b)
    rcases din_of ok rx ry hb with ⟨p, ps, h1, h2, h3, h4, h5⟩ | ⟨p, ps, h1, h2, h3, h4, h5⟩ | ⟨a, o, h1, h2, h3⟩
    · exact .inl ⟨p, ps, h1, h2, h3, h4, by rw [h5]; exact fin⟩
    · exact .inr (.inl ⟨p, ps, h1, h2, h3, h4, by rw [h5]; exact fin⟩)
    · exact .inr (.inr ⟨a, o, h1, h2, by rw [h3]; exact fin⟩)
theorem mo_notIn (hu : X.A.units + 65 < cLine) : OpR X (compareOp .NotIn) (rO X.K fNotIn) := OpR.imp (OpR.or (op_notInD hu) (OpR.or (op_notInT hu) (op_notInDk hu))) fun x y H Q ⟨W, S, d, e, r, S', ok, rx, ry, h, q⟩ => by
  unfold fNotIn at h
  cases hb : din d e with
  | none => rw [hb] at h; cases h
  | some b =>
    rw [hb] at h
    cases h
    have fin := q W H _ (Ext.refl _ _) ok (.bl (!b))
    rcases din_of ok rx ry hb with ⟨p, ps, h1, h2, h3, h4, h5⟩ | ⟨p, ps, h1, h2, h3, h4, h5⟩ | ⟨a, o, h1, h2, h3⟩
    · exact .inl ⟨p, ps, h1, h2, h3, h4, by rw [h5]; exact fin⟩
    · exact .inr (.inl ⟨p, ps, h1, h2, h3, h4, by rw [h5]; exact fin⟩)
    · exact .inr (.inr ⟨a, o, h1, h2, by rw [h3]; exact fin⟩)

/-! ### items -/
def ixD (xs : List D) (i : Int) : Option D := if 0 ≤ i then xs[i.toNat]? else if -(xs.length : Int) ≤ i then xs[(i + xs.length).toNat]? else none
def fIx : D → D → Sto → Res R := fun d e S => match d, e with
  | .tup xs, .int i => (match ixD xs i with | some z => .ok (.v z) S | none => .bad)
  | .lst xs, .int i => (match ixD xs i with | some z => .ok (.v z) S | none => .bad)
  | .wt xs, .int i => (match ixD xs i with | some z => .ok (.v z) S | none => .bad)
  | .loc n, .int i => (match S[n]? with
    | some (.l xs) => (match ixD xs i with | some z => .ok (.v z) S | none => .bad)
    | _ => .bad)
  | .scr ns, .int i => (match (if 0 ≤ i then ns[i.toNat]? else none) with | some z => .ok (.v (.int z)) S | none => .bad)
  | .dk ks ds, k => (match dlook (.dk ks ds) k with | some (some z) => .ok (.v z) S | _ => .bad)
  | .dt ks ds, k => (match dlook (.dt ks ds) k with | some (some z) => .ok (.v z) S | _ => .bad)
  | .fk ks ds, k => (match dlook (.fk ks ds) k with | some (some z) => .ok (.v z) S | _ => .bad)
  | .ft ks ds, k => (match dlook (.ft ks ds) k with | some (some z) => .ok (.v z) S | _ => .bad)
  | _, _ => .bad
theorem ixD_at {K : PySem.W.Frag} {G : Hp} {l : List Addr} {ds : List D} {xs : List V} {i : Int} {z : D} (r : RepL K G l ds xs) (h : ixD ds i = some z) : ∃ v, atI xs i = some v ∧ Rep K G l z v := by
  unfold ixD at h
  have hl := r.length
  unfold atI ixN
  by_cases c : 0 ≤ i
  · rw [if_pos c] at h
    obtain ⟨v, g1, g2⟩ := r.get h
    have hi := (List.getElem?_eq_some_iff.mp g1).1
    refine ⟨v, ?_, g2⟩
    rw [if_pos c, if_pos (by omega)]
    exact g1
  · rw [if_neg c] at h
    split at h
    case isFalse => cases h
    rename_i c2
    obtain ⟨v, g1, g2⟩ := r.get h
    refine ⟨v, ?_, g2⟩
    rw [if_neg c, if_pos (by omega), ← hl]
    exact g1
theorem ix_dict (hu : X.A.units + 65 < cLine) : IxR X (fun x y H Q => ∃ a v, x = .ref a ∧ DGet H a y (some v) ∧ Q v H) := by
  intro value slice pins s σ H x y v u Q I rx ry ⟨a, z, ex, g, q⟩ hs
  subst ex
  cases rx
  exact tail_any (dict_typeIs I g) PySem.F.slot_dict_getitem.lookup (d_getItem (by omega) I g ry fun w' s' I' rw' => ⟨z, H, I', rw', q⟩) hs
theorem IxR.or {r r' : R2} (h : IxR X r) (h' : IxR X r') : IxR X (fun x y H Q => r x y H Q ∨ r' x y H Q) := fun value slice pins s σ H x y v u Q I rx ry q => q.elim (h value slice pins s σ H x y v u Q I rx ry) (h' value slice pins s σ H x y v u Q I rx ry)
theorem mo_ix (hu : X.A.units + 65 < cLine) : IxR X (rO X.K fIx) := IxR.imp (IxR.or ix_list (IxR.or ix_tup (ix_dict hu))) fun x y H Q ⟨W, S, d, e, r, S', ok, rx, ry, h, q⟩ => by
  have dictc : ∀ {dd k : D}, (match dlook dd k with | some (some z) => Res.ok (R.v z) S | _ => .bad) = .ok r S' → RepB X.K W H dd x → RepB X.K W H k y → ∃ a v, x = .ref a ∧ DGet H a y (some v) ∧ Q v H := fun {dd k} h1 h2 h3 => by
    split at h1
    · rename_i z hz
      cases h1
      obtain ⟨a, ov, g1, g2, g3, g4⟩ := dlook_get ok h2 h3 hz
      obtain ⟨u, rfl, g6⟩ := g4 z rfl
      exact ⟨a, u, g1, g2, q W H _ (Ext.refl _ _) ok g6⟩
    · cases h1
  unfold fIx at h
  split at h
  · obtain rfl := ry.int_inv
    obtain ⟨a, xs', rfl, h1, h2⟩ := rx.tup_inv
    split at h
    case h_2 => cases h
    rename_i z hz
    cases h
    obtain ⟨v, g1, g2⟩ := ixD_at h2 hz
    exact .inr (.inl ⟨a, xs', _, v, rfl, rfl, SqT.of (ok.sub _ _ h1), g1, q W H _ (Ext.refl _ _) ok g2⟩)
  · obtain rfl := ry.int_inv
    obtain ⟨a, xs', rfl, h1, h2⟩ := rx.lst_inv ok
    split at h
    case h_2 => cases h
    rename_i z hz
    cases h
    obtain ⟨v, g1, g2⟩ := ixD_at h2 hz
    exact .inl ⟨a, xs', _, v, rfl, rfl, SqL.of h1, g1, q W H _ (Ext.refl _ _) ok g2⟩
  · obtain rfl := ry.int_inv
    obtain ⟨a, xs', rfl, h1, h2⟩ := rx.wt_inv
    split at h
    case h_2 => cases h
    rename_i z hz
    cases h
    obtain ⟨v, g1, g2⟩ := ixD_at h2 hz
    exact .inr (.inl ⟨a, xs', _, v, rfl, rfl, ok.sub.sqT h1, g1, q W H _ (Ext.refl _ _) ok g2⟩)
  · obtain rfl := ry.int_inv
    obtain ⟨a, rfl, h1⟩ := rx.loc_inv
    split at h
    case h_2 => cases h
    rename_i xs hS
    obtain ⟨xs', h2, h3⟩ := ok.loc h1 hS
    split at h
    case h_2 => cases h
    rename_i z hz
    cases h
    obtain ⟨v, g1, g2⟩ := ixD_at h3 hz
    exact .inl ⟨a, xs', _, v, rfl, rfl, SqL.of h2, g1, q W H _ (Ext.refl _ _) ok g2⟩
  · rename_i ns i
    obtain rfl := ry.int_inv
    obtain ⟨a, rfl, h1⟩ := rx.scr_inv
    split at h
    case h_2 => cases h
    rename_i z hz
    split at hz
    case isFalse => cases hz
    rename_i c
    cases h
    have hi := (List.getElem?_eq_some_iff.mp hz).1
    refine .inl ⟨a, ns.map V.int, i, .int z, rfl, rfl, ok.sub.sqL h1, ?_, q W H _ (Ext.refl _ _) ok (.int _)⟩
    unfold atI ixN
    rw [if_pos c, if_pos (by rw [List.length_map]; omega)]
    show (ns.map V.int)[i.toNat]? = _
    rw [List.getElem?_map, hz]
    rfl
  · exact .inr (.inr (dictc h rx ry))
  · exact .inr (.inr (dictc h rx ry))
  · exact .inr (.inr (dictc h rx ry))
  · exact .inr (.inr (dictc h rx ry))
  · cases h

/-! ### built-in functions of one argument and more -/
def rC (K : PySem.W.Frag) (f : List D → Sto → Res R) : List V → Hp → VK → Prop := fun xs H Q => ∃ W S ds r S', WOk K W S H ∧ AllB K W H ds xs ∧ f ds S = .ok r S' ∧ ∀ W' H' v, Ext W H W' H' → WOk K W' S' H' → RepR K W' H' H r v → Q v H'
theorem tCB_of {K : PySem.W.Frag} {f : List D → Sto → Res R} {da : DA} {σ : L2.St} {H : Hp} {Q : VK} (h : tR K (dBlt f da) σ H Q) : tCB (rC K f) (tAB K da) σ H Q := by
  obtain ⟨W, S, H0, env, ok, eo, r, S', h, q⟩ := h
  obtain ⟨ds, S1, h1, h2⟩ := bind_ok h
  exact ⟨W, S, H0, env, ok, eo, ds, S1, h1, fun W1 H1 vs e1 o1 r1 => ⟨W1, S1, ds, r, S', o1, r1, h2, fun W2 H2 z e2 o2 r2 => q W2 H2 z (e1.trans e2) o2 (r2.back fun a h => e1.fresh h)⟩⟩
theorem me_callB {id : String} {f : List D → Sto → Res R} {x : Str} {p pos : Pos} {e : Expr} {es : List Expr} {da : DA} (hc : CallR X (.builtin id) (rC X.K f)) (hg : Gl X x) (hm : X.mg x = none) (hv : bootBuiltins x = some (.builtin id)) (ha : PA X (e :: es) (tAB X.K da))
    (hn : x ≠ "__name__" := by decide) (hdb : (x == ("__debug__" : Str)) = false := by decide) (he : starEach (e :: es) X.env = (false, eval e X.env) :: starEach es X.env := by rfl) (hpl : (backTo pos (starEach es X.env)).any (·.1) = false := by rfl) :
    PE X (.Call (.Name x p) (e :: es) [] pos) (tR X.K (dBlt f da)) := PE.imp (pe_callB hc hg hm hv ha hn hdb he hpl) fun _ _ _ h => tCB_of h
theorem me_callTy {T : String} {f : List D → Sto → Res R} {x : Str} {p pos : Pos} {e : Expr} {es : List Expr} {da : DA} (hc : CallR X (.type T) (rC X.K f)) (hg : Gl X x) (hm : X.mg x = none) (hv : bootBuiltins x = some (.type T)) (ha : PA X (e :: es) (tAB X.K da))
    (hn : x ≠ "__name__" := by decide) (hdb : (x == ("__debug__" : Str)) = false := by decide) (he : starEach (e :: es) X.env = (false, eval e X.env) :: starEach es X.env := by rfl) (hpl : (backTo pos (starEach es X.env)).any (·.1) = false := by rfl) :
    PE X (.Call (.Name x p) (e :: es) [] pos) (tR X.K (dBlt f da)) := PE.imp (pe_callTy hc hg hm hv ha hn hdb he hpl) fun _ _ _ h => tCB_of h
theorem CallR.or {f : Value} {r r' : List V → Hp → VK → Prop} (h : CallR X f r) (h' : CallR X f r') : CallR X f (fun x H Q => r x H Q ∨ r' x H Q) := fun pins s σ H x u Q I rx q => q.elim (h pins s σ H x u Q I rx) (h' pins s σ H x u Q I rx)
/-- len -/
def bLen : List D → Sto → Res R := fun ds S => match ds with
  | [.tup xs] => .ok (.v (.int xs.length)) S
  | [.lst xs] => .ok (.v (.int xs.length)) S
  | [.scr ns] => .ok (.v (.int ns.length)) S
  | [.loc n] => (match S[n]? with | some (.l xs) => .ok (.v (.int xs.length)) S | _ => .bad)
  | [.dk ks _] => .ok (.v (.int ks.length)) S
  | _ => .bad
theorem mb_len : CallR X (.builtin "len") (rC X.K bLen) := CallR.imp (CallR.or call_len_seq call_lenD) fun vs H Q ⟨W, S, ds, r, S', ok, ra, h, q⟩ => by
  unfold bLen at h
  split at h
  · cases ra with
    | cons r1 r2 =>
      cases r2
      obtain ⟨a, xs', rfl, h1, h2⟩ := r1.tup_inv
      cases h
      rw [h2.length] at q
      exact .inl ⟨a, xs', rfl, .inr (SqT.of (ok.sub _ _ h1)), q W H _ (Ext.refl _ _) ok (.int _)⟩
  · cases ra with
    | cons r1 r2 =>
      cases r2
      obtain ⟨a, xs', rfl, h1, h2⟩ := r1.lst_inv ok
      cases h
      rw [h2.length] at q
      exact .inl ⟨a, xs', rfl, .inl (SqL.of h1), q W H _ (Ext.refl _ _) ok (.int _)⟩
  · cases ra with
    | cons r1 r2 =>
      cases r2
      obtain ⟨a, rfl, h1⟩ := r1.scr_inv
      cases h
      rw [← List.length_map (f := V.int)] at q
      exact .inl ⟨a, _, rfl, .inl (ok.sub.sqL h1), q W H _ (Ext.refl _ _) ok (.int _)⟩
  · cases ra with
    | cons r1 r2 =>
      cases r2
      obtain ⟨a, rfl, h1⟩ := r1.loc_inv
      split at h
      case h_2 => cases h
      rename_i xs hS
      obtain ⟨xs', h2, h3⟩ := ok.loc h1 hS
      cases h
      rw [h3.length] at q
      exact .inl ⟨a, xs', rfl, .inl (SqL.of h2), q W H _ (Ext.refl _ _) ok (.int _)⟩
  · cases ra with
    | cons r1 r2 =>
      cases r2
      obtain ⟨a, kvs, rfl, h1, h2, h3⟩ := r1.dk_inv ok
      cases h
      rw [← h2, List.length_map] at q
      exact .inr ⟨a, kvs, rfl, h1, q W H _ (Ext.refl _ _) ok (.int _)⟩
  · cases h
/-- list(x), tuple(x) of a list or a tuple -/
def bList : List D → Sto → Res R := fun ds S => match ds with
  | [.tup xs] => .ok (.o (.l xs)) S
  | [.lst xs] => .ok (.o (.l xs)) S
  | _ => .bad
theorem mb_list : CallR X (.type "list") (rC X.K bList) := CallR.imp call_list_of fun vs H Q ⟨W, S, ds, r, S', ok, ra, h, q⟩ => by
  unfold bList at h
  split at h
  · cases ra with
    | cons r1 r2 =>
      cases r2
      obtain ⟨a, xs', rfl, h1, h2⟩ := r1.tup_inv
      cases h
      refine ⟨a, xs', rfl, .inr (SqT.of (ok.sub _ _ h1)), fun p hp => ?_⟩
      obtain ⟨e1, o1, r1⟩ := obj_new (x := .l _) ok hp (.l h2)
      exact q _ _ _ e1 o1 r1
  · cases ra with
    | cons r1 r2 =>
      cases r2
      obtain ⟨a, xs', rfl, h1, h2⟩ := r1.lst_inv ok
      cases h
      refine ⟨a, xs', rfl, .inl (SqL.of h1), fun p hp => ?_⟩
      obtain ⟨e1, o1, r1⟩ := obj_new (x := .l _) ok hp (.l h2)
      exact q _ _ _ e1 o1 r1
  · cases h
def bTuple : List D → Sto → Res R := fun ds S => match ds with
  | [.tup xs] => .ok (.v (.tup xs)) S
  | [.lst xs] => .ok (.v (.tup xs)) S
  | _ => .bad
theorem mb_tuple : CallR X (.type "tuple") (rC X.K bTuple) := CallR.imp call_tuple_of fun vs H Q ⟨W, S, ds, r, S', ok, ra, h, q⟩ => by
  unfold bTuple at h
  split at h
  · cases ra with
    | cons r1 r2 =>
      cases r2
      obtain ⟨a, xs', rfl, h1, h2⟩ := r1.tup_inv
      cases h
      exact ⟨a, xs', rfl, .inr ⟨SqT.of (ok.sub _ _ h1), q W H _ (Ext.refl _ _) ok (.tup h1 h2)⟩⟩
  · cases ra with
    | cons r1 r2 =>
      cases r2
      obtain ⟨a, xs', rfl, h1, h2⟩ := r1.lst_inv ok
      cases h
      refine ⟨a, xs', rfl, .inl ⟨SqL.of h1, fun p hp => ?_⟩⟩
      obtain ⟨e1, o1, r1⟩ := tup_new ok hp h2
      exact q _ _ _ e1 o1 r1
  · cases h
def bAbs : List D → Sto → Res R := fun ds S => match ds with
  | [.int i] => .ok (.v (.int (if i < 0 then -i else i))) S
  | _ => .bad
theorem mb_abs : CallR X (.builtin "abs") (rC X.K bAbs) := CallR.imp call_abs fun vs H Q ⟨W, S, ds, r, S', ok, ra, h, q⟩ => by
  unfold bAbs at h
  split at h
  · cases ra with
    | cons r1 r2 =>
      cases r2
      obtain rfl := r1.int_inv
      cases h
      exact ⟨_, rfl, q W H _ (Ext.refl _ _) ok (.int _)⟩
  · cases h
def bInt : List D → Sto → Res R := fun ds S => match ds with
  | [.int i] => .ok (.v (.int i)) S
  | [.bl b] => .ok (.v (.int (if b then 1 else 0))) S
  | _ => .bad
theorem mb_int : CallR X (.type "int") (rC X.K bInt) := CallR.imp call_int1 fun vs H Q ⟨W, S, ds, r, S', ok, ra, h, q⟩ => by
  unfold bInt at h
  split at h
  · cases ra with
    | cons r1 r2 =>
      cases r2
      obtain rfl := r1.int_inv
      cases h
      exact .inl ⟨_, rfl, q W H _ (Ext.refl _ _) ok (.int _)⟩
  · cases ra with
    | cons r1 r2 =>
      cases r2
      obtain rfl := r1.bl_inv
      cases h
      exact .inr ⟨_, rfl, q W H _ (Ext.refl _ _) ok (.int _)⟩
  · cases h
def bMax2 : List D → Sto → Res R := fun ds S => match ds with
  | [.int i, .int j] => .ok (.v (.int (if j > i then j else i))) S
  | _ => .bad
def bMin2 : List D → Sto → Res R := fun ds S => match ds with
  | [.int i, .int j] => .ok (.v (.int (if j < i then j else i))) S
  | _ => .bad
theorem mb_max2 (hc : X.calm = true) : CallR X (.builtin "max") (rC X.K bMax2) := CallR.imp (call_max2 hc) fun vs H Q ⟨W, S, ds, r, S', ok, ra, h, q⟩ => by
  unfold bMax2 at h
  split at h
  · cases ra with
    | cons r1 r2 =>
      cases r2 with
      | cons r2 r3 =>
        cases r3
        obtain rfl := r1.int_inv
        obtain rfl := r2.int_inv
        cases h
        exact ⟨_, _, rfl, q W H _ (Ext.refl _ _) ok (.int _)⟩
  · cases h
theorem mb_min2 (hc : X.calm = true) : CallR X (.builtin "min") (rC X.K bMin2) := CallR.imp (call_min2 hc) fun vs H Q ⟨W, S, ds, r, S', ok, ra, h, q⟩ => by
  unfold bMin2 at h
  split at h
  · cases ra with
    | cons r1 r2 =>
      cases r2 with
      | cons r2 r3 =>
        cases r3
        obtain rfl := r1.int_inv
        obtain rfl := r2.int_inv
        cases h
        exact ⟨_, _, rfl, q W H _ (Ext.refl _ _) ok (.int _)⟩
  · cases h
/-- lists of ints, of bools -/
def intsOf : List D → Option (List Int)
  | [] => some []
  | .int i :: r => (intsOf r).map (i :: ·)
  | _ :: _ => none
def blsOf : List D → Option (List Bool)
  | [] => some []
  | .bl i :: r => (blsOf r).map (i :: ·)
  | _ :: _ => none
theorem intsOf_rep {K : PySem.W.Frag} {G : Hp} {l : List Addr} : ∀ {ds : List D} {xs : List V} {ns : List Int}, RepL K G l ds xs → intsOf ds = some ns → xs = ns.map V.int
  | [], _, ns, r, e => by
    cases r
    unfold intsOf at e
    cases e
    rfl
  | d :: ds, _, ns, r, e => by
    cases r with
    | cons r1 r2 =>
      cases d with
      | int i =>
        unfold intsOf at e
        obtain ⟨ns', e1, rfl⟩ := Option.map_eq_some_iff.mp e
        cases r1
        rw [intsOf_rep r2 e1]
        rfl
      | _ => unfold intsOf at e; cases e
theorem blsOf_rep {K : PySem.W.Frag} {G : Hp} {l : List Addr} : ∀ {ds : List D} {xs : List V} {ns : List Bool}, RepL K G l ds xs → blsOf ds = some ns → xs = ns.map V.bl
  | [], _, ns, r, e => by
    cases r
    unfold blsOf at e
    cases e
    rfl
  | d :: ds, _, ns, r, e => by
    cases r with
    | cons r1 r2 =>
      cases d with
      | bl i =>
        unfold blsOf at e
        obtain ⟨ns', e1, rfl⟩ := Option.map_eq_some_iff.mp e
        cases r1
        rw [blsOf_rep r2 e1]
        rfl
      | _ => unfold blsOf at e; cases e
theorem ints_rep {K : PySem.W.Frag} {G : Hp} {l : List Addr} : ∀ ns : List Int, RepL K G l (ns.map D.int) (ns.map V.int)
  | [] => .nil
  | n :: ns => .cons (.int n) (ints_rep ns)
def bAll : List D → Sto → Res R := fun ds S => match ds with
  | [.lst xs] => (match blsOf xs with | some bs => .ok (.v (.bl (bs.all id))) S | none => .bad)
  | _ => .bad
def bAny : List D → Sto → Res R := fun ds S => match ds with
  | [.lst xs] => (match blsOf xs with | some bs => .ok (.v (.bl (bs.any id))) S | none => .bad)
  | _ => .bad
def bSum : List D → Sto → Res R := fun ds S => match ds with
  | [.lst xs] => (match intsOf xs with | some ns => .ok (.v (.int ns.sum)) S | none => .bad)
  | _ => .bad
theorem mb_all (hc : X.calm = true) : CallR X (.builtin "all") (rC X.K bAll) := CallR.imp (cr_all hc) fun vs H Q ⟨W, S, ds, r, S', ok, ra, h, q⟩ => by
  unfold bAll at h
  split at h
  · cases ra with
    | cons r1 r2 =>
      cases r2
      obtain ⟨a, xs', rfl, h1, h2⟩ := r1.lst_inv ok
      split at h
      case h_2 => cases h
      rename_i bs hb
      cases h
      obtain rfl := blsOf_rep h2 hb
      exact ⟨a, bs, rfl, SqL.of h1, q W H _ (Ext.refl _ _) ok (.bl _)⟩
  · cases h
theorem mb_any (hc : X.calm = true) : CallR X (.builtin "any") (rC X.K bAny) := CallR.imp (cr_any hc) fun vs H Q ⟨W, S, ds, r, S', ok, ra, h, q⟩ => by
  unfold bAny at h
  split at h
  · cases ra with
    | cons r1 r2 =>
      cases r2
      obtain ⟨a, xs', rfl, h1, h2⟩ := r1.lst_inv ok
      split at h
      case h_2 => cases h
      rename_i bs hb
      cases h
      obtain rfl := blsOf_rep h2 hb
      exact ⟨a, bs, rfl, SqL.of h1, q W H _ (Ext.refl _ _) ok (.bl _)⟩
  · cases h
theorem mb_sum (hc : X.calm = true) : CallR X (.builtin "sum") (rC X.K bSum) := CallR.imp (cr_sum hc) fun vs H Q ⟨W, S, ds, r, S', ok, ra, h, q⟩ => by
  unfold bSum at h
  split at h
  · cases ra with
    | cons r1 r2 =>
      cases r2
      obtain ⟨a, xs', rfl, h1, h2⟩ := r1.lst_inv ok
      split at h
      case h_2 => cases h
      rename_i bs hb
      cases h
      obtain rfl := intsOf_rep h2 hb
      exact ⟨a, bs, rfl, SqL.of h1, q W H _ (Ext.refl _ _) ok (.int _)⟩
  · cases h
end
end MP

namespace MP
open PySem PySem.W PySem.Calls PyProof.Rows
section
variable {prog : Program} {w : World} {A : Around} {E : Value → Shared → Prop} {s : Shared}
/-- the items of a tuple, collected -/
theorem collectT {l : Addr} {us : List Value} {Q : List Value → Shared → Prop} (ht : s.heap.IsTuple l us.toArray) (hz : us.length ≤ sizeLine)
    (q : Q us { s with heap := (s.heap.push (seqObj "list" #[] 0)).update s.heap.objs.size (Obj.mapSeq (· ++ us.toArray)) }) : wpAny (model prog w) A (collect (.ref l)) Q E s := by
  obtain ⟨ob, g1, g2, m, g3⟩ := id ht
  unfold collect
  refine wpAny_bind (wpAny_runValue (codeAny_builtin entry_proto_collect' ?_))
  show wpAny _ _ (do again (.builtin "list.__iadd__" ⟨[← newList [], .ref l], []⟩)) _ _ s
  refine wpAny_bind (wpAny_newList (wpAny_pure ⟨Code.quiet_builtin _ (by decide +kernel), codeAny_builtin entry_list_iadd' ?_⟩))
  show wpAny _ _ (Builtin.List.listExtendWith (.ref s.heap.objs.size) (.ref l) (.ref s.heap.objs.size)) _ _ { s with heap := s.heap.push (seqObj "list" #[] 0) }
  unfold Builtin.List.listExtendWith
  have g4 : (s.heap.push (seqObj "list" #[] 0)).get? l = some ob := Heap.get?_push_of_some _ g1
  refine wpAny_bind (wpAny_typeOf (T := "tuple") ⟨ob, g4, g2⟩ ?_)
  have g5 : (Value.type "tuple" == Value.type "tuple") = true := by rfl
  rw [if_pos (by rw [g5]; simp)]
  refine wpAny_bind (listItems_at g4 g3 ?_)
  refine wpAny_bind (listItems_at (xs := #[]) (n := 0) (Heap.get?_push_size _ rfl) rfl ?_)
  rw [if_neg (by simp)]
  refine wpAny_bind (listUpdate_at (xs := #[]) (n := 0) (Heap.get?_push_size _ rfl) rfl ?_ (Nat.zero_le _) (by show (#[] ++ us.toArray).size ≤ sizeLine + 1; simp only [Array.size_append, List.size_toArray, List.length_nil]; omega))
  refine wpAny_pure ?_
  show wpAny (model prog w) A (do
      let o ← load s.heap.objs.size
      match o.data with
      | .seq xs _ => pure xs.toList
      | _ => unsupported "internal:collect") Q E { s with heap := (s.heap.push (seqObj "list" #[] 0)).update s.heap.objs.size (Obj.mapSeq (· ++ us.toArray)) }
  refine wpAny_bind (wpAny_load (get?_update_seq (Heap.get?_push_size _ rfl) _) ?_)
  show wpAny _ _ (pure ((#[] : Array Value) ++ us.toArray).toList) Q E _
  rw [show ((#[] : Array Value) ++ us.toArray).toList = us by simp]
  exact wpAny_pure q
theorem sortedT_of {l : Addr} {us : List Value} {Q : Value → Shared → Prop} (ht : s.heap.IsTuple l us.toArray) (hz : us.length ≤ sizeLine)
    (body : ∀ E1 : Value → Shared → Prop, wpAny (model prog w) A.in1.in1 (Builtin.«list.sort» ⟨[.ref (s.heap.objs.size + 1)], []⟩) (fun f s1 => f = .done (.ret .none) ∧ Q (.ref (s.heap.objs.size + 1)) s1) E1 { s with heap := copyHeap s.heap us }) :
    wpAny (model prog w) A (call (.builtin "sorted") [.ref l] []) Q E s := by
  refine call_function_entry_kw kind_sorted plain_sorted entry_sorted (args_sorted1 _) ?_
  unfold Builtin.«sorted»
  refine wpAny_bind (m := checkCount "sorted" 1 1 _) (wpAny_pure ?_)
  refine wpAny_bind (collectT ht hz ?_)
  refine wpAny_bind (wpAny_newList ?_ hz)
  have e1 : ((s.heap.push (seqObj "list" #[] 0)).update s.heap.objs.size (Obj.mapSeq (· ++ us.toArray))).objs.size = s.heap.objs.size + 1 := by rw [Heap.size_update, size_push']
  show wpAny _ _ _ _ _ { s with heap := copyHeap s.heap us }
  rw [e1]
  refine wpAny_bind (wpAny_holding (wpAny_call_entry_kw slot_list_sort ⟨_, copyHeap_at s.heap us, rfl⟩ entry_list_sort ?b1 (args_list_sort _)))
  case b1 =>
    show wpAny (model prog w) A.in1.in1 (Builtin.«list.sort» ⟨[.ref (s.heap.objs.size + 1)], []⟩) _ _ _
    refine wpAny_mono (body _) (fun f s1 hf => ?_) fun _ _ e => e
    obtain ⟨rfl, q⟩ := hf
    exact ⟨_, rfl, wpAny_pure ⟨_, rfl, q⟩⟩
theorem sortedT_data {β : Type} {us : List Value} {bs : List β} {enc : β → PyData} {R : Value → β → Prop} {l : Addr} {Q : Value → Shared → Prop} (ht : s.heap.IsTuple l us.toArray) (e : EachIs R us bs) (er : EachIs (fun v b => ∃ as, Reads s.heap v (enc b) as) us bs) (hal : AllAlike (bs.map enc)) (hk : Sortable (bs.map enc)) (hL : bs.length ≤ sizeLine)
    (hu : ∀ b, b ∈ bs → A.units + 2 + (enc b).depth < cLine) (h : ∀ out, out.length = bs.length → EachIs R out (bs.mergeSort (dataLe false enc)) → Q (.ref (s.heap.objs.size + 1)) { s with heap := sortedAll s.heap us (List.toArray out) }) :
    wpAny (model prog w) A (call (.builtin "sorted") [.ref l]) Q E s := by
  have e2 : EachIs (fun v b => ∃ as, Reads (sortingHeap (copyHeap s.heap us) (s.heap.objs.size + 1) us) v (enc b) as) us bs := er.mono fun _ _ ⟨as, r⟩ => ⟨as, PyProof.Rows.Reads.keeps (fun _ _ => sorting_copy_old) r⟩
  have hL' : us.length ≤ sizeLine := by rw [e.length]; exact hL
  exact sortedT_of ht hL' fun _ => list_sort_vals (s := { s with heap := copyHeap s.heap us }) (copyHeap_at s.heap us) (SortsAt.data (s := { s with heap := sortingHeap (copyHeap s.heap us) (s.heap.objs.size + 1) us }) (each_map (R := fun v d => ∃ as, Reads (sortingHeap (copyHeap s.heap us) (s.heap.objs.size + 1) us) v d as) enc e2) hal hk (bound_map hu)) hL' ⟨rfl, h _ (by rw [sortVals_length false rfl]; exact e.length) (sortVals_data false e e2 hal)⟩
end
end MP

namespace MP
open PySem PySem.Spec PyProof.Rows L2
/-! ### comparisons of numbers and of tuples -/
def cmpOk (d e : D) : Bool := fitN 20 d && fitN 20 e && PySem.W.alike (toPy d) (toPy e)
def ltD (d e : D) : Bool := PySem.W.dataLt (toPy d) (toPy e)
def fLt : D → D → Sto → Res R := fun d e S => match d, e with
  | .int i, .int j => .ok (.v (.bl (decide (i < j)))) S
  | .tup x, .tup y => if cmpOk (.tup x) (.tup y) = true then .ok (.v (.bl (ltD (.tup x) (.tup y)))) S else .bad
  | _, _ => .bad
def fLe : D → D → Sto → Res R := fun d e S => match d, e with
  | .int i, .int j => .ok (.v (.bl (decide (i ≤ j)))) S
  | .tup x, .tup y => if cmpOk (.tup x) (.tup y) = true then .ok (.v (.bl (!ltD (.tup y) (.tup x)))) S else .bad
  | _, _ => .bad
def fGt : D → D → Sto → Res R := fun d e S => match d, e with
  | .int i, .int j => .ok (.v (.bl (decide (j < i)))) S
  | .tup x, .tup y => if cmpOk (.tup x) (.tup y) = true then .ok (.v (.bl (ltD (.tup y) (.tup x)))) S else .bad
  | _, _ => .bad
def fGe : D → D → Sto → Res R := fun d e S => match d, e with
  | .int i, .int j => .ok (.v (.bl (decide (j ≤ i)))) S
  | .tup x, .tup y => if cmpOk (.tup x) (.tup y) = true then .ok (.v (.bl (!ltD (.tup x) (.tup y)))) S else .bad
  | _, _ => .bad
section
variable {X : Cx}
theorem op_ltP (hu : X.A.units + 200 < cLine) : OpR X (compareOp .Lt) (fun x y H Q => ∃ d e, Dp X.K H x d ∧ Dp X.K H y e ∧ PySem.W.alike d e = true ∧ d ≠ .none ∧ d.depth ≤ 60 ∧ Q (.bl (PySem.W.dataLt d e)) H) := by
  intro pins s σ H x y v u Q I rx ry ⟨d, e, hd, he, al, hn, hz, q⟩
  obtain ⟨_, r1⟩ := Dp.reads I d x v hd rx
  obtain ⟨_, r2⟩ := Dp.reads I e y u he ry
  exact PySem.W.lt_data r1 r2 al hn (by have := Nat.min_le_left d.depth e.depth; omega) ⟨.bl _, H, I, rfl, q⟩
theorem mo_lt (hu : X.A.units + 200 < cLine) : OpR X (compareOp .Lt) (rO X.K fLt) := OpR.imp (OpR.or op_lt (op_ltP hu)) fun x y H Q ⟨W, S, d, e, r, S', ok, rx, ry, h, q⟩ => by
  unfold fLt at h
  split at h
  · cases h
    obtain rfl := rx.int_inv
    obtain rfl := ry.int_inv
    exact .inl ⟨_, _, rfl, rfl, q W H _ (Ext.refl _ _) ok (.bl _)⟩
  · split at h
    case isFalse => cases h
    rename_i hc
    cases h
    unfold cmpOk at hc
    simp only [Bool.and_eq_true] at hc
    obtain ⟨⟨f1, f2⟩, al⟩ := hc
    have dp := (fit_lay 20 _ f1).2
    exact .inr ⟨_, _, rx.dp ok f1, ry.dp ok f2, al, by simp [toPy], by omega, q W H _ (Ext.refl _ _) ok (.bl _)⟩
  · cases h
theorem op_leP (hu : X.A.units + 200 < cLine) : OpR X (compareOp .LtE) (fun x y H Q => ∃ d e, Dp X.K H x d ∧ Dp X.K H y e ∧ PySem.W.alike d e = true ∧ d ≠ .none ∧ d.depth ≤ 60 ∧ Q (.bl (!PySem.W.dataLt e d)) H) := by
  intro pins s σ H x y v u Q I rx ry ⟨d, e, hd, he, al, hn, hz, q⟩
  obtain ⟨_, r1⟩ := Dp.reads I d x v hd rx
  obtain ⟨_, r2⟩ := Dp.reads I e y u he ry
  exact PySem.W.le_data r1 r2 al hn (by have := Nat.min_le_left d.depth e.depth; omega) ⟨.bl _, H, I, rfl, q⟩
theorem mo_le (hu : X.A.units + 200 < cLine) : OpR X (compareOp .LtE) (rO X.K fLe) := OpR.imp (OpR.or op_le (op_leP hu)) fun x y H Q ⟨W, S, d, e, r, S', ok, rx, ry, h, q⟩ => by
  unfold fLe at h
  split at h
  · cases h
    obtain rfl := rx.int_inv
    obtain rfl := ry.int_inv
    exact .inl ⟨_, _, rfl, rfl, q W H _ (Ext.refl _ _) ok (.bl _)⟩
  · split at h
    case isFalse => cases h
    rename_i hc
    cases h
    unfold cmpOk at hc
    simp only [Bool.and_eq_true] at hc
    obtain ⟨⟨f1, f2⟩, al⟩ := hc
    have dp := (fit_lay 20 _ f1).2
    exact .inr ⟨_, _, rx.dp ok f1, ry.dp ok f2, al, by simp [toPy], by omega, q W H _ (Ext.refl _ _) ok (.bl _)⟩
  · cases h
theorem op_gtP (hu : X.A.units + 200 < cLine) : OpR X (compareOp .Gt) (fun x y H Q => ∃ d e, Dp X.K H x d ∧ Dp X.K H y e ∧ PySem.W.alike d e = true ∧ d ≠ .none ∧ d.depth ≤ 60 ∧ Q (.bl (PySem.W.dataLt e d)) H) := by
  intro pins s σ H x y v u Q I rx ry ⟨d, e, hd, he, al, hn, hz, q⟩
  obtain ⟨_, r1⟩ := Dp.reads I d x v hd rx
  obtain ⟨_, r2⟩ := Dp.reads I e y u he ry
  exact PySem.W.gt_data r1 r2 al hn (by have := Nat.min_le_left d.depth e.depth; omega) ⟨.bl _, H, I, rfl, q⟩
theorem mo_gt (hu : X.A.units + 200 < cLine) : OpR X (compareOp .Gt) (rO X.K fGt) := OpR.imp (OpR.or op_gt (op_gtP hu)) fun x y H Q ⟨W, S, d, e, r, S', ok, rx, ry, h, q⟩ => by
  unfold fGt at h
  split at h
  · cases h
    obtain rfl := rx.int_inv
    obtain rfl := ry.int_inv
    exact .inl ⟨_, _, rfl, rfl, q W H _ (Ext.refl _ _) ok (.bl _)⟩
  · split at h
    case isFalse => cases h
    rename_i hc
    cases h
    unfold cmpOk at hc
    simp only [Bool.and_eq_true] at hc
    obtain ⟨⟨f1, f2⟩, al⟩ := hc
    have dp := (fit_lay 20 _ f1).2
    exact .inr ⟨_, _, rx.dp ok f1, ry.dp ok f2, al, by simp [toPy], by omega, q W H _ (Ext.refl _ _) ok (.bl _)⟩
  · cases h
theorem op_geP (hu : X.A.units + 200 < cLine) : OpR X (compareOp .GtE) (fun x y H Q => ∃ d e, Dp X.K H x d ∧ Dp X.K H y e ∧ PySem.W.alike d e = true ∧ d ≠ .none ∧ d.depth ≤ 60 ∧ Q (.bl (!PySem.W.dataLt d e)) H) := by
  intro pins s σ H x y v u Q I rx ry ⟨d, e, hd, he, al, hn, hz, q⟩
  obtain ⟨_, r1⟩ := Dp.reads I d x v hd rx
  obtain ⟨_, r2⟩ := Dp.reads I e y u he ry
  exact PySem.W.ge_data r1 r2 al hn (by have := Nat.min_le_left d.depth e.depth; omega) ⟨.bl _, H, I, rfl, q⟩
theorem mo_ge (hu : X.A.units + 200 < cLine) : OpR X (compareOp .GtE) (rO X.K fGe) := OpR.imp (OpR.or op_ge (op_geP hu)) fun x y H Q ⟨W, S, d, e, r, S', ok, rx, ry, h, q⟩ => by
  unfold fGe at h
  split at h
  · cases h
    obtain rfl := rx.int_inv
    obtain rfl := ry.int_inv
    exact .inl ⟨_, _, rfl, rfl, q W H _ (Ext.refl _ _) ok (.bl _)⟩
  · split at h
    case isFalse => cases h
    rename_i hc
    cases h
    unfold cmpOk at hc
    simp only [Bool.and_eq_true] at hc
    obtain ⟨⟨f1, f2⟩, al⟩ := hc
    have dp := (fit_lay 20 _ f1).2
    exact .inr ⟨_, _, rx.dp ok f1, ry.dp ok f2, al, by simp [toPy], by omega, q W H _ (Ext.refl _ _) ok (.bl _)⟩
  · cases h
/-! ### is -/
def fIsN : D → D → Sto → Res R := fun d e S => match e with
  | .non => .ok (.v (.bl (isNon d))) S
  | .bl b => (match d with
    | .bl a => .ok (.v (.bl (decide (a = b)))) S
    | _ => .bad)
  | _ => .bad
def fNotN : D → D → Sto → Res R := fun d e S => match e with
  | .non => .ok (.v (.bl (!isNon d))) S
  | .bl b => (match d with
    | .bl a => .ok (.v (.bl (!decide (a = b)))) S
    | _ => .bad)
  | _ => .bad
theorem mo_isN : OpR X (compareOp .Is) (rO X.K fIsN) := OpR.imp (OpR.or op_isN op_is_bl) fun x y H Q ⟨W, S, d, e, r, S', ok, rx, ry, h, q⟩ => by
  unfold fIsN at h
  split at h
  · cases h
    refine .inl ⟨ry.non_inv, ?_⟩
    rw [rx.isNon]
    exact q W H _ (Ext.refl _ _) ok (.bl _)
  · split at h
    · cases h
      obtain rfl := rx.bl_inv
      obtain rfl := ry.bl_inv
      exact .inr ⟨_, _, rfl, rfl, q W H _ (Ext.refl _ _) ok (.bl _)⟩
    · cases h
  · cases h
theorem mo_notN : OpR X (compareOp .IsNot) (rO X.K fNotN) := OpR.imp (OpR.or op_notN op_isnot_bl) fun x y H Q ⟨W, S, d, e, r, S', ok, rx, ry, h, q⟩ => by
  unfold fNotN at h
  split at h
  · cases h
    refine .inl ⟨ry.non_inv, ?_⟩
    rw [rx.isNon]
    exact q W H _ (Ext.refl _ _) ok (.bl _)
  · split at h
    · cases h
      obtain rfl := rx.bl_inv
      obtain rfl := ry.bl_inv
      exact .inr ⟨_, _, rfl, rfl, q W H _ (Ext.refl _ _) ok (.bl _)⟩
    · cases h
  · cases h
end
end MP

namespace MP
open PySem PySem.Spec PyProof.Rows L2

/-! ### chains of comparisons -/
def dChain (f f' : D → D → Sto → Res R) (da db dc : DE) : DE := fun env S => (da env S).bind fun x S1 => (db env S1).bind fun y S2 => (f x y S2).bind fun r S3 => match r with
  | .v (.bl true) => (dc env S3).bind fun z S4 => (f' y z S4).map R.val
  | .v (.bl false) => .ok (.bl false) S3
  | _ => .bad
section
variable {X : Cx} {a b c : Expr} {pos : Pos}
theorem chain_of {K : PySem.W.Frag} {f f' : D → D → Sto → Res R} {da db dc : DE} {σ : L2.St} {H : Hp} {Q : VK} (h : tV K (dChain f f' da db dc) σ H Q) : tChain (rO K f) (rO K f') (MP.tB K da) (MP.tB K db) (MP.tB K dc) σ H Q := by
  obtain ⟨W, S, H0, env, ok, eo, d, S', h, q⟩ := h
  obtain ⟨x, S1, h1, h⟩ := bind_ok h
  obtain ⟨y, S2, h2, h⟩ := bind_ok h
  obtain ⟨r, S3, h3, h⟩ := bind_ok h
  refine ⟨W, S, H0, env, ok, eo, x, S1, h1, fun W1 H1 v e1 o1 r1 => ?_⟩
  refine ⟨W1, S1, H0, env, o1, eo.ext e1, y, S2, h2, fun W2 H2 u e2 o2 r2 => ?_⟩
  refine ⟨W2, S2, x, y, r, S3, o2, r1.ext e2, r2, h3, fun W3 H3 z e3 o3 r3 => ?_⟩
  split at h
  · cases r3
    refine ⟨true, rfl, ?_⟩
    obtain ⟨w, S4, h4, h⟩ := bind_ok h
    obtain ⟨r4, h5, h6⟩ := map_ok h
    show (MP.tB K dc) σ H3 fun w' H4 => (rO K f') u w' H4 Q
    refine ⟨W3, S3, H0, env, o3, ((eo.ext e1).ext e2).ext e3, w, S4, h4, fun W4 H4 w' e4 o4 rr4 => ?_⟩
    refine ⟨W4, S4, y, w, r4, S', o4, (r2.ext e3).ext e4, rr4, h5, fun W5 H5 t e5 o5 r5 => ?_⟩
    have ee := (((e1.trans e2).trans e3).trans e4).trans e5
    subst h6
    cases r4 with
    | v d => exact q W5 H5 t ee o5 r5
    | o x' =>
      obtain ⟨a', u', rfl, z1, z2, z3, z4, z5⟩ := r5
      obtain ⟨g1, g2, g3⟩ := freeze o5 z1 z2 z3 z4
      exact q _ H5 _ (freeze_ext ee z3 ((((e1.trans e2).trans e3).trans e4).fresh z5)) g2 g3
  · cases r3
    cases h
    exact ⟨false, rfl, q W3 H3 _ ((e1.trans e2).trans e3) o3 (.bl false)⟩
  · cases h
theorem me_chain {op op' : CmpOp} {f f' : D → D → Sto → Res R} {da db dc : DE} (ho : OpR X (compareOp op) (rO X.K f)) (ho' : OpR X (compareOp op') (rO X.K f')) (ha : PE X a (MP.tB X.K da)) (hb : PE X b (MP.tB X.K db)) (hc : PE X c (MP.tB X.K dc)) (hm : lastMarks [op, op'] [b, c] = false := by rfl) : PE X (.Compare a [op, op'] [b, c] pos) (tV X.K (dChain f f' da db dc)) :=
  PE.imp (pe_chain ho ho' ha hb hc hm) fun _ _ _ h => chain_of h
theorem mt_chain {op op' : CmpOp} {f f' : D → D → Sto → Res R} {da db dc : DE} (ho : OpR X (compareOp op) (rO X.K f)) (ho' : OpR X (compareOp op') (rO X.K f')) (ha : PE X a (MP.tB X.K da)) (hb : PE X b (MP.tB X.K db)) (hc : PE X c (MP.tB X.K dc)) (hm : lastMarks [op, op'] [b, c] = false := by rfl) : PT X (.Compare a [op, op'] [b, c] pos) (tT X.K (dB (dChain f f' da db dc))) :=
  PT.imp (pt_chain ho ho' ha hb hc hm) fun σ H Q ⟨W, S, H0, env, ok, eo, d, S', h, q⟩ => by
    obtain ⟨x, S1, h1, h2⟩ := bind_ok h
    split at h2
    · injection h2 with h3 h4
      subst h3; subst h4
      refine chain_of ⟨W, S, H0, env, ok, eo, _, _, h1, fun W1 H1 v e1 o1 r1 => ?_⟩
      cases r1
      exact ⟨_, rfl, q W1 H1 e1 o1⟩
    · cases h2

/-! ### slices -/
def cutD (xs : List D) (lo hi : Option Int) : List D := (xs.drop (HT.sIx xs.length 0 lo)).take (HT.sIx xs.length xs.length hi - HT.sIx xs.length 0 lo)
abbrev DO := Envm → Sto → Res (Option Int)
def oNone : DO := fun _ S => .ok none S
def oSome (de : DE) : DO := fun env S => (de env S).bind fun d S1 => match d with
  | .int i => .ok (some i) S1
  | _ => .bad
def tO (K : PySem.W.Frag) (d : DO) : TO := fun σ H Q => ∃ W S H0 env, WOk K W S H ∧ EnvOk K W H H0 env σ ∧ ∃ o S', d env S = .ok o S' ∧ ∀ W' H', Ext W H W' H' → WOk K W' S' H' → Q o H'
theorem PO.imp {e : Option Expr} {t t' : TO} (h : PO X e t) (i : ∀ σ H Q, t' σ H Q → t σ H Q) : PO X e t' := ⟨fun pins s σ H Q I q => h.run pins s σ H Q I (i σ H Q q)⟩
theorem mp_none : PO X none (tO X.K oNone) := PO.imp po_none fun σ H Q ⟨W, S, H0, env, ok, eo, o, S', h, q⟩ => by
  cases h
  exact q W H (Ext.refl _ _) ok
theorem mp_some {de : DE} (h : PE X a (tV X.K de)) : PO X (some a) (tO X.K (oSome de)) := PO.imp (po_some h) fun σ H Q ⟨W, S, H0, env, ok, eo, o, S', h, q⟩ => by
  obtain ⟨d, S1, h1, h2⟩ := bind_ok h
  refine ⟨W, S, H0, env, ok, eo, d, S1, h1, fun W1 H1 v e1 o1 r1 => ?_⟩
  split at h2
  · cases h2
    cases r1
    exact ⟨_, rfl, q W1 H1 e1 o1⟩
  · cases h2
def fSl : D → Option Int → Option Int → Option R
  | .lst xs, lo, hi => some (.o (.l (cutD xs lo hi)))
  | .tup xs, lo, hi => some (.v (.tup (cutD xs lo hi)))
  | _, _, _ => none
def dSl (de : DE) (dl dh : DO) : DR := fun env S => (de env S).bind fun d S1 => (dl env S1).bind fun lo S2 => (dh env S2).bind fun hi S3 => match fSl d lo hi with
  | some r => .ok r S3
  | none => .bad
theorem cut_rep {K : PySem.W.Frag} {G : Hp} {l : List Addr} {ds : List D} {xs : List V} (h : RepL K G l ds xs) (lo hi : Option Int) : RepL K G l (cutD ds lo hi) (cutV xs lo hi) := by
  unfold cutD cutV
  rw [h.length]
  exact (h.drop _).take _
theorem me_sl {lo hi : Option Expr} {p2 : Pos} {de : DE} {dl dh : DO} (he : PE X a (MP.tB X.K de)) (hl : PO X lo (tO X.K dl)) (hh : PO X hi (tO X.K dh)) : PE X (.Subscript a (.Slice lo hi none p2) pos) (tR X.K (dSl de dl dh)) :=
  PE.imp (pe_slice (SlR.or sl_list sl_tupA) he hl hh) fun σ H Q ⟨W, S, H0, env, ok, eo, r, S', h, q⟩ => by
    obtain ⟨d, S1, h1, h⟩ := bind_ok h
    obtain ⟨l, S2, h2, h⟩ := bind_ok h
    obtain ⟨u, S3, h3, h⟩ := bind_ok h
    refine ⟨W, S, H0, env, ok, eo, d, S1, h1, fun W1 H1 v e1 o1 r1 => ?_⟩
    refine ⟨W1, S1, H0, env, o1, eo.ext e1, l, S2, h2, fun W2 H2 e2 o2 => ?_⟩
    refine ⟨W2, S2, H0, env, o2, (eo.ext e1).ext e2, u, S3, h3, fun W3 H3 e3 o3 => ?_⟩
    have r3 := (r1.ext e2).ext e3
    have ee := (e1.trans e2).trans e3
    cases d with
    | lst ds =>
      cases h
      obtain ⟨a', xs, rfl, g1, g2⟩ := r3.lst_inv o3
      refine .inl ⟨a', xs, rfl, SqL.of g1, fun p hp => ?_⟩
      obtain ⟨x1, x2, x3⟩ := obj_new (x := .l _) o3 hp (.l (cut_rep g2 l u))
      exact q _ _ _ (ee.trans x1) x2 (x3.back fun a h => ee.fresh h)
    | tup ds =>
      cases h
      obtain ⟨a', xs, rfl, g1, g2⟩ := r3.tup_inv
      refine .inr ⟨a', xs, rfl, SqT.of (o3.sub _ _ g1), fun z => ?_, fun _ p hp => ?_⟩
      · have e0 : cutD ds l u = ds := by
          unfold cutD
          rw [g2.length, z.1, z.2, List.drop_zero, Nat.sub_zero]
          exact List.take_of_length_le (by rw [g2.length]; exact Nat.le_refl _)
        rw [e0] at q
        exact q W3 H3 _ ee o3 (.tup g1 g2)
      · obtain ⟨x1, x2, x3⟩ := tup_new o3 hp (cut_rep g2 l u)
        exact q _ _ _ (ee.trans x1) x2 x3
    | _ => cases h

/-! ### sorted -/
open PySem.W in
def dle : D → D → Bool := dataLe false toPy
def dSort (ds : List D) : List D := ds.mergeSort dle
def nonEmptyTup : D → Bool
  | .tup (_ :: _) => true
  | _ => false
def plainD : D → Bool
  | .int _ => true
  | .str _ => true
  | .bl _ => true
  | _ => false
open PySem.W in
def sortOk (ds : List D) : Bool := (ds.all (fitN 19)) && (ds.all nonEmptyTup || ds.all plainD) && (ds.all fun a => ds.all fun b => alike (toPy a) (toPy b)) && decide (ds.length ≤ 100000)
def seqOf : D → Option (List D)
  | .lst xs => some xs
  | _ => none
def bSorted : List D → Sto → Res R := fun ds S => match ds with
  | [.lst xs] => if sortOk xs = true then .ok (.o (.l (dSort xs))) S else .bad
  | [.tup xs] => if sortOk xs = true then .ok (.o (.l (dSort xs))) S else .bad
  | _ => .bad
open PySem.W in
theorem zip_each {K : PySem.W.Frag} {G : Hp} {l : List Addr} {n : Nat} : ∀ {es : List D} {xs : List V} {its : List Value}, RepL K G l es xs → Vals xs its → es.all (fitN n) = true → EachIs (fun (v : Value) (b : D × V) => RelV b.2 v ∧ Rep K G l b.1 b.2 ∧ fitN n b.1 = true) its (es.zip xs)
  | _, _, _, .nil, .nil, _ => .nil
  | _, _, _, .cons a1 a2, .cons b1 b2, h => by
    rw [List.all_cons, Bool.and_eq_true] at h
    exact .cons ⟨b1, a1, h.1⟩ (zip_each a2 b2 h.2)
open PySem.W in
theorem sorted_core (hu : X.A.units + 200 < cLine) {pins : List (Addr × Obj)} {s : Shared} {σ : L2.St} {H : Hp} {W : Wd} {S : Sto} {l : Addr} {es : List D} {xs : List V} {its : List Value} {Q : Value → Shared → Prop} (I : Inv X pins σ H s) (ok : WOk X.K W S H) (h2 : RepL X.K W.G W.r es xs) (rv2 : Vals xs its) (hs : sortOk es = true)
    (pl : s.heap.IsList l its.toArray ∨ s.heap.IsTuple l its.toArray) (q : ∀ W' H' v s', Ext W H W' H' → WOk X.K W' S H' → RepR X.K W' H' H (.o (.l (dSort es))) (.ref v) → Inv X pins σ H' s' → Q (.ref v) s') :
    wpAny (model X.prog X.w) X.A (call (.builtin "sorted") [.ref l]) Q X.xe s := by
  unfold sortOk at hs
  simp only [Bool.and_eq_true, Bool.or_eq_true, decide_eq_true_eq] at hs
  obtain ⟨⟨⟨hfit, hkind⟩, halike⟩, hlen⟩ := hs
  have hlx := h2.length
  have hli := rv2.length
  -- the items with what they stand for
  have eachR := zip_each h2 rv2 hfit
  have reads : EachIs (fun (v : Value) (b : D × V) => ∃ as, Reads s.heap v (toPy b.1) as) its (es.zip xs) := eachR.mono fun v b ⟨z1, z2, z3⟩ => Dp.reads I (toPy b.1) b.2 v (fit_dp ok.sub 19 b.1 b.2 z3 z2) z1
  have mfst : (es.zip xs).map (fun b => toPy b.1) = es.map toPy := by
    have e0 : (es.zip xs).map (fun b => toPy b.1) = ((es.zip xs).map Prod.fst).map toPy := by rw [List.map_map]; rfl
    rw [e0, List.map_fst_zip (by omega)]
  have mem1 : ∀ b ∈ es.zip xs, b.1 ∈ es := fun b hb => (List.of_mem_zip (a := b.1) (b := b.2) hb).1
  have g1 : AllAlike ((es.zip xs).map fun b => toPy b.1) := by
    intro d hd d' hd'
    rw [mfst] at hd hd'
    obtain ⟨a, ha, rfl⟩ := List.mem_map.mp hd
    obtain ⟨a', ha', rfl⟩ := List.mem_map.mp hd'
    exact List.all_eq_true.mp (List.all_eq_true.mp halike a ha) a' ha'
  have g2 : Sortable ((es.zip xs).map fun b => toPy b.1) := by
    rcases hkind with k | k
    · refine .inl fun d hd => ?_
      rw [mfst] at hd
      obtain ⟨a, ha, rfl⟩ := List.mem_map.mp hd
      have z := List.all_eq_true.mp k a ha
      cases a with
      | tup ts =>
        cases ts with
        | nil => simp [nonEmptyTup] at z
        | cons t ts => exact ⟨toPy t, toPys ts, by simp [toPy, toPys]⟩
      | _ => simp [nonEmptyTup] at z
    · refine .inr fun d hd => ?_
      rw [mfst] at hd
      obtain ⟨a, ha, rfl⟩ := List.mem_map.mp hd
      have z := List.all_eq_true.mp k a ha
      cases a <;> first | (simp [plainD] at z; done) | exact ⟨by simp [toPy], by simp [toPy]⟩
  have g3 : (es.zip xs).length ≤ sizeLine := by
    rw [List.length_zip]
    exact le_sizeLine (by omega)
  have g4 : ∀ b, b ∈ es.zip xs → X.A.units + 2 + (toPy b.1).depth < cLine := by
    intro b hb
    have z := List.all_eq_true.mp hfit b.1 (mem1 b hb)
    have := (fit_lay 19 b.1 z).2
    omega
  have g5 : ∀ out : List Value, out.length = (es.zip xs).length → EachIs (fun (v : Value) (b : D × V) => RelV b.2 v ∧ Rep X.K W.G W.r b.1 b.2 ∧ fitN 19 b.1 = true) out ((es.zip xs).mergeSort (dataLe false fun b : D × V => toPy b.1)) → Q (.ref (s.heap.objs.size + 1)) { s with heap := sortedAll s.heap its (List.toArray out) } := by
    intro out ho eo
    have ms : ((es.zip xs).mergeSort (dataLe false fun b : D × V => toPy b.1)).map Prod.fst = dSort es := by
      unfold dSort
      have e1 := List.map_mergeSort (r := dataLe false fun b : D × V => toPy b.1) (s := dle) (f := Prod.fst) (l := es.zip xs) (fun a _ b _ => rfl)
      rw [e1, List.map_fst_zip (by omega)]
    generalize hbs : (es.zip xs).mergeSort (dataLe false fun b : D × V => toPy b.1) = bs at eo ms
    have rel : Vals (bs.map Prod.snd) out ∧ RepL X.K W.G W.r (bs.map Prod.fst) (bs.map Prod.snd) := by
      clear hbs ms ho
      induction eo with
      | nil => exact ⟨.nil, .nil⟩
      | cons z1 _ ih => exact ⟨.cons z1.1 ih.1, .cons z1.2.1 ih.2⟩
    rw [ms] at rel
    have hp : H (s.heap.objs.size + 1) = none := I.hok.fresh (Nat.le_succ _)
    obtain ⟨x1, x2, x3⟩ := obj_new (x := .l (dSort es)) ok hp (.l rel.2)
    obtain ⟨ep, he⟩ := sortedAll_at s.heap its out.toArray
    refine q _ (upd H (s.heap.objs.size + 1) (.lst (bs.map Prod.snd))) _ _ x1 x2 x3 ?_
    refine I.laid (t' := s.toks) (fun b u e => sortedAll_old e) (Nat.le_succ _) ⟨?_, out, ep, rel.1, he⟩
    rw [← rel.2.length]
    unfold dSort
    rw [List.length_mergeSort]
    exact le_sizeLine hlen
  rcases pl with pl | pl
  · exact sorted_data (enc := fun b : D × V => toPy b.1) pl eachR reads g1 g2 g3 g4 g5
  · exact sortedT_data (enc := fun b : D × V => toPy b.1) pl eachR reads g1 g2 g3 g4 g5
theorem mb_sorted (hu : X.A.units + 200 < cLine) : CallR X (.builtin "sorted") (rC X.K bSorted) := by
  intro pins s σ H vs us Q I rv ⟨W, S, ds, r, S', ok, ra, h, q⟩
  unfold bSorted at h
  split at h
  · split at h
    case isFalse => cases h
    rename_i hs
    cases h
    cases ra with
    | cons r1 r2 =>
      cases r2
      obtain ⟨l, xs, rfl, h1, h2⟩ := r1.lst_inv ok
      obtain ⟨its, rv2, pl, hz⟩ := I.list (SqL.of h1 : SqL X.K H l xs)
      cases rv with
      | cons rl rt =>
        cases rt
        cases rl
        exact sorted_core hu I ok h2 rv2 hs (.inl pl.isList) fun W' H' v s' x1 x2 x3 I' => ⟨.ref v, H', I', rfl, q _ _ _ x1 x2 x3⟩
  · split at h
    case isFalse => cases h
    rename_i hs
    cases h
    cases ra with
    | cons r1 r2 =>
      cases r2
      obtain ⟨l, xs, rfl, h1, h2⟩ := r1.tup_inv
      obtain ⟨its, rv2, pl, hz⟩ := I.tuple (SqT.of (ok.sub _ _ h1) : SqT X.K H l xs)
      cases rv with
      | cons rl rt =>
        cases rt
        cases rl
        exact sorted_core hu I ok h2 rv2 hs (.inr pl) fun W' H' v s' x1 x2 x3 I' => ⟨.ref v, H', I', rfl, q _ _ _ x1 x2 x3⟩
  · cases h
end
end MP

namespace MP
open PySem PySem.Spec PyProof.Rows L2

theorem call_treeK {prog : Program} {w : World} {A : Around} {E : Value → Shared → Prop} {s : Shared} {id : String} {b : Builtin} {args : List Value} {kw : List (Str × Value)} {Q : Value → Shared → Prop} (hk : builtinKind id = none) (hp : plainId id = true)
    (hb : entryFor table id = some b) (ha : argsOk id ⟨args, kw⟩)
    (hc : wpAny (model prog w) A.in1 (b ⟨args, kw⟩) (fun fin s' => match fin with
      | .done f => (match (Except.ok f : Result) with | .ok (.ret v) => Q v s' | .ok _ => False | .error e => E e s')
      | .again c' => c'.quiet = true ∧ codeAny (model prog w) A c' (fun r s' => match r with | .ok (.ret v) => Q v s' | .ok _ => False | .error e => E e s') s') E s) :
    wpAny (model prog w) A (call (.builtin id) args kw) Q E s := by
  refine wpAny_call (codeAny_call_builtin hp hb ?_)
  simp only [checkBuiltinCall, hk]
  cases hsig : Manifest.signature? id with
  | none => exact wpAny_pure hc
  | some sig =>
    have ha' : Bind.checkArgs id sig ⟨args, kw⟩ = pure () := by simpa only [argsOk, hsig] using ha
    show wpAny _ A.in1 (Bind.checkArgs id sig ⟨args, kw⟩) _ _ s
    rw [ha']; exact wpAny_pure hc

theorem args_maxD (a d : Value) : argsOk "max" ⟨[a], [(Str.ofString "default", d)]⟩ := by unfold argsOk; kernel_rfl
section
variable {prog : Program} {w : World} {A : Around} {R : Result → Shared → Prop} {I : Addr} {fp wr : List Addr} {n : Nat} {P : Nat → Value → Prop} {St : Nat → Heap → Prop}
theorem max_loopD (d : Value) (W : Walks prog w A.in1 I fp wr n P St) (bt : Nat → Nat → Bool) (hcmp : CmpOf prog w A.in1 .Gt P bt) (S : Addr) (hSf : S ∉ fp) :
    ∀ (k j : Nat) (s : Shared) (vb : Value) (c : Nat), n - (j + 1) = k → j + 1 ≤ n → St (j + 1) s.heap → P (argBest bt j) vb →
    s.heap.get? S = some { cls := .type "list", dict := none, data := .seq #[vb, vb] c, slots := #[] } →
    (∀ v h' tk, P (argBest bt (n - 1)) v → (∀ b o, b ∉ wr → b ≠ S → s.heap.get? b = some o → h'.get? b = some o) → R (.ok (.ret v)) { s with heap := h', toks := tk }) →
    codeAny (model prog w) A (.builtin "max.loop" ⟨[.ref I, .none, .ref S], [("default", d)]⟩) R s := by
  have hSw : S ∉ wr := fun h => hSf (W.sub _ h)
  have hname : (toString "max" ++ toString ".loop" : String) = "max.loop" := by decide
  intro k
  induction k with
  | zero =>
    intro j s vb c hk hj hst hPb hS hR
    have hin : j + 1 = n := by omega
    refine codeAny_builtin F.entry_max_loop ?_
    rw [Around.under_plainId F.plain_max_loop _]
    show wpAny _ A.in1 (seqItems? (.ref S) >>= _) _ _ s
    refine wpAny_bind (wpAny_seqItems hS rfl ?_)
    show wpAny _ A.in1 (tryCatch (pyNext (.ref I)) _ >>= _) _ _ s
    refine wpAny_bind (wpAny_tryCatch (W.done s _ _ (hin ▸ hst) fun h' tk hk' => ?_))
    have hS' := hk' S _ hSw hS
    show wpAny _ A.in1 (updateSeq S (fun _ => #[]) >>= _) _ _ _
    refine wpAny_bind ?_
    refine wpAny_updateSeq hS' rfl (wpAny_bind (wpAny_letGo (wpAny_pure ?_)))
    refine hR vb _ tk (by rw [← hin]; exact hPb) fun b o hbw hbS e => (Heap.get?_update_other _ _ (Ne.symm hbS)).trans (hk' b o hbw e)
  | succ k ih =>
    intro j s vb c hk hj hst hPb hS hR
    have hlt : j + 1 < n := by omega
    refine codeAny_builtin F.entry_max_loop ?_
    rw [Around.under_plainId F.plain_max_loop _]
    show wpAny _ A.in1 (seqItems? (.ref S) >>= _) _ _ s
    refine wpAny_bind (wpAny_seqItems hS rfl ?_)
    show wpAny _ A.in1 (tryCatch (pyNext (.ref I)) _ >>= _) _ _ s
    refine wpAny_bind (wpAny_tryCatch (W.item (j + 1) s _ _ hlt hst fun v h' tk hP hst' hk' => ?_))
    have hS' := hk' S _ hSw hS
    show wpAny _ A.in1 (tryCatch (holding [v, v] (richCompare .Gt v vb >>= _)) _ >>= _) _ _ _
    refine wpAny_bind (wpAny_tryCatch (wpAny_holding (wpAny_bind (hcmp (j + 1) (argBest bt j) v vb _ _ _ hP hPb ?_))))
    refine wpAny_bind (wpAny_holding (wpAny_truthy_bool ?_))
    refine wpAny_bind (wpAny_letGo (wpAny_pure ?_))
    cases hb : bt (j + 1) (argBest bt j) with
    | true =>
      simp only [if_true]
      refine wpAny_bind ?_
      refine wpAny_updateSeq hS' rfl (wpAny_bind (wpAny_letGo ?_))
      rw [hname]
      refine wpAny_pure ⟨plainId_quiet F.plain_max_loop _, ih (j + 1) _ v _ (by omega) hlt (W.frame _ _ _ hst' fun b hbf o e => ?_) (by simp only [argBest, hb, if_true]; exact hP) (Heap.get?_update_self _ hS' rfl)
        fun v' h'' tk'' hP' hk'' => ?_⟩
      · exact (Heap.get?_update_other _ _ (fun h : S = b => hSf (by rw [h]; exact hbf))).trans e
      · exact hR v' h'' tk'' hP' fun b o hbw hbS e => hk'' b o hbw hbS ((Heap.get?_update_other _ _ (Ne.symm hbS)).trans (hk' b o hbw e))
    | false =>
      simp only [Bool.false_eq_true, if_false]
      refine wpAny_bind (wpAny_letGo ?_)
      rw [hname]
      refine wpAny_pure ⟨plainId_quiet F.plain_max_loop _, ih (j + 1) _ vb c (by omega) hlt hst' (by simp only [argBest, hb, Bool.false_eq_true, if_false]; exact hPb) hS' fun v' h'' tk'' hP' hk'' => ?_⟩
      exact hR v' h'' tk'' hP' fun b o hbw hbS e => hk'' b o hbw hbS (hk' b o hbw e)
theorem max_loopD0 (d : Value) (W : Walks prog w A.in1 I fp wr n P St) (bt : Nat → Nat → Bool) (hcmp : CmpOf prog w A.in1 .Gt P bt) (S : Addr) (hSf : S ∉ fp) {s : Shared} {c : Nat} (hst : St 0 s.heap)
    (hS : s.heap.get? S = some { cls := .type "list", dict := none, data := .seq #[] c, slots := #[] })
    (hR : ∀ v h' tk, (0 < n → P (argBest bt (n - 1)) v) → (n = 0 → v = d) → (∀ b o, b ∉ wr → b ≠ S → s.heap.get? b = some o → h'.get? b = some o) → R (.ok (.ret v)) { s with heap := h', toks := tk }) :
    codeAny (model prog w) A (.builtin "max.loop" ⟨[.ref I, .none, .ref S], [("default", d)]⟩) R s := by
  have hSw : S ∉ wr := fun h => hSf (W.sub _ h)
  have hname : (toString "max" ++ toString ".loop" : String) = "max.loop" := by decide
  refine codeAny_builtin F.entry_max_loop ?_
  rw [Around.under_plainId F.plain_max_loop _]
  show wpAny _ A.in1 (seqItems? (.ref S) >>= _) _ _ s
  refine wpAny_bind (wpAny_seqItems hS rfl ?_)
  show wpAny _ A.in1 (tryCatch (pyNext (.ref I)) _ >>= _) _ _ s
  by_cases hn : 0 < n
  · refine wpAny_bind (wpAny_tryCatch (W.item 0 s _ _ hn hst fun v h' tk hP hst' hk' => ?_))
    have hS' := hk' S _ hSw hS
    show wpAny _ A.in1 (updateSeq S (fun _ => #[v, v]) >>= _) _ _ _
    refine wpAny_bind ?_
    refine wpAny_updateSeq hS' rfl ?_
    rw [hname]
    refine wpAny_pure ⟨plainId_quiet F.plain_max_loop _, max_loopD d W bt hcmp S hSf _ 0 _ v _ rfl hn (W.frame _ _ _ hst' fun b hbf o e => ?_) hP (Heap.get?_update_self _ hS' rfl) fun v' h'' tk'' hP' hk'' => ?_⟩
    · exact (Heap.get?_update_other _ _ (fun h : S = b => hSf (by rw [h]; exact hbf))).trans e
    · exact hR v' h'' tk'' (fun _ => hP') (fun z => by omega) fun b o hbw hbS e => hk'' b o hbw hbS ((Heap.get?_update_other _ _ (Ne.symm hbS)).trans (hk' b o hbw e))
  · have hin : 0 = n := by omega
    refine wpAny_bind (wpAny_tryCatch (W.done s _ _ (hin ▸ hst) fun h' tk hk' => ?_))
    have hR' := hR d h' tk (fun z => absurd z hn) (fun _ => rfl) fun b o hbw hbS e => hk' b o hbw e
    exact wpAny_bind (wpAny_rule (wpAny_pure hR'))
end
section
variable {prog : Program} {w : World} {A : Around} {E : Value → Shared → Prop} {s : Shared}
theorem call_maxD {x d : Value} {Q : Value → Shared → Prop}
    (h : wpAny (model prog w) A.in1 (pyIter x) (fun it s₂ => ∃ I fp wr n P St bt, it = .ref I ∧ Walks prog w A.in1 I fp wr n P St ∧ St 0 s₂.heap ∧ (∀ b ∈ fp, b < s₂.heap.objs.size) ∧ CmpOf prog w A.in1 .Gt P bt ∧
      ∀ v h' tk, (0 < n → P (argBest bt (n - 1)) v) → (n = 0 → v = d) → (∀ b o, b ∉ wr → s₂.heap.get? b = some o → h'.get? b = some o) → Q v { s₂ with heap := h', toks := tk }) E s) :
    wpAny (model prog w) A (call (.builtin "max") [x] [(Str.ofString "default", d)]) Q E s := by
  have hname : (toString "max" ++ toString ".loop" : String) = "max.loop" := by decide
  refine call_treeK F.kind_max F.plain_max F.entry_max (args_maxD _ _) ?_
  show wpAny _ A.in1 (Builtin.Builtins.bindParams "max" ["key", "default"] 0 ⟨[], [(Str.ofString "default", d)]⟩ >>= _) _ _ s
  refine wpAny_bind (wpAny_of_eq (show Builtin.Builtins.bindParams "max" ["key", "default"] 0 ⟨[], [(Str.ofString "default", d)]⟩ = pure [none, some d] from by kernel_rfl) ?_)
  refine wpAny_bind (wpAny_pure ?_)
  refine wpAny_bind (wpAny_mono h (fun it s₂ h₂ => ?_) fun _ _ e => e)
  obtain ⟨I, fp, wr, n, P, St, bt, rfl, W, hst, hfp, hcmp, hQ⟩ := h₂
  refine wpAny_bind (wpAny_newObj_type ?_)
  have hSf : s₂.heap.objs.size ∉ fp := fun hm => Nat.lt_irrefl _ (hfp _ hm)
  rw [hname]
  refine wpAny_pure ⟨plainId_quiet F.plain_max_loop _, max_loopD0 d W bt hcmp s₂.heap.objs.size hSf (W.frame _ _ _ hst fun b _ o e => Heap.get?_push_of_some _ e) (Heap.get?_push_size _ rfl) fun v h' tk hP hz hk => ?_⟩
  exact hQ v h' tk hP hz fun b o hbw e => hk b o hbw (Nat.ne_of_lt (Heap.lt_size e)) (Heap.get?_push_of_some _ e)
variable {l : Addr} {xs : Array (Int × Tok)}
theorem max_listD {d : Value} {Q : Value → Shared → Prop} (hh : A.handled = none) (hl : s.heap.IsList l (intItems xs))
    (h : ∀ v h' tk, (0 < xs.size → (intItems xs)[argBest (fun i j => decide (numAt xs i > numAt xs j)) (xs.size - 1)]? = some v) → (xs.size = 0 → v = d) → (∀ b o, s.heap.get? b = some o → h'.get? b = some o) → Q v { s with heap := h', toks := tk }) :
    wpAny (model prog w) A (call (.builtin "max") [.ref l] [(Str.ofString "default", d)]) Q E s := by
  refine call_maxD (iter_intList hl fun s₂ e st hfp hlI => ?_)
  subst e
  refine ⟨_, _, _, _, _, _, _, rfl, Walks.list (A := A.in1) hh _ l hlI (intItems xs), st, hfp, CmpOf.ints_gt (numAt xs) (fun _ _ => intItems_at), fun v h' tk hP hz hk => ?_⟩
  exact h v h' tk (fun z => by simpa [intItems] using hP (by simpa [intItems] using z)) (fun z => hz (by simpa [intItems] using z)) (old_kept hk)
variable {its : List Value} {ns : List Int}
theorem max_rawD {d : Value} {Q : Value → Shared → Prop} (hh : A.handled = none) (hl : s.heap.IsList l its.toArray) (hi : IntsAre its ns)
    (h : ∀ h' tk v, (∀ b o, s.heap.get? b = some o → h'.get? b = some o) → (ns = [] → v = d) → (ns ≠ [] → ∃ M t', v = .int M t' ∧ M ∈ ns ∧ ∀ a, a ∈ ns → a ≤ M) → Q v { s with heap := h', toks := tk }) : wpAny (model prog w) A (call (.builtin "max") [.ref l] [(Str.ofString "default", d)]) Q E s := by
  obtain ⟨xs, e⟩ := hi.allInts.items
  have hn : numsOf (intItems xs).toList = ns := by rw [← e]; exact hi.numsOf
  rw [nums_intItems] at hn
  subst hn
  rw [e] at hl
  refine max_listD hh hl fun v h' tk hv hz hk => ?_
  refine h h' tk v hk (fun z => hz ?_) fun hne => ?_
  · have := congrArg List.length z
    simpa using this
  · have hsz : 0 < xs.size := by
      rcases Nat.eq_zero_or_pos xs.size with z | z
      · exact absurd (by
          apply List.eq_nil_of_length_eq_zero
          simp [z]) hne
      · exact z
    obtain ⟨t, rfl⟩ := intItems_at (hv hsz)
    obtain ⟨h1, h2⟩ := argBest_gt (numAt xs) (xs.size - 1)
    refine ⟨_, t, rfl, ?_, fun a ha => ?_⟩
    · rw [numAt_eq]; exact PySem.getD_mem (by rw [List.length_map, Array.length_toList]; omega)
    · obtain ⟨j, hj, rfl⟩ := mem_getD ha
      rw [List.length_map, Array.length_toList] at hj
      rw [← numAt_eq]; exact h2 j (by omega)
end
section
variable {X : Cx}
theorem cr_maxD (hc : X.calm = true) : CallRK X (.builtin "max") [Str.ofString "default"] (fun vs zs H Q => ∃ (a : Addr) (ns : List Int) (z : V), vs = [V.ref a] ∧ zs = [z] ∧ SqL X.K H a (ns.map V.int) ∧ (ns = [] → Q z H) ∧ (ns ≠ [] → ∀ M, M ∈ ns → (∀ a, a ∈ ns → a ≤ M) → Q (.int M) H)) := by
  intro pins s σ H vs zs us ws Q I r rz h
  obtain ⟨a, ns, z, rfl, rfl, hs, q1, q2⟩ := h
  obtain ⟨its, rv, hl, _⟩ := I.list hs
  obtain ⟨w1, rfl, e1⟩ := vals1 rz
  rw [Vals.ref1 r]
  refine max_rawD (I.ok.hd hc) hl.isList rv.ints fun h' tk v hk h1 h2 => ?_
  by_cases c : ns = []
  · exact ⟨z, H, I.kept hk, by rw [h1 c]; exact e1, q1 c⟩
  · obtain ⟨M, t', rfl, h3, h4⟩ := h2 c
    exact ⟨.int M, H, I.kept hk, ⟨_, rfl⟩, q2 c M h3 h4⟩
end

theorem args_minD (a d : Value) : argsOk "min" ⟨[a], [(Str.ofString "default", d)]⟩ := by unfold argsOk; kernel_rfl
section
variable {prog : Program} {w : World} {A : Around} {R : Result → Shared → Prop} {I : Addr} {fp wr : List Addr} {n : Nat} {P : Nat → Value → Prop} {St : Nat → Heap → Prop}
theorem min_loopD (d : Value) (W : Walks prog w A.in1 I fp wr n P St) (bt : Nat → Nat → Bool) (hcmp : CmpOf prog w A.in1 .Lt P bt) (S : Addr) (hSf : S ∉ fp) :
    ∀ (k j : Nat) (s : Shared) (vb : Value) (c : Nat), n - (j + 1) = k → j + 1 ≤ n → St (j + 1) s.heap → P (argBest bt j) vb →
    s.heap.get? S = some { cls := .type "list", dict := none, data := .seq #[vb, vb] c, slots := #[] } →
    (∀ v h' tk, P (argBest bt (n - 1)) v → (∀ b o, b ∉ wr → b ≠ S → s.heap.get? b = some o → h'.get? b = some o) → R (.ok (.ret v)) { s with heap := h', toks := tk }) →
    codeAny (model prog w) A (.builtin "min.loop" ⟨[.ref I, .none, .ref S], [("default", d)]⟩) R s := by
  have hSw : S ∉ wr := fun h => hSf (W.sub _ h)
  have hname : (toString "min" ++ toString ".loop" : String) = "min.loop" := by decide
  intro k
  induction k with
  | zero =>
    intro j s vb c hk hj hst hPb hS hR
    have hin : j + 1 = n := by omega
    refine codeAny_builtin F.entry_min_loop ?_
    rw [Around.under_plainId F.plain_min_loop _]
    show wpAny _ A.in1 (seqItems? (.ref S) >>= _) _ _ s
    refine wpAny_bind (wpAny_seqItems hS rfl ?_)
    show wpAny _ A.in1 (tryCatch (pyNext (.ref I)) _ >>= _) _ _ s
    refine wpAny_bind (wpAny_tryCatch (W.done s _ _ (hin ▸ hst) fun h' tk hk' => ?_))
    have hS' := hk' S _ hSw hS
    show wpAny _ A.in1 (updateSeq S (fun _ => #[]) >>= _) _ _ _
    refine wpAny_bind ?_
    refine wpAny_updateSeq hS' rfl (wpAny_bind (wpAny_letGo (wpAny_pure ?_)))
    refine hR vb _ tk (by rw [← hin]; exact hPb) fun b o hbw hbS e => (Heap.get?_update_other _ _ (Ne.symm hbS)).trans (hk' b o hbw e)
  | succ k ih =>
    intro j s vb c hk hj hst hPb hS hR
    have hlt : j + 1 < n := by omega
    refine codeAny_builtin F.entry_min_loop ?_
    rw [Around.under_plainId F.plain_min_loop _]
    show wpAny _ A.in1 (seqItems? (.ref S) >>= _) _ _ s
    refine wpAny_bind (wpAny_seqItems hS rfl ?_)
    show wpAny _ A.in1 (tryCatch (pyNext (.ref I)) _ >>= _) _ _ s
    refine wpAny_bind (wpAny_tryCatch (W.item (j + 1) s _ _ hlt hst fun v h' tk hP hst' hk' => ?_))
    have hS' := hk' S _ hSw hS
    show wpAny _ A.in1 (tryCatch (holding [v, v] (richCompare .Lt v vb >>= _)) _ >>= _) _ _ _
    refine wpAny_bind (wpAny_tryCatch (wpAny_holding (wpAny_bind (hcmp (j + 1) (argBest bt j) v vb _ _ _ hP hPb ?_))))
    refine wpAny_bind (wpAny_holding (wpAny_truthy_bool ?_))
    refine wpAny_bind (wpAny_letGo (wpAny_pure ?_))
    cases hb : bt (j + 1) (argBest bt j) with
    | true =>
      simp only [if_true]
      refine wpAny_bind ?_
      refine wpAny_updateSeq hS' rfl (wpAny_bind (wpAny_letGo ?_))
      rw [hname]
      refine wpAny_pure ⟨plainId_quiet F.plain_min_loop _, ih (j + 1) _ v _ (by omega) hlt (W.frame _ _ _ hst' fun b hbf o e => ?_) (by simp only [argBest, hb, if_true]; exact hP) (Heap.get?_update_self _ hS' rfl)
        fun v' h'' tk'' hP' hk'' => ?_⟩
      · exact (Heap.get?_update_other _ _ (fun h : S = b => hSf (by rw [h]; exact hbf))).trans e
      · exact hR v' h'' tk'' hP' fun b o hbw hbS e => hk'' b o hbw hbS ((Heap.get?_update_other _ _ (Ne.symm hbS)).trans (hk' b o hbw e))
    | false =>
      simp only [Bool.false_eq_true, if_false]
      refine wpAny_bind (wpAny_letGo ?_)
      rw [hname]
      refine wpAny_pure ⟨plainId_quiet F.plain_min_loop _, ih (j + 1) _ vb c (by omega) hlt hst' (by simp only [argBest, hb, Bool.false_eq_true, if_false]; exact hPb) hS' fun v' h'' tk'' hP' hk'' => ?_⟩
      exact hR v' h'' tk'' hP' fun b o hbw hbS e => hk'' b o hbw hbS (hk' b o hbw e)
theorem min_loopD0 (d : Value) (W : Walks prog w A.in1 I fp wr n P St) (bt : Nat → Nat → Bool) (hcmp : CmpOf prog w A.in1 .Lt P bt) (S : Addr) (hSf : S ∉ fp) {s : Shared} {c : Nat} (hst : St 0 s.heap)
    (hS : s.heap.get? S = some { cls := .type "list", dict := none, data := .seq #[] c, slots := #[] })
    (hR : ∀ v h' tk, (0 < n → P (argBest bt (n - 1)) v) → (n = 0 → v = d) → (∀ b o, b ∉ wr → b ≠ S → s.heap.get? b = some o → h'.get? b = some o) → R (.ok (.ret v)) { s with heap := h', toks := tk }) :
    codeAny (model prog w) A (.builtin "min.loop" ⟨[.ref I, .none, .ref S], [("default", d)]⟩) R s := by
  have hSw : S ∉ wr := fun h => hSf (W.sub _ h)
  have hname : (toString "min" ++ toString ".loop" : String) = "min.loop" := by decide
  refine codeAny_builtin F.entry_min_loop ?_
  rw [Around.under_plainId F.plain_min_loop _]
  show wpAny _ A.in1 (seqItems? (.ref S) >>= _) _ _ s
  refine wpAny_bind (wpAny_seqItems hS rfl ?_)
  show wpAny _ A.in1 (tryCatch (pyNext (.ref I)) _ >>= _) _ _ s
  by_cases hn : 0 < n
  · refine wpAny_bind (wpAny_tryCatch (W.item 0 s _ _ hn hst fun v h' tk hP hst' hk' => ?_))
    have hS' := hk' S _ hSw hS
    show wpAny _ A.in1 (updateSeq S (fun _ => #[v, v]) >>= _) _ _ _
    refine wpAny_bind ?_
    refine wpAny_updateSeq hS' rfl ?_
    rw [hname]
    refine wpAny_pure ⟨plainId_quiet F.plain_min_loop _, min_loopD d W bt hcmp S hSf _ 0 _ v _ rfl hn (W.frame _ _ _ hst' fun b hbf o e => ?_) hP (Heap.get?_update_self _ hS' rfl) fun v' h'' tk'' hP' hk'' => ?_⟩
    · exact (Heap.get?_update_other _ _ (fun h : S = b => hSf (by rw [h]; exact hbf))).trans e
    · exact hR v' h'' tk'' (fun _ => hP') (fun z => by omega) fun b o hbw hbS e => hk'' b o hbw hbS ((Heap.get?_update_other _ _ (Ne.symm hbS)).trans (hk' b o hbw e))
  · have hin : 0 = n := by omega
    refine wpAny_bind (wpAny_tryCatch (W.done s _ _ (hin ▸ hst) fun h' tk hk' => ?_))
    have hR' := hR d h' tk (fun z => absurd z hn) (fun _ => rfl) fun b o hbw hbS e => hk' b o hbw e
    exact wpAny_bind (wpAny_rule (wpAny_pure hR'))
end
section
variable {prog : Program} {w : World} {A : Around} {E : Value → Shared → Prop} {s : Shared}
theorem call_minD {x d : Value} {Q : Value → Shared → Prop}
    (h : wpAny (model prog w) A.in1 (pyIter x) (fun it s₂ => ∃ I fp wr n P St bt, it = .ref I ∧ Walks prog w A.in1 I fp wr n P St ∧ St 0 s₂.heap ∧ (∀ b ∈ fp, b < s₂.heap.objs.size) ∧ CmpOf prog w A.in1 .Lt P bt ∧
      ∀ v h' tk, (0 < n → P (argBest bt (n - 1)) v) → (n = 0 → v = d) → (∀ b o, b ∉ wr → s₂.heap.get? b = some o → h'.get? b = some o) → Q v { s₂ with heap := h', toks := tk }) E s) :
    wpAny (model prog w) A (call (.builtin "min") [x] [(Str.ofString "default", d)]) Q E s := by
  have hname : (toString "min" ++ toString ".loop" : String) = "min.loop" := by decide
  refine call_treeK F.kind_min F.plain_min F.entry_min (args_minD _ _) ?_
  show wpAny _ A.in1 (Builtin.Builtins.bindParams "min" ["key", "default"] 0 ⟨[], [(Str.ofString "default", d)]⟩ >>= _) _ _ s
  refine wpAny_bind (wpAny_of_eq (show Builtin.Builtins.bindParams "min" ["key", "default"] 0 ⟨[], [(Str.ofString "default", d)]⟩ = pure [none, some d] from by kernel_rfl) ?_)
  refine wpAny_bind (wpAny_pure ?_)
  refine wpAny_bind (wpAny_mono h (fun it s₂ h₂ => ?_) fun _ _ e => e)
  obtain ⟨I, fp, wr, n, P, St, bt, rfl, W, hst, hfp, hcmp, hQ⟩ := h₂
  refine wpAny_bind (wpAny_newObj_type ?_)
  have hSf : s₂.heap.objs.size ∉ fp := fun hm => Nat.lt_irrefl _ (hfp _ hm)
  rw [hname]
  refine wpAny_pure ⟨plainId_quiet F.plain_min_loop _, min_loopD0 d W bt hcmp s₂.heap.objs.size hSf (W.frame _ _ _ hst fun b _ o e => Heap.get?_push_of_some _ e) (Heap.get?_push_size _ rfl) fun v h' tk hP hz hk => ?_⟩
  exact hQ v h' tk hP hz fun b o hbw e => hk b o hbw (Nat.ne_of_lt (Heap.lt_size e)) (Heap.get?_push_of_some _ e)
variable {l : Addr} {xs : Array (Int × Tok)}
theorem min_listD {d : Value} {Q : Value → Shared → Prop} (hh : A.handled = none) (hl : s.heap.IsList l (intItems xs))
    (h : ∀ v h' tk, (0 < xs.size → (intItems xs)[argBest (fun i j => decide (numAt xs i < numAt xs j)) (xs.size - 1)]? = some v) → (xs.size = 0 → v = d) → (∀ b o, s.heap.get? b = some o → h'.get? b = some o) → Q v { s with heap := h', toks := tk }) :
    wpAny (model prog w) A (call (.builtin "min") [.ref l] [(Str.ofString "default", d)]) Q E s := by
  refine call_minD (iter_intList hl fun s₂ e st hfp hlI => ?_)
  subst e
  refine ⟨_, _, _, _, _, _, _, rfl, Walks.list (A := A.in1) hh _ l hlI (intItems xs), st, hfp, CmpOf.ints_lt (numAt xs) (fun _ _ => intItems_at), fun v h' tk hP hz hk => ?_⟩
  exact h v h' tk (fun z => by simpa [intItems] using hP (by simpa [intItems] using z)) (fun z => hz (by simpa [intItems] using z)) (old_kept hk)
variable {its : List Value} {ns : List Int}
theorem min_rawD {d : Value} {Q : Value → Shared → Prop} (hh : A.handled = none) (hl : s.heap.IsList l its.toArray) (hi : IntsAre its ns)
    (h : ∀ h' tk v, (∀ b o, s.heap.get? b = some o → h'.get? b = some o) → (ns = [] → v = d) → (ns ≠ [] → ∃ M t', v = .int M t' ∧ M ∈ ns ∧ ∀ a, a ∈ ns → M ≤ a) → Q v { s with heap := h', toks := tk }) : wpAny (model prog w) A (call (.builtin "min") [.ref l] [(Str.ofString "default", d)]) Q E s := by
  obtain ⟨xs, e⟩ := hi.allInts.items
  have hn : numsOf (intItems xs).toList = ns := by rw [← e]; exact hi.numsOf
  rw [nums_intItems] at hn
  subst hn
  rw [e] at hl
  refine min_listD hh hl fun v h' tk hv hz hk => ?_
  refine h h' tk v hk (fun z => hz ?_) fun hne => ?_
  · have := congrArg List.length z
    simpa using this
  · have hsz : 0 < xs.size := by
      rcases Nat.eq_zero_or_pos xs.size with z | z
      · exact absurd (by
          apply List.eq_nil_of_length_eq_zero
          simp [z]) hne
      · exact z
    obtain ⟨t, rfl⟩ := intItems_at (hv hsz)
    obtain ⟨h1, h2⟩ := argBest_lt (numAt xs) (xs.size - 1)
    refine ⟨_, t, rfl, ?_, fun a ha => ?_⟩
    · rw [numAt_eq]; exact PySem.getD_mem (by rw [List.length_map, Array.length_toList]; omega)
    · obtain ⟨j, hj, rfl⟩ := mem_getD ha
      rw [List.length_map, Array.length_toList] at hj
      rw [← numAt_eq]; exact h2 j (by omega)
end
section
variable {X : Cx}
theorem cr_minD (hc : X.calm = true) : CallRK X (.builtin "min") [Str.ofString "default"] (fun vs zs H Q => ∃ (a : Addr) (ns : List Int) (z : V), vs = [V.ref a] ∧ zs = [z] ∧ SqL X.K H a (ns.map V.int) ∧ (ns = [] → Q z H) ∧ (ns ≠ [] → ∀ M, M ∈ ns → (∀ a, a ∈ ns → M ≤ a) → Q (.int M) H)) := by
  intro pins s σ H vs zs us ws Q I r rz h
  obtain ⟨a, ns, z, rfl, rfl, hs, q1, q2⟩ := h
  obtain ⟨its, rv, hl, _⟩ := I.list hs
  obtain ⟨w1, rfl, e1⟩ := vals1 rz
  rw [Vals.ref1 r]
  refine min_rawD (I.ok.hd hc) hl.isList rv.ints fun h' tk v hk h1 h2 => ?_
  by_cases c : ns = []
  · exact ⟨z, H, I.kept hk, by rw [h1 c]; exact e1, q1 c⟩
  · obtain ⟨M, t', rfl, h3, h4⟩ := h2 c
    exact ⟨.int M, H, I.kept hk, ⟨_, rfl⟩, q2 c M h3 h4⟩
end
end MP

namespace MP
open PySem PySem.Spec PyProof.Rows L2

/-! ### set(x) of a list of ints; len and sorted of it -/
abbrev setOb (w : World) : Obj := { cls := .type "set", dict := none, data := .set #[] 0 (.fresh 0 0 (!w.params.followText "set-order")) }
section
variable {P : Program} {w : World} {A : Around} {E : Value → Shared → Prop} {s : Shared}
theorem call_set_lstI {l : Addr} {its : Array Value} (ns : List Int) {Q : Value → Shared → Prop} (hh : A.handled = none) (hl : s.heap.IsList l its) (hit : IntsAre its.toList ns) (hb : ns.length + 1 < scanBound)
    (h : ∀ (h' : Heap) (tk c : Nat), SetR w h' s.heap.objs.size (fun j => decide (j ∈ ns)) c → c ≤ ns.length → (∀ b o, s.heap.get? b = some o → h'.get? b = some o) → Q (.ref s.heap.objs.size) { s with heap := h', toks := tk }) :
    wpAny (model P w) A (call (.type "set") [.ref l]) Q E s := by
  have hisz : its.size = ns.length := by
    have q := IntsAre.length hit
    rw [Array.length_toList] at q
    exact q
  obtain ⟨c, tl, hmro⟩ := F.called_set.mro
  have hmade := F.called_set.made
  have hsub := F.called_set.sub
  refine wpAny_call (codeAny_of_tree ?_)
  show wpAny _ _ (callAny (.type "set") _) _ _ _
  refine wpAny_pure ⟨Code.quiet_builtin _ (by decide +kernel), codeAny_builtin F.entry_type_call ?_⟩
  rw [Around.under_plain (weight_type_call_type "set" [.ref l] []) rfl]
  have h1 := F.called_set.notType
  have h2 := F.called_set.canCreate
  have hct := F.typeCall_set_1 (.ref l)
  repeat (any_goals (first | assumption | wp_step))
  refine codeAny_mono (code_set_led1 (.ref l) (E := E) (Q₁ := fun obj s₁ => obj = .ref s.heap.objs.size ∧ s₁ = { s with heap := s.heap.push (setOb w) }) ⟨rfl, rfl⟩) fun r s₁ hr => ?_
  cases r with
  | error e => exact hr
  | ok fl =>
    cases fl with
    | ret obj =>
      obtain ⟨rfl, rfl⟩ := hr
      have hS : (s.heap.push (setOb w)).get? s.heap.objs.size = some (setOb w) := Heap.get?_push_size _ rfl
      have hT : Shared.TypeIs { s with heap := s.heap.push (setOb w) } (.ref s.heap.objs.size) "set" := ⟨_, hS, rfl⟩
      have hli := F.called_set.init.lookup
      have hbi := F.called_set.init.bind (.ref s.heap.objs.size)
      repeat (any_goals (first | assumption | wp_step))
      refine codeAny_mono (codeAny_call_builtin (R := wants (fun r s₂ => r = .none ∧ ∃ h' tk c, s₂ = { s with heap := h', toks := tk } ∧ SetR w h' s.heap.objs.size (fun j => decide (j ∈ ns)) c ∧ c ≤ ns.length ∧
          (∀ b o, s.heap.get? b = some o → h'.get? b = some o)) E) F.called_set.init.plain F.entry_set_init (check_set_init_1 hT ?_)) fun r₂ s₂ hr₂ => ?_
      · obtain ⟨ol, hol, hcl, nl, hdl⟩ := hl
        obtain ⟨ocls, odict, odata, oslots⟩ := ol
        simp only at hcl hdl
        subst hcl; subst hdl
        have hol' : (s.heap.push (setOb w)).get? l = some { cls := .type "list", dict := odict, data := .seq its nl, slots := oslots } := Heap.get?_push_of_some _ hol
        have hsls := F.sub_list_set
        have hslf := F.sub_list_frozenset
        have hne : (Value.type "list" == Value.type "dict") = false := by decide
        have hl1 : (s.heap.push (setOb w)).IsList l its := ⟨_, hol', rfl, nl, rfl⟩
        unfold Builtin.«set.__init__» noKeywords Builtin.Frozenset.updateFrom
        generalize hPI : pyIter = PI
        wp_walk
        subst hPI
        refine wpAny_pyIter_list hl1 ?_
        refine wpAny_bind (wpAny_runValue ?_)
        have hlS : l < s.heap.objs.size := Heap.lt_size hol
        have hh3 : A.in1.in1.in1.handled = none := by simp [hh]
        have hneI : l ≠ (s.heap.push (setOb w)).objs.size := by
          rw [Heap.size_push]; exact Nat.ne_of_lt (Nat.lt_succ_of_lt hlS)
        have hSf : s.heap.objs.size ∉ [(s.heap.push (setOb w)).objs.size, l] := by
          rw [Heap.size_push]; simp only [List.mem_cons, List.mem_singleton, List.not_mem_nil, or_false, not_or]
          exact ⟨Nat.ne_of_lt (Nat.lt_succ_self _), Nat.ne_of_gt hlS⟩
        have hval : ∀ (i : Nat) (v : Value), its[i]? = some v → ∃ k t, ns[i]? = some k ∧ v = .int k t := fun i v hv => by
          have hi : i < ns.length := by rw [← hisz]; exact (Array.getElem?_eq_some_iff.mp hv).1
          obtain ⟨t, e⟩ := PyProof.Rows.IntsAre.int_at hit i v (by rw [Array.getElem?_toList]; exact hv)
          refine ⟨ns[i], t, List.getElem?_eq_getElem hi, ?_⟩
          rw [e, List.getD_eq_getElem?_getD, List.getElem?_eq_getElem hi] <;> rfl
        refine set_update_ints ((Walks.list hh3 _ l hneI its).toS) s.heap.objs.size
          hSf ns hisz hb hval (its.size - 0) 0 _ (by omega) (Nat.zero_le _)
          ⟨⟨_, Heap.get?_push_size _ rfl, rfl, rfl⟩, (hl1.push _)⟩ ⟨0, Nat.le_refl 0, setR_new_at (Heap.get?_push_of_some _ hS)⟩ ?hR
        case hR =>
          intro s' c' hm hc' hS'
          obtain ⟨h', g2, d', tk', os'⟩ := s'
          have eg : g2 = s.gens := hm.gens
          have ed : d' = s.drawn := hm.drawn
          have eo : os' = s.os := hm.os
          subst eg; subst ed; subst eo
          show wpAny _ _ _ _ _ _
          refine wpAny_pure ?_
          show wpAny _ _ (ret Value.none) _ _ _
          rw [hisz] at hc'
          refine wpAny_pure ⟨rfl, h', tk', c', rfl, hS', hc', fun b o e => ?_⟩
          have hb0 : b < s.heap.objs.size := Heap.lt_size e
          have hb2 : b ≠ (s.heap.push (setOb w)).objs.size := by
            rw [Heap.size_push]; exact Nat.ne_of_lt (Nat.lt_succ_of_lt hb0)
          exact hm.heap b o (by simp only [List.mem_cons, List.mem_singleton, List.not_mem_nil, or_false, not_or]; exact ⟨Nat.ne_of_lt hb0, hb2⟩) (Heap.get?_push_of_some _ (Heap.get?_push_of_some _ e))
      · cases r₂ with
        | error e => exact hr₂
        | ok fl₂ =>
          cases fl₂ with
          | ret r =>
            obtain ⟨rfl, h', tk, c', rfl, hS', hc', hk'⟩ := hr₂
            repeat (any_goals (first | assumption | wp_step))
            exact h _ _ _ hS' hc' hk'
          | _ => exact hr₂.elim
    | _ => exact hr.elim
end
/-! ### the members in order, each once -/
def insU (x : Int) : List Int → List Int
  | [] => [x]
  | y :: ys => if x < y then x :: y :: ys else if x = y then y :: ys else y :: insU x ys
def usort : List Int → List Int
  | [] => []
  | x :: xs => insU x (usort xs)
theorem mem_insU {x k : Int} : ∀ {l : List Int}, k ∈ insU x l ↔ k = x ∨ k ∈ l
  | [] => by simp [insU]
  | y :: ys => by
    unfold insU
    by_cases c : x < y
    · rw [if_pos c]; simp
    · rw [if_neg c]
      by_cases c2 : x = y
      · rw [if_pos c2]; subst c2; simp
      · rw [if_neg c2]
        simp only [List.mem_cons, mem_insU (l := ys)]
        constructor
        · rintro (h | h | h) <;> simp [h]
        · rintro (h | h | h) <;> simp [h]
theorem insU_lt {x : Int} : ∀ {l : List Int}, l.Pairwise (· < ·) → (insU x l).Pairwise (· < ·)
  | [], _ => by simp [insU]
  | y :: ys, h => by
    obtain ⟨h1, h2⟩ := List.pairwise_cons.mp h
    unfold insU
    by_cases c : x < y
    · rw [if_pos c]
      refine List.pairwise_cons.mpr ⟨fun k hk => ?_, h⟩
      rcases List.mem_cons.mp hk with rfl | hk
      · exact c
      · exact Int.lt_trans c (h1 k hk)
    · rw [if_neg c]
      by_cases c2 : x = y
      · rw [if_pos c2]; exact h
      · rw [if_neg c2]
        refine List.pairwise_cons.mpr ⟨fun k hk => ?_, insU_lt h2⟩
        rcases mem_insU.mp hk with rfl | hk
        · omega
        · exact h1 k hk
theorem mem_usort {k : Int} : ∀ {l : List Int}, k ∈ usort l ↔ k ∈ l
  | [] => by simp [usort]
  | x :: xs => by simp [usort, mem_insU, mem_usort (l := xs)]
theorem usort_lt : ∀ l : List Int, (usort l).Pairwise (· < ·)
  | [] => List.Pairwise.nil
  | x :: xs => insU_lt (usort_lt xs)
theorem lt_unique : ∀ {a b : List Int}, a.Pairwise (· < ·) → b.Pairwise (· < ·) → (∀ k, k ∈ a ↔ k ∈ b) → a = b
  | [], [], _, _, _ => rfl
  | [], y :: ys, _, _, h => by have := (h y).mpr List.mem_cons_self; cases this
  | x :: xs, [], _, _, h => by have := (h x).mp List.mem_cons_self; cases this
  | x :: xs, y :: ys, ha, hb, h => by
    obtain ⟨a1, a2⟩ := List.pairwise_cons.mp ha
    obtain ⟨b1, b2⟩ := List.pairwise_cons.mp hb
    have e : x = y := by
      rcases List.mem_cons.mp ((h x).mp List.mem_cons_self) with z | z
      · exact z
      · rcases List.mem_cons.mp ((h y).mpr List.mem_cons_self) with z2 | z2
        · exact z2.symm
        · have p1 := b1 x z
          have p2 := a1 y z2
          omega
    subst e
    refine congrArg (x :: ·) (lt_unique a2 b2 fun k => ⟨fun hk => ?_, fun hk => ?_⟩)
    · rcases List.mem_cons.mp ((h k).mp (List.mem_cons_of_mem _ hk)) with z | z
      · have := a1 k hk
        omega
      · exact z
    · rcases List.mem_cons.mp ((h k).mpr (List.mem_cons_of_mem _ hk)) with z | z
      · have := b1 k hk
        omega
      · exact z
def seqInts : D → Option (List Int)
  | .tup ds => intsOf ds
  | .lst ds => intsOf ds
  | _ => none
def dLenSet (da : DE) : DR := fun env S => (da env S).bind fun d S1 => match seqInts d with
  | some ns => if ns.length ≤ 1000 then .ok (.v (.int (usort ns).length)) S1 else .bad
  | none => .bad
def dSortSet (da : DE) : DR := fun env S => (da env S).bind fun d S1 => match seqInts d with
  | some ns => if ns.length ≤ 60 then .ok (.o (.l ((usort ns).map D.int))) S1 else .bad
  | none => .bad
section
variable {X : Cx} {a : Expr}
/-- set(x) of a tuple or list of ints, whatever stands around -/
theorem set_at {pins : List (Addr × Obj)} {s : Shared} {σ : L2.St} {H : Hp} {W : Wd} {S : Sto} {d : D} {x : V} {u : Value} {ns : List Int} {Q : Value → Shared → Prop} (hc : X.calm = true) (I : Inv X pins σ H s) (ok : WOk X.K W S H) (r : RepB X.K W H d x) (e : seqInts d = some ns) (hl : ns.length ≤ 1000) (ru : RelV x u)
    (h : ∀ (h' : Heap) (tk c : Nat), SetR X.w h' s.heap.objs.size (fun j => decide (j ∈ ns)) c → c ≤ ns.length → (∀ b o, s.heap.get? b = some o → h'.get? b = some o) → Q (.ref s.heap.objs.size) { s with heap := h', toks := tk }) :
    wpAny (model X.prog X.w) X.A (call (.type "set") [u]) Q X.xe s := by
  have hb : ns.length + 1 < scanBound := by unfold scanBound; omega
  cases d with
  | tup ds =>
    obtain ⟨b, xs, rfl, h1, h2⟩ := r.tup_inv
    cases ru
    obtain rfl := intsOf_rep h2 e
    obtain ⟨its, rv, pt, hz⟩ := I.tuple (SqT.of (ok.sub _ _ h1))
    exact call_set_tupI ns (I.ok.hd hc) (show s.heap.IsTuple b its.toArray from pt) (ints_of_vals rv) hb h
  | lst ds =>
    obtain ⟨b, xs, rfl, h1, h2⟩ := r.lst_inv ok
    cases ru
    obtain rfl := intsOf_rep h2 e
    obtain ⟨its, rv, pt, hz⟩ := I.list (SqL.of h1)
    exact call_set_lstI ns (I.ok.hd hc) pt.isList (ints_of_vals rv) hb h
  | _ => cases e
theorem setR_len {w : World} {h : Heap} {a : Addr} {ns : List Int} {c : Nat} (R : SetR w h a (fun j => decide (j ∈ ns)) c) : c = (usort ns).length := by
  obtain ⟨o, es, ep, t, ho, hex, hd, g, nd, hm, hb, hf, hn, hr, hl⟩ := R
  have p : (es.toList.map L2.keyOf).Perm (usort ns) := by
    refine (List.perm_ext_iff_of_nodup nd ((usort_lt ns).imp fun h => by omega)).mpr fun k => ?_
    rw [← hm k, mem_usort, decide_eq_true_eq]
  have q := p.length_eq
  rw [List.length_map, Array.length_toList, hn] at q
  exact q
theorem me_lenSet {da : DE} {p p2 q pos : Pos} (hc : X.calm = true) (hg : Gl X "len") (hm : X.mg "len" = none) (hg2 : Gl X "set") (hm2 : X.mg "set" = none) (ha : PE X a (MP.tB X.K da))
    (na : starEach [a] X.env = (false, eval a X.env) :: starEach [] X.env := by rfl) : PE X (.Call (.Name "len" p) [.Call (.Name "set" p2) [a] [] q] [] pos) (tR X.K (dLenSet da)) := by
  refine ⟨fun pins s σ H Q I ⟨W, S, H0, env, ok, eo, d, S', h, q⟩ => ?_⟩
  obtain ⟨d1, S1, h1, h2⟩ := bind_ok h
  split at h2
  case h_2 => cases h2
  rename_i ns e
  split at h2
  case isFalse => cases h2
  rename_i hl
  cases h2
  refine Call_ (ld_blt I hg hm PySem.boot_len ?_)
  refine PyProof.Rows.callWith_builtin1 (PyProof.Rows.args_cons ?_ rfl) rfl rfl
  refine Call_ (ld_blt I hg2 hm2 PyProof.Rows.boot_set ?_)
  refine PyProof.Rows.callWith_type1 (PyProof.Rows.args_cons (thn (ha.run pins s σ H (fun v H1 => ∃ W1, Ext W H W1 H1 ∧ WOk X.K W1 S' H1 ∧ RepB X.K W1 H1 d1 v) I ⟨W, S, H0, env, ok, eo, d1, S', h1, fun W1 H1 v e1 o1 r1 => ⟨W1, e1, o1, r1⟩⟩) fun v s1 ⟨x, H1, I1, r1, W1, e1, o1, rb⟩ => PyProof.Rows.args_nil ?_) na) na rfl
  refine set_at hc I1 o1 rb e hl r1 fun h' tk c R hcn hk => PyProof.Rows.args_nil ?_
  have hlen := setR_len R
  obtain ⟨o, es, ep, t, ho, hex, hd, g, nd, hm, hb, hf, hn, hr, hl2⟩ := R
  have I2 : Inv X pins σ H1 { s1 with heap := h', toks := tk } := I1.kept hk
  refine call_len_set ho hex hd hf (by unfold scanBound at hb; omega) ⟨.int (usort ns).length, H1, I2.tok _, ⟨_, by rw [hn, hlen]⟩, q W1 H1 _ e1 o1 (.int _)⟩
theorem me_sortSet {da : DE} {p p2 q pos : Pos} (hc : X.calm = true) (hg : Gl X "sorted") (hm : X.mg "sorted" = none) (hg2 : Gl X "set") (hm2 : X.mg "set" = none) (ha : PE X a (MP.tB X.K da))
    (na : starEach [a] X.env = (false, eval a X.env) :: starEach [] X.env := by rfl) : PE X (.Call (.Name "sorted" p) [.Call (.Name "set" p2) [a] [] q] [] pos) (tR X.K (dSortSet da)) := by
  refine ⟨fun pins s σ H Q I ⟨W, S, H0, env, ok, eo, d, S', h, q⟩ => ?_⟩
  obtain ⟨d1, S1, h1, h2⟩ := bind_ok h
  split at h2
  case h_2 => cases h2
  rename_i ns e
  split at h2
  case isFalse => cases h2
  rename_i hl
  cases h2
  refine Call_ (ld_blt I hg hm PyProof.Rows.boot_sorted ?_)
  refine PyProof.Rows.callWith_builtin1 (PyProof.Rows.args_cons ?_ rfl) rfl rfl
  refine Call_ (ld_blt I hg2 hm2 PyProof.Rows.boot_set ?_)
  refine PyProof.Rows.callWith_type1 (PyProof.Rows.args_cons (thn (ha.run pins s σ H (fun v H1 => ∃ W1, Ext W H W1 H1 ∧ WOk X.K W1 S' H1 ∧ RepB X.K W1 H1 d1 v) I ⟨W, S, H0, env, ok, eo, d1, S', h1, fun W1 H1 v e1 o1 r1 => ⟨W1, e1, o1, r1⟩⟩) fun v s1 ⟨x, H1, I1, r1, W1, e1, o1, rb⟩ => PyProof.Rows.args_nil ?_) na) na rfl
  refine set_at hc I1 o1 rb e (by omega) r1 fun h' tk c R hcn hk => PyProof.Rows.args_nil ?_
  have I2 : Inv X pins σ H1 { s1 with heap := h', toks := tk } := I1.kept hk
  refine sorted_set R (I2.ok.hd hc) (by omega) fun s' p out c2 ns2 k g o hp hgp hi hs hmm hl2 => ?_
  have en : ns2 = usort ns := lt_unique hs (usort_lt ns) fun j => by rw [hmm j, decide_eq_true_eq, mem_usort]
  subst en
  have hlen : ((usort ns).map V.int).length ≤ sizeLine := by rw [List.length_map, hl2, sizeLine_eq]; omega
  have hn : H1 p = none := I2.hok.fresh hp
  have J : Inv X pins σ (upd H1 p (.lst ((usort ns).map V.int))) { s1 with heap := s'.heap, gens := s'.gens, drawn := s'.drawn, toks := s'.toks } :=
    I2.call (s := { s1 with heap := h', toks := tk }) (ch := []) (Un.laid k hp hn) (I2.hok.laid k hp ⟨hlen, out.toList, c2, vals_of_ints hi, hgp⟩) (by rw [g]; exact I2.bare) (fun _ z => nomatch z)
  have es : s' = { s1 with heap := s'.heap, gens := s'.gens, drawn := s'.drawn, toks := s'.toks } := by
    cases s'
    cases s1
    cases o
    rfl
  rw [es]
  obtain ⟨e2, o2, r2⟩ := obj_new (x := .l ((usort ns).map D.int)) o1 hn (.l (ints_rep _))
  exact ⟨.ref p, _, J, rfl, q _ _ _ (e1.trans e2) o2 (r2.back fun a h => e1.fresh h)⟩
end
end MP

namespace MP
open PySem PySem.Spec PyProof.Rows L2
section
variable {X : Cx} {e a b : Expr} {pos : Pos}
/-! ### types and isinstance -/
theorem me_ty {x : Str} {T : String} (hg : Gl X x) (hm : X.mg x = none) (hv : bootBuiltins x = some (.type T)) (hn : x ≠ "__name__" := by decide) (hd : (x == ("__debug__" : Str)) = false := by decide) : PE X (.Name x pos) (tV X.K (dC (.ty T))) :=
  me_c (pe_bltn (v := .ty T) hg hm hv rfl hn hd) fun _ _ => .ty T
def tyName : D → Option String
  | .non => some "NoneType"
  | .bl _ => some "bool"
  | .int _ => some "int"
  | .str _ => some "str"
  | .tup _ => some "tuple"
  | .lst _ => some "list"
  | .dk _ _ => some "dict"
  | .dt _ _ => some "dict"
  | _ => none
def tyKnown (t : String) : Bool := t == "int" || t == "bool" || t == "str" || t == "tuple" || t == "list" || t == "dict"
def subTy (a b : String) : Bool := a == b || (a == "bool" && b == "int")
def isi1 (d : D) (t : String) : Option Bool := match tyName d with
  | some n => if tyKnown t = true then some (subTy n t) else none
  | none => none
theorem kit_all : ∀ a ∈ ["NoneType", "bool", "int", "str", "tuple", "list", "dict"], ∀ b ∈ ["int", "bool", "str", "tuple", "list", "dict"], kitB a b = some (subTy a b) := by decide +kernel
theorem tyName_mem {d : D} {n : String} (h : tyName d = some n) : n ∈ ["NoneType", "bool", "int", "str", "tuple", "list", "dict"] := by
  cases d <;> cases h <;> decide
theorem tyKnown_mem {t : String} (h : tyKnown t = true) : t ∈ ["int", "bool", "str", "tuple", "list", "dict"] := by
  unfold tyKnown at h
  simp only [Bool.or_eq_true, beq_iff_eq] at h
  simp only [List.mem_cons, List.not_mem_nil, or_false]
  rcases h with ((((h | h) | h) | h) | h) | h <;> simp [h]
theorem tyx_of {K : PySem.W.Frag} {W : Wd} {S : Sto} {H : Hp} {d : D} {x : V} {n : String} (ok : WOk K W S H) (r : RepB K W H d x) (h : tyName d = some n) : TyX K H x (.type n) := by
  cases d with
  | non => cases h; rw [r.non_inv]; exact .base .non
  | bl b => cases h; rw [r.bl_inv]; exact .base (.bl b)
  | int b => cases h; rw [r.int_inv]; exact .base (.int b)
  | str b => cases h; rw [r.str_inv]; exact .base (.str b)
  | tup ds =>
    cases h
    obtain ⟨p, xs, rfl, h1, h2⟩ := r.tup_inv
    exact .base (.tup (ok.sub _ _ h1))
  | lst ds =>
    cases h
    obtain ⟨p, xs, rfl, h1, h2⟩ := r.lst_inv ok
    exact .base (.lst h1)
  | dk ks ds =>
    cases h
    obtain ⟨p, kvs, rfl, h1, h2, h3⟩ := r.dk_inv ok
    exact .base (.dK h1)
  | dt ks ds =>
    cases h
    obtain ⟨p, kvs, rfl, h1, h2, h3⟩ := r.dt_inv ok
    exact .base (.dT h1)
  | _ => cases h
def tysOf : List D → Option (List String)
  | [] => some []
  | .ty t :: r => (tysOf r).map (t :: ·)
  | _ :: _ => none
def bIsi : List D → Sto → Res R := fun ds S => match ds with
  | [d, .ty t] => (match isi1 d t with | some b => .ok (.v (.bl b)) S | none => .bad)
  | [d, .tup ts] => (match tyName d, tysOf ts with | some n, some l => if l.all tyKnown = true then .ok (.v (.bl (l.any (subTy n)))) S else .bad | _, _ => .bad)
  | _ => .bad
theorem tysOf_rep {K : PySem.W.Frag} {G : Hp} {l : List Addr} : ∀ {ds : List D} {xs : List V} {ts : List String}, RepL K G l ds xs → tysOf ds = some ts → xs = ts.map V.ty
  | [], _, ns, r, e => by
    cases r
    unfold tysOf at e
    cases e
    rfl
  | d :: ds, _, ns, r, e => by
    cases r with
    | cons r1 r2 =>
      cases d with
      | ty i =>
        unfold tysOf at e
        obtain ⟨ns', e1, rfl⟩ := Option.map_eq_some_iff.mp e
        cases r1
        rw [tysOf_rep r2 e1]
        rfl
      | _ => unfold tysOf at e; cases e
theorem kit1 {K : PySem.W.Frag} {d : D} {n t : String} (hn : tyName d = some n) (hk : tyKnown t = true) : PySem.W.kitOne K (.type n) (.type t) = some (subTy n t) := kit_ty (kit_all n (tyName_mem hn) t (tyKnown_mem hk))
theorem clsV_tys : ∀ ts : List String, Paired ClsV (ts.map V.ty) (ts.map Value.type)
  | [] => .nil
  | t :: ts => .cons (.ty t) (clsV_tys ts)
theorem kitA {K : PySem.W.Frag} {d : D} {n : String} (hn : tyName d = some n) : ∀ {ts : List String}, ts.all tyKnown = true → PySem.W.kitAny K (.type n) (ts.map Value.type) = some (ts.any (subTy n))
  | [], _ => rfl
  | t :: ts, h => by
    rw [List.all_cons, Bool.and_eq_true] at h
    rw [List.any_cons]
    refine kitAny_cons (kit1 hn h.1) (fun z => ?_) (fun z => by rw [z]; rfl)
    rw [kitA hn h.2, z]
    rfl
theorem mb_isi : CallR X (.builtin "isinstance") (rC X.K bIsi) := CallR.imp (CallR.or call_isi call_isiT) fun vs H Q ⟨W, S, ds, r, S', ok, ra, h, q⟩ => by
  unfold bIsi at h
  split at h
  · rename_i d t
    cases ra with
    | cons r1 r2 =>
      cases r2 with
      | cons r2 r3 =>
        cases r3
        split at h
        case h_2 => cases h
        rename_i b hb
        cases h
        unfold isi1 at hb
        cases hn : tyName d with
        | none => rw [hn] at hb; cases hb
        | some n =>
          rw [hn] at hb
          have hb : (if tyKnown t = true then some (subTy n t) else none) = some b := hb
          split at hb
          case isFalse => cases hb
          rename_i hk
          cases hb
          have et : ∀ {v : V}, RepB X.K W H (.ty t) v → v = .ty t := fun r => by
            rcases r with r | ⟨x, a, u, e1, _⟩
            · cases r; rfl
            · cases x <;> cases e1
          obtain rfl := et r2
          exact .inl ⟨_, _, _, _, _, rfl, .ty t, tyx_of ok r1 hn, kit1 hn hk, q W H _ (Ext.refl _ _) ok (.bl _)⟩
  · rename_i d ts
    cases ra with
    | cons r1 r2 =>
      cases r2 with
      | cons r2 r3 =>
        cases r3
        split at h
        case h_2 => cases h
        rename_i n l hn hl
        split at h
        case isFalse => cases h
        rename_i hk
        cases h
        obtain ⟨p, xs, rfl, h1, h2⟩ := r2.tup_inv
        obtain rfl := tysOf_rep h2 hl
        exact .inr ⟨_, _, _, _, _, _, rfl, ok.sub _ _ h1, clsV_tys l, tyx_of ok r1 hn, kitA hn hk, q W H _ (Ext.refl _ _) ok (.bl _)⟩
  · cases h
/-! ### dict(x) of a list of pairs -/
def pairsOf : List D → Option (List (Key × D))
  | [] => some []
  | .tup [k, v] :: r => match MP.keyOf k, pairsOf r with
    | some q, some l => some ((q, v) :: l)
    | _, _ => none
  | _ :: _ => none
def putAll : List (Key × D) → List Key → List D → List Key × List D
  | [], ks, ds => (ks, ds)
  | (k, v) :: r, ks, ds => putAll r (putKs ks k) (putDs ks ds k v)
def bDict : List D → Sto → Res R := fun ds S => match ds with
  | [.lst xs] => (match pairsOf xs with
    | some ps => .ok (.o (.k (putAll ps [] []).1 (putAll ps [] []).2)) S
    | none => .bad)
  | _ => .bad
theorem pairs_rep {K : PySem.W.Frag} {W : Wd} {S : Sto} {H : Hp} (ok : WOk K W S H) : ∀ {ds : List D} {xs : List V} {ps : List (Key × D)}, RepL K W.G W.r ds xs → pairsOf ds = some ps →
    ∃ (as : List Addr) (kvs : List (Key × V)), xs = as.map V.ref ∧ Paired (fun p kv => SqT K H p [kV kv.1, kv.2]) as kvs ∧ kvs.map (·.1) = ps.map (·.1) ∧ RepL K W.G W.r (ps.map (·.2)) (kvs.map (·.2))
  | [], _, ps, r, e => by
    cases r
    unfold pairsOf at e
    cases e
    exact ⟨[], [], rfl, .nil, rfl, .nil⟩
  | d :: ds, _, ps, r, e => by
    cases r with
    | cons r1 r2 =>
      unfold pairsOf at e
      split at e
      · rename_i heq
        cases heq
      · rename_i heq
        cases heq
        split at e
        case h_2 => cases e
        rename_i q l hq hl
        cases e
        obtain ⟨as, kvs, rfl, h2, h3, h4⟩ := pairs_rep ok r2 hl
        cases r1 with
        | @tup a zs _ g1 g2 =>
          cases g2 with
          | cons z1 z2 =>
            cases z2 with
            | @cons _ v _ _ z2 z3 =>
              cases z3
              obtain rfl := key_rep (H := H) (.inl z1) hq
              exact ⟨a :: as, (q, v) :: kvs, rfl, .cons (SqT.of (ok.sub _ _ g1)) h2, by simp [h3], .cons z2 h4⟩
      · cases e
theorem merge_rep {K : PySem.W.Frag} {G : Hp} {l : List Addr} : ∀ {ps : List (Key × D)} {kvs : List (Key × V)} {ks : List Key} {ds : List D} {acc : List (Key × V)}, kvs.map (·.1) = ps.map (·.1) → RepL K G l (ps.map (·.2)) (kvs.map (·.2)) → acc.map (·.1) = ks → RepL K G l ds (acc.map (·.2)) →
    (mergeK acc kvs).map (·.1) = (putAll ps ks ds).1 ∧ RepL K G l (putAll ps ks ds).2 ((mergeK acc kvs).map (·.2))
  | [], [], ks, ds, acc, _, _, h3, h4 => ⟨h3, h4⟩
  | [], _ :: _, _, _, _, h, _, _, _ => by simp at h
  | _ :: _, [], _, _, _, h, _, _, _ => by simp at h
  | (k, v) :: ps, (k', v') :: kvs, ks, ds, acc, h1, h2, h3, h4 => by
    simp only [List.map_cons, List.cons.injEq] at h1
    obtain ⟨rfl, h1⟩ := h1
    cases h2 with
    | cons r1 r2 =>
      obtain ⟨g1, g2⟩ := put_rep (q := k') h3 h4 r1
      exact merge_rep (ps := ps) (kvs := kvs) h1 r2 g1 g2
theorem mb_dict (hc : X.calm = true) : CallR X (.type "dict") (rC X.K bDict) := CallR.imp (call_dictP hc) fun vs H Q ⟨W, S, ds, r, S', ok, ra, h, q⟩ => by
  unfold bDict at h
  split at h
  · cases ra with
    | cons r1 r2 =>
      cases r2
      obtain ⟨a, xs', rfl, h1, h2⟩ := r1.lst_inv ok
      split at h
      case h_2 => cases h
      rename_i ps hp
      cases h
      obtain ⟨as, kvs, rfl, g2, g3, g4⟩ := pairs_rep ok h2 hp
      refine ⟨a, as, kvs, rfl, SqL.of h1, g2, fun p hp => ?_⟩
      obtain ⟨m1, m2⟩ := merge_rep (acc := []) (ks := []) (ds := []) g3 g4 rfl .nil
      obtain ⟨e1, o1, r1⟩ := obj_new (x := .k _ _) ok hp (.k m1 m2)
      exact q _ _ _ e1 o1 r1
  · cases h
/-! ### d.get -/
def dDget (dd dk dx : DE) : DE := fun env S => (dd env S).bind fun d S1 => (dk env S1).bind fun k S2 => (dx env S2).bind fun z S3 => match dlook d k with
  | some (some v) => .ok v S3
  | some none => .ok z S3
  | none => .bad
theorem isD_of {K : PySem.W.Frag} {W : Wd} {S : Sto} {H : Hp} {d k : D} {x : V} {o : Option D} (ok : WOk K W S H) (r : RepB K W H d x) (h : dlook d k = some o) : ∃ a, x = .ref a ∧ IsD H a := by
  unfold dlook at h
  split at h
  · obtain ⟨p, kvs, rfl, h1, _⟩ := r.dk_inv ok
    exact ⟨p, rfl, .inl ⟨kvs, .inl h1⟩⟩
  · obtain ⟨p, kvs, rfl, h1, _⟩ := r.dt_inv ok
    exact ⟨p, rfl, .inr ⟨kvs, .inl h1⟩⟩
  · obtain ⟨p, oo, kvs, rfl, h1, _⟩ := r.fk_inv ok
    exact ⟨p, rfl, .inl ⟨kvs, .inr ⟨oo, h1⟩⟩⟩
  · obtain ⟨p, oo, kvs, rfl, h1, _⟩ := r.ft_inv ok
    exact ⟨p, rfl, .inr ⟨kvs, .inr ⟨oo, h1⟩⟩⟩
  · cases h
theorem me_dget {f : Expr} {apos cpos : Pos} {dd dk dx : DE} (hu : X.A.units + 1 < cLine) (ho : PE X a (MP.tB X.K dd)) (he : PE X e (MP.tB X.K dk)) (hf : PE X f (tV X.K dx)) (m : M2 X a "get" apos e f cpos) : PE X (.Call (.Attribute a "get" apos) [e, f] [] cpos) (tV X.K (dDget dd dk dx)) :=
  PE.imp (pe_dget2 hu ho he hf m) fun σ H Q ⟨W, S, H0, env, ok, eo, d, S', h, q⟩ => by
    obtain ⟨d1, S1, h1, h2⟩ := bind_ok h
    obtain ⟨k, S2, h3, h4⟩ := bind_ok h2
    obtain ⟨z, S3, h5, h6⟩ := bind_ok h4
    have hk : ∃ o, dlook d1 k = some o := by
      split at h6
      · exact ⟨_, by assumption⟩
      · exact ⟨_, by assumption⟩
      · cases h6
    obtain ⟨o, ho⟩ := hk
    refine ⟨W, S, H0, env, ok, eo, d1, S1, h1, fun W1 H1 v e1 o1 r1 => ?_⟩
    obtain ⟨p, rfl, isd⟩ := isD_of o1 r1 ho
    refine ⟨p, rfl, isd, W1, S1, H0, env, o1, eo.ext e1, k, S2, h3, fun W2 H2 y e2 o2 r2 => ?_⟩
    refine ⟨W2, S2, H0, env, o2, (eo.ext e1).ext e2, z, S3, h5, fun W3 H3 u e3 o3 r3 => ?_⟩
    obtain ⟨p', ov, g1, g2, g3, g4⟩ := dlook_get o3 ((r1.ext e2).ext e3) (r2.ext e3) ho
    cases g1
    refine ⟨ov, g2, ?_⟩
    have ex := (e1.trans e2).trans e3
    rw [ho] at h6
    cases o with
    | some z =>
      cases h6
      obtain ⟨u', rfl, g5⟩ := g4 _ rfl
      exact q W3 H3 _ ex o3 g5
    | none =>
      cases h6
      cases ov with
      | some _ => cases g3
      | none => exact q W3 H3 _ ex o3 r3
/-! ### list(d.values()) -/
def dVals (dd : DE) : DR := fun env S => (dd env S).bind fun d S1 => match d with
  | .dk _ ds => .ok (.o (.l ds)) S1
  | _ => .bad
theorem me_listVals {p apos cpos : Pos} {dd : DE} (hc : X.calm = true) (hg : Gl X "list") (hm : X.mg "list" = none) (ho : PE X a (MP.tB X.K dd)) (hbase : attributeBase a "values" X.env (eval a X.env) = eval a X.env := by rfl) (hline : (apos.endLine == cpos.line) = true := by rfl)
    (na : starEach [.Call (.Attribute a "values" apos) [] [] cpos] X.env = (false, eval (.Call (.Attribute a "values" apos) [] [] cpos) X.env) :: starEach [] X.env := by rfl) :
    PE X (.Call (.Name "list" p) [.Call (.Attribute a "values" apos) [] [] cpos] [] pos) (tR X.K (dVals dd)) := by
  refine ⟨fun pins s σ H Q I ⟨W, S, H0, env, ok, eo, r, S', h, q⟩ => ?_⟩
  obtain ⟨d1, S1, h1, h2⟩ := bind_ok h
  split at h2
  case h_2 => cases h2
  rename_i ks ds
  cases h2
  refine Call_ (ld_blt I hg hm boot_list (PyProof.Rows.callWith_type1 (args_cons ?_ na) na))
  refine wpAny_Call_method (T := "dict") (id := "dict.values") hbase rfl hline F.plainAttrs_dict F.slot_dict_values F.type_dict_values (thn (ho.run pins s σ H (fun v H1 => ∃ W1, Ext W H W1 H1 ∧ WOk X.K W1 S' H1 ∧ RepB X.K W1 H1 (.dk ks ds) v) I ⟨W, S, H0, env, ok, eo, _, S', h1, fun W1 H1 v e1 o1 r1 => ⟨W1, e1, o1, r1⟩⟩) fun u s1 ⟨x, H1, I1, rx, W1, e1, o1, rb⟩ => ?_)
  obtain ⟨d, kvs, rfl, k1, k2, k3⟩ := rb.dk_inv o1
  obtain rfl : u = Value.ref d := rx
  obtain ⟨z, lo, vs, rk, hd⟩ := (show ObjOk X.prog X.w H1 s1.heap d (.dK kvs) from I1.hok d _ k1)
  obtain ⟨ep, hat⟩ := hd.dictAt
  have hl : kvs.length = vs.length := Paired.length rk
  refine ⟨hat.dictOf.typeIs, hat.dictOf.mapOf.noDict, ?_⟩
  show wpAny _ _ (callWith cpos (.builtin "dict.values") [.ref d] [] []) _ X.xe s1
  refine method_meetsIn F.slot_dict_values F.entry_dict_values rfl (PySem.evalArgs_none ⟨rfl, hat.dictOf.typeIs, F.args_dict_values_1 _, _, meets_dict_values (mixKind X.prog X.w) d lo, ⟨vs, hat.dictOf⟩, args_nil ?_⟩)
  have I2 : Inv X pins σ H1 { s1 with heap := s1.heap.push { cls := .type "dict_values", data := .fields #[.ref d] } } := I1.kept (t' := s1.toks) fun b ob q => Heap.get?_push_of_some _ q
  refine PySem.W.kdl_call (PySem.W.kdl_values (knd := mixKind X.prog X.w) (kvs := vs) (ep := ep)) (I2.ok.hd hc) ⟨⟨_, Heap.get?_push_size _ rfl, rfl, rfl⟩, hat.push _⟩ (by rw [← hl]; exact z) fun h' tk acc' c' hkeep hS hacc => ?_
  have hpn : H1 ({ s1 with heap := s1.heap.push { cls := .type "dict_values", data := .fields #[.ref d] } } : Shared).heap.objs.size = none := I2.hok.fresh (Nat.le_refl _)
  obtain ⟨e2, o2, r2⟩ := obj_new (x := .l ds) o1 hpn (.l k3)
  refine ⟨.ref _, upd H1 _ (.lst (kvs.map (·.2))), I2.laid hkeep (Nat.le_refl _) (show ObjOk X.prog X.w _ _ _ (.lst (kvs.map (·.2))) from ⟨?_, acc'.toList, c', ?_, ?_⟩), rfl, q _ _ _ (e1.trans e2) o2 (r2.back fun a h => e1.fresh h)⟩
  · rw [List.length_map]; exact z
  · have el : acc'.toList.length = acc'.size := by simp
    refine vals_of_at (by rw [List.length_map, el, hacc.1, hl]) fun j x w h1 h2 => ?_
    obtain ⟨k, hky⟩ := hacc.2 j w (by rw [← Array.getElem?_toList]; exact h2)
    rw [List.getElem?_map] at h1
    obtain ⟨kv, h3, rfl⟩ := Option.map_eq_some_iff.mp h1
    obtain ⟨kk, vv⟩ := kv
    obtain ⟨u, hu, ru⟩ := kv_get rk h3
    rw [hky] at hu
    cases hu
    exact ru
  · rw [Array.toArray_toList]; exact hS
end
end MP

namespace MP
open PySem PySem.Spec PyProof.Rows L2
section
variable {X : Cx} {e a b : Expr} {pos : Pos}
/-! ### max(l, default=x), min(l, default=x) -/
def maxL : Int → List Int → Int
  | m, [] => m
  | m, x :: xs => maxL (if x > m then x else m) xs
def minL : Int → List Int → Int
  | m, [] => m
  | m, x :: xs => minL (if x < m then x else m) xs
theorem maxL_spec : ∀ (xs : List Int) (m : Int), (maxL m xs = m ∨ maxL m xs ∈ xs) ∧ m ≤ maxL m xs ∧ ∀ y ∈ xs, y ≤ maxL m xs
  | [], m => by simp [maxL]
  | x :: xs, m => by
    obtain ⟨h1, h2, h3⟩ := maxL_spec xs (if x > m then x else m)
    unfold maxL
    by_cases c : x > m
    · rw [if_pos c] at h1 h2 h3 ⊢
      refine ⟨?_, by omega, fun y hy => ?_⟩
      · rcases h1 with h | h
        · right; rw [h]; exact List.mem_cons_self
        · right; exact List.mem_cons_of_mem _ h
      · rcases List.mem_cons.mp hy with rfl | hy
        · exact h2
        · exact h3 y hy
    · rw [if_neg c] at h1 h2 h3 ⊢
      refine ⟨?_, h2, fun y hy => ?_⟩
      · rcases h1 with h | h
        · left; exact h
        · right; exact List.mem_cons_of_mem _ h
      · rcases List.mem_cons.mp hy with rfl | hy
        · omega
        · exact h3 y hy
theorem minL_spec : ∀ (xs : List Int) (m : Int), (minL m xs = m ∨ minL m xs ∈ xs) ∧ minL m xs ≤ m ∧ ∀ y ∈ xs, minL m xs ≤ y
  | [], m => by simp [minL]
  | x :: xs, m => by
    obtain ⟨h1, h2, h3⟩ := minL_spec xs (if x < m then x else m)
    unfold minL
    by_cases c : x < m
    · rw [if_pos c] at h1 h2 h3 ⊢
      refine ⟨?_, by omega, fun y hy => ?_⟩
      · rcases h1 with h | h
        · right; rw [h]; exact List.mem_cons_self
        · right; exact List.mem_cons_of_mem _ h
      · rcases List.mem_cons.mp hy with rfl | hy
        · exact h2
        · exact h3 y hy
    · rw [if_neg c] at h1 h2 h3 ⊢
      refine ⟨?_, h2, fun y hy => ?_⟩
      · rcases h1 with h | h
        · left; exact h
        · right; exact List.mem_cons_of_mem _ h
      · rcases List.mem_cons.mp hy with rfl | hy
        · omega
        · exact h3 y hy
def bMaxD : D → D → Sto → Res D := fun d z S => match d with
  | .lst ds => (match intsOf ds with
    | some [] => .ok z S
    | some (x :: xs) => .ok (.int (maxL x xs)) S
    | none => .bad)
  | _ => .bad
def bMinD : D → D → Sto → Res D := fun d z S => match d with
  | .lst ds => (match intsOf ds with
    | some [] => .ok z S
    | some (x :: xs) => .ok (.int (minL x xs)) S
    | none => .bad)
  | _ => .bad
def dOp2 (f : D → D → Sto → Res D) (da db : DE) : DE := fun env S => (da env S).bind fun x S1 => (db env S1).bind fun y S2 => f x y S2
theorem me_maxD {kp p : Pos} {da db : DE} (hc : X.calm = true) (hg : Gl X "max") (hm : X.mg "max" = none) (ha : PE X a (MP.tB X.K da)) (hb : PE X b (tV X.K db))
    (he : backTo pos (starEach [a] X.env) = (false, eval a X.env) :: backTo pos (starEach [] X.env) := by rfl) (hpl : (backTo pos (starEach [a] X.env)).any (·.1) = false := by rfl)
    (hall : (backToKw pos (keywordEach [⟨some "default", b, kp⟩] X.env)).all (·.1.isSome) = true := by rfl) (hnone : (backToKw pos (keywordEach [⟨some "default", b, kp⟩] X.env)).any (·.1.isNone) = false := by rfl) (hks : (backToKw pos (keywordEach [⟨some "default", b, kp⟩] X.env)).filterMap (·.1) = [Str.ofString "default"] := by rfl)
    (hs : starEach [a] X.env = (false, eval a X.env) :: starEach [] X.env := by rfl) :
    PE X (.Call (.Name "max" p) [a] [⟨some "default", b, kp⟩] pos) (tV X.K (dOp2 bMaxD da db)) :=
  PE.imp (pe_callBK (cr_maxD hc) hg hm PyProof.Rows.boot_max (pa_cons ha pa_nil hs) (pk_cons hb pk_nil) (by decide) (by decide) he hpl hall hnone hks) fun σ H Q ⟨W, S, H0, env, ok, eo, d, S', h, q⟩ => by
    obtain ⟨x, S1, h1, h2⟩ := bind_ok h
    obtain ⟨y, S2, h3, h4⟩ := bind_ok h2
    refine ⟨W, S, H0, env, ok, eo, x, S1, h1, fun W1 H1 v e1 o1 r1 => ?_⟩
    refine ⟨W1, S1, H0, env, o1, eo.ext e1, y, S2, h3, fun W2 H2 u e2 o2 r2 => ?_⟩
    have ex := e1.trans e2
    unfold bMaxD at h4
    split at h4
    case h_2 => cases h4
    obtain ⟨p, xs, rfl, g1, g2⟩ := (r1.ext e2).lst_inv o2
    split at h4
    · rename_i hn
      cases h4
      obtain rfl := intsOf_rep g2 hn
      exact ⟨p, [], u, rfl, rfl, SqL.of g1, fun _ => q W2 H2 u ex o2 r2, fun z => absurd rfl z⟩
    · rename_i m ms hn
      cases h4
      obtain rfl := intsOf_rep g2 hn
      refine ⟨p, m :: ms, u, rfl, rfl, SqL.of g1, fun z => absurd z (List.cons_ne_nil _ _), fun _ M hM hle => ?_⟩
      obtain ⟨k1, k2, k3⟩ := maxL_spec ms m
      have e : M = maxL m ms := by
        have a1 : maxL m ms ≤ M := by
          rcases k1 with k | k
          · rw [k]; exact hle m List.mem_cons_self
          · exact hle _ (List.mem_cons_of_mem _ k)
        have a2 : M ≤ maxL m ms := by
          rcases List.mem_cons.mp hM with rfl | hM
          · exact k2
          · exact k3 M hM
        omega
      rw [e]
      exact q W2 H2 _ ex o2 (.int _)
    · cases h4
theorem me_minD {kp p : Pos} {da db : DE} (hc : X.calm = true) (hg : Gl X "min") (hm : X.mg "min" = none) (ha : PE X a (MP.tB X.K da)) (hb : PE X b (tV X.K db))
    (he : backTo pos (starEach [a] X.env) = (false, eval a X.env) :: backTo pos (starEach [] X.env) := by rfl) (hpl : (backTo pos (starEach [a] X.env)).any (·.1) = false := by rfl)
    (hall : (backToKw pos (keywordEach [⟨some "default", b, kp⟩] X.env)).all (·.1.isSome) = true := by rfl) (hnone : (backToKw pos (keywordEach [⟨some "default", b, kp⟩] X.env)).any (·.1.isNone) = false := by rfl) (hks : (backToKw pos (keywordEach [⟨some "default", b, kp⟩] X.env)).filterMap (·.1) = [Str.ofString "default"] := by rfl)
    (hs : starEach [a] X.env = (false, eval a X.env) :: starEach [] X.env := by rfl) :
    PE X (.Call (.Name "min" p) [a] [⟨some "default", b, kp⟩] pos) (tV X.K (dOp2 bMinD da db)) :=
  PE.imp (pe_callBK (cr_minD hc) hg hm PyProof.Rows.boot_min (pa_cons ha pa_nil hs) (pk_cons hb pk_nil) (by decide) (by decide) he hpl hall hnone hks) fun σ H Q ⟨W, S, H0, env, ok, eo, d, S', h, q⟩ => by
    obtain ⟨x, S1, h1, h2⟩ := bind_ok h
    obtain ⟨y, S2, h3, h4⟩ := bind_ok h2
    refine ⟨W, S, H0, env, ok, eo, x, S1, h1, fun W1 H1 v e1 o1 r1 => ?_⟩
    refine ⟨W1, S1, H0, env, o1, eo.ext e1, y, S2, h3, fun W2 H2 u e2 o2 r2 => ?_⟩
    have ex := e1.trans e2
    unfold bMinD at h4
    split at h4
    case h_2 => cases h4
    obtain ⟨p, xs, rfl, g1, g2⟩ := (r1.ext e2).lst_inv o2
    split at h4
    · rename_i hn
      cases h4
      obtain rfl := intsOf_rep g2 hn
      exact ⟨p, [], u, rfl, rfl, SqL.of g1, fun _ => q W2 H2 u ex o2 r2, fun z => absurd rfl z⟩
    · rename_i m ms hn
      cases h4
      obtain rfl := intsOf_rep g2 hn
      refine ⟨p, m :: ms, u, rfl, rfl, SqL.of g1, fun z => absurd z (List.cons_ne_nil _ _), fun _ M hM hle => ?_⟩
      obtain ⟨k1, k2, k3⟩ := minL_spec ms m
      have e : M = minL m ms := by
        have a1 : M ≤ minL m ms := by
          rcases k1 with k | k
          · rw [k]; exact hle m List.mem_cons_self
          · exact hle _ (List.mem_cons_of_mem _ k)
        have a2 : minL m ms ≤ M := by
          rcases List.mem_cons.mp hM with rfl | hM
          · exact k2
          · exact k3 M hM
        omega
      rw [e]
      exact q W2 H2 _ ex o2 (.int _)
    · cases h4
/-! ### list(range(..)), tuple(range(..)) -/
def dMkL (di : DA) : DR := fun env S => (di env S).bind fun ds S1 => .ok (.o (.l ds)) S1
def dMkT (di : DA) : DE := fun env S => (di env S).bind fun ds S1 => .ok (.tup ds) S1
theorem rg_rep {K : PySem.W.Frag} {G : Hp} {l : List Addr} (a b : Int) : RepL K G l (rangeD a b) (rgV a b) := by
  unfold rangeD rgV
  generalize List.range (b - a).toNat = r
  induction r with
  | nil => exact .nil
  | cons x xs ih => exact .cons (.int _) ih
theorem me_listRg1 {p p2 q : Pos} {da : DE} (hc : X.calm = true) (hg : Gl X "list") (hm : X.mg "list" = none) (hg2 : Gl X "range") (hm2 : X.mg "range" = none) (ha : PE X a (tV X.K da)) (hs : starEach [a] X.env = (false, eval a X.env) :: starEach [] X.env := by rfl)
    (na : starEach [.Call (.Name "range" p2) [a] [] q] X.env = (false, eval (.Call (.Name "range" p2) [a] [] q) X.env) :: starEach [] X.env := by rfl) : PE X (.Call (.Name "list" p) [.Call (.Name "range" p2) [a] [] q] [] pos) (tR X.K (dMkL (dRange1 da))) :=
  PE.imp (pe_listRg hc hg hm (prg_1 hg2 hm2 ha hs) na) fun σ H Q ⟨W, S, H0, env, ok, eo, d, S', h, q⟩ => by
    obtain ⟨ds, S1, h1, h2⟩ := bind_ok h
    cases h2
    obtain ⟨x, S1, h1, h2⟩ := bind_ok h1
    refine ⟨W, S, H0, env, ok, eo, x, S1, h1, fun W1 H1 v e1 o1 r1 => ?_⟩
    split at h2
    case h_2 => cases h2
    rename_i n
    split at h2
    case isFalse => cases h2
    rename_i hn
    cases h2
    cases r1
    refine ⟨n, rfl, ⟨by omega, by omega, by omega, by omega, by omega⟩, fun p hp => ?_⟩
    obtain ⟨e2, o2, r2⟩ := obj_new (x := .l _) o1 hp (.l (rg_rep 0 n))
    exact q _ _ _ (e1.trans e2) o2 (r2.back fun a h => e1.fresh h)
theorem me_listRg2 {p p2 q : Pos} {da db : DE} (hc : X.calm = true) (hg : Gl X "list") (hm : X.mg "list" = none) (hg2 : Gl X "range") (hm2 : X.mg "range" = none) (ha : PE X a (tV X.K da)) (hb : PE X b (tV X.K db)) (hs : starEach [a, b] X.env = (false, eval a X.env) :: starEach [b] X.env := by rfl) (hs2 : starEach [b] X.env = (false, eval b X.env) :: starEach [] X.env := by rfl)
    (na : starEach [.Call (.Name "range" p2) [a, b] [] q] X.env = (false, eval (.Call (.Name "range" p2) [a, b] [] q) X.env) :: starEach [] X.env := by rfl) (hp : (backTo q (starEach [b] X.env)).any (·.1) = false := by rfl) : PE X (.Call (.Name "list" p) [.Call (.Name "range" p2) [a, b] [] q] [] pos) (tR X.K (dMkL (dRange2 da db))) :=
  PE.imp (pe_listRg hc hg hm (prg_2 hg2 hm2 ha hb hs hs2 hp) na) fun σ H Q ⟨W, S, H0, env, ok, eo, d, S', h, q⟩ => by
    obtain ⟨ds, S1, h1, h2⟩ := bind_ok h
    cases h2
    obtain ⟨x, S1, h1, h2⟩ := bind_ok h1
    obtain ⟨y, S2, h3, h4⟩ := bind_ok h2
    refine ⟨W, S, H0, env, ok, eo, x, S1, h1, fun W1 H1 v e1 o1 r1 => ?_⟩
    refine ⟨W1, S1, H0, env, o1, eo.ext e1, y, S2, h3, fun W2 H2 u e2 o2 r2 => ?_⟩
    split at h4
    case h_2 => cases h4
    rename_i m n
    split at h4
    case isFalse => cases h4
    rename_i hn
    cases h4
    cases r1
    cases r2
    refine ⟨m, n, rfl, rfl, ⟨by omega, by omega, by omega, by omega, by omega⟩, fun p hp => ?_⟩
    obtain ⟨e3, o3, r3⟩ := obj_new (x := .l _) o2 hp (.l (rg_rep m n))
    exact q _ _ _ ((e1.trans e2).trans e3) o3 (r3.back fun a h => (e1.trans e2).fresh h)
theorem me_tupRg1 {p p2 q : Pos} {da : DE} (hc : X.calm = true) (hg : Gl X "tuple") (hm : X.mg "tuple" = none) (hg2 : Gl X "range") (hm2 : X.mg "range" = none) (ha : PE X a (tV X.K da)) (hs : starEach [a] X.env = (false, eval a X.env) :: starEach [] X.env := by rfl)
    (na : starEach [.Call (.Name "range" p2) [a] [] q] X.env = (false, eval (.Call (.Name "range" p2) [a] [] q) X.env) :: starEach [] X.env := by rfl) : PE X (.Call (.Name "tuple" p) [.Call (.Name "range" p2) [a] [] q] [] pos) (tV X.K (dMkT (dRange1 da))) :=
  PE.imp (pe_tupRg hc hg hm (prg_1 hg2 hm2 ha hs) na) fun σ H Q ⟨W, S, H0, env, ok, eo, d, S', h, q⟩ => by
    obtain ⟨ds, S1, h1, h2⟩ := bind_ok h
    cases h2
    obtain ⟨x, S1, h1, h2⟩ := bind_ok h1
    refine ⟨W, S, H0, env, ok, eo, x, S1, h1, fun W1 H1 v e1 o1 r1 => ?_⟩
    split at h2
    case h_2 => cases h2
    rename_i n
    split at h2
    case isFalse => cases h2
    rename_i hn
    cases h2
    cases r1
    refine ⟨n, rfl, ⟨by omega, by omega, by omega, by omega, by omega⟩, fun p hp => ?_⟩
    obtain ⟨e2, o2, r2⟩ := tup_new o1 hp (rg_rep 0 n)
    exact q _ _ _ (e1.trans e2) o2 r2
/-! ### {} -/
def dNewK : DR := fun _ S => .ok (.o (.k [] [])) S
def dNewT : DR := fun _ S => .ok (.o (.t [] [])) S
theorem me_newK : PE X (.Dict [] [] pos) (tR X.K dNewK) := PE.imp pe_dnewK fun σ H Q ⟨W, S, H0, env, ok, eo, d, S', h, q⟩ => by
  cases h
  intro p hp
  obtain ⟨e2, o2, r2⟩ := obj_new (x := .k [] []) ok hp (.k (kvs := []) rfl .nil)
  exact q _ _ _ e2 o2 r2
theorem me_newT : PE X (.Dict [] [] pos) (tR X.K dNewT) := PE.imp pe_dnewT fun σ H Q ⟨W, S, H0, env, ok, eo, d, S', h, q⟩ => by
  cases h
  intro p hp
  obtain ⟨e2, o2, r2⟩ := obj_new (x := .t [] []) ok hp (.t (kvs := []) rfl .nil)
  exact q _ _ _ e2 o2 r2
/-! ### x[i] = v, x a slot's list -/
def dIxL (ds : List D) (i : Int) : Option Nat := if 0 ≤ i then (if i.toNat < ds.length then some i.toNat else none) else if -(ds.length : Int) ≤ i then some (i + ds.length).toNat else none
def fPut (i v : D) : List D → Option (List D) := fun ds => match i with
  | .int k => (dIxL ds k).map fun j => ds.set j v
  | _ => none
def dPutL (i : Nat) (di dv : DE) : DS := fun env S => match dv env S with
  | .ok v S1 => if listSlot i env S1 = true then (match di env S1 with
    | .ok k S2 => mutL i (fPut k v) env S2
    | .xn c x S2 => .xn c x S2
    | .bad => .bad) else .bad
  | .xn c x S1 => .xn c x S1
  | .bad => .bad
theorem dIxL_ix {K : PySem.W.Frag} {G : Hp} {l : List Addr} {ds : List D} {xs : List V} {i : Int} {j : Nat} (r : RepL K G l ds xs) (h : dIxL ds i = some j) : ixN xs.length i = some j := by
  have hl := r.length
  unfold dIxL at h
  unfold ixN
  split at h
  · rename_i c
    split at h
    case isFalse => cases h
    rename_i c2
    cases h
    rw [if_pos c, if_pos (by omega)]
  · rename_i c
    split at h
    case isFalse => cases h
    rename_i c2
    cases h
    rw [if_neg c, if_pos (by omega), hl]
theorem ms_putL (i : Nat) {x : Str} {ix : Expr} {p1 p2 : Pos} {di dv : DE} (hv : PE X e (tV X.K dv)) (hi : PE X ix (tV X.K di)) (hN : X.N[i]? = some x := by rfl) (hvis : Vis X.env.scope x := by first | exact Or.inl rfl | exact Or.inr (Or.inl rfl) | exact Or.inr (Or.inr rfl)) (hd : (x == ("__debug__" : Str)) = false := by decide)
    (hcd : (x == ("__classdict__" : Str)) = false := by decide) (ha : ∀ v, assign (.Subscript (.Name x p1) ix p2) X.env v = (do
      let ov ← holding [v] (eval (.Name x p1) X.env)
      let iv ← holding [v, ov] (eval ix X.env)
      standAt p2
      holding [v, ov, iv] (setItem ov iv v)
      release [v, ov, iv] []) := by intro _; rfl)
    (hs : swapsWithSole [.Subscript (.Name x p1) ix p2] e pos.line X.env = pure false := by rfl) (hw : swappedStores [.Subscript (.Name x p1) ix p2] e X.env = pure none := by rfl)
    (h1 : (assignEach [.Subscript (.Name x p1) ix p2] X.env).map (·.2) = [assign (.Subscript (.Name x p1) ix p2) X.env] := by rfl) :
    PS X (.Assign [.Subscript (.Name x p1) ix p2] e pos) (tS X.K (dPutL i di dv)) := PS.imp (ps_asg hv (pg_sub (pe_var hN hvis hd hcd) hi set_list ha) hs hw h1) fun D σ H ⟨W0, H0, W, S, env, s, q⟩ => by
  unfold dPutL at q
  cases hv : dv env S with
  | xn c x S1 => rw [hv] at q; exact q.elim
  | bad => rw [hv] at q; exact q.elim
  | ok v S1 =>
    rw [hv] at q
    refine ⟨W, S, H0, env, s.ok, s.env, v, S1, hv, fun W1 H1 u e1 o1 r1 => ?_⟩
    have q : OutOk X.K W0 H0 W D (if listSlot i env S1 = true then (match di env S1 with
      | .ok k S2 => mutL i (fPut k v) env S2
      | .xn c x S2 => .xn c x S2
      | .bad => .bad) else .bad) := q
    split at q
    case isFalse => exact q.elim
    rename_i hl
    have s1 := s.step e1 o1
    obtain ⟨p, xs, g1, g2⟩ := list_slot o1 s1.env hl
    refine ⟨.ref p, g1, ?_⟩
    cases hk : di env S1 with
    | xn c x S1 => rw [hk] at q; exact q.elim
    | bad => rw [hk] at q; exact q.elim
    | ok k S2 =>
      rw [hk] at q
      refine ⟨W1, S1, H0, env, o1, s1.env, k, S2, hk, fun W2 H2 y e2 o2 r2 => ?_⟩
      obtain ⟨p', ds, xs', ds', k1, k2, k3, k4, k5⟩ := mut_of (s1.step e2 o2) (e1.trans e2).gr q
      rw [g1] at k1
      cases k1
      unfold fPut at k4
      split at k4
      case h_2 => cases k4
      rename_i n
      obtain ⟨j, hj, rfl⟩ := Option.map_eq_some_iff.mp k4
      cases r2
      exact ⟨p, xs', n, j, rfl, rfl, k2, dIxL_ix k3 hj, k5 _ (k3.set (r1.ext e2) j)⟩
/-! ### x[k] = v, x a slot's own dict -/
def dictSlot (i : Nat) (env : Envm) : Bool := match env[i]? with
  | some (.ow (.k _ _)) => true
  | some (.ow (.t _ _)) => true
  | _ => false
def putO (k v : D) : O → Option O
  | .k ks ds => (MP.keyOf k).bind fun q => if ks.length < 100000 then some (.k (putKs ks q) (putDs ks ds q v)) else none
  | .t ks ds => (MP.keysOf k).bind fun q => if ks.length < 100000 then some (.t (putKs ks q) (putDs ks ds q v)) else none
  | _ => none
def dPutD (i : Nat) (dk dv : DE) : DS := fun env S => match dv env S with
  | .ok v S1 => (match dk env S1 with
    | .ok k S2 => (match env[i]? with
      | some (.ow o) => (match putO k v o with
        | some o' => .nx (env.set i (.ow o')) S2
        | none => .bad)
      | _ => .bad)
    | .xn c x S2 => .xn c x S2
    | .bad => .bad)
  | .xn c x S1 => .xn c x S1
  | .bad => .bad
theorem ms_putD (i : Nat) {x : Str} {ix : Expr} {p1 p2 : Pos} {dk dv : DE} (hu : X.A.units + 1 < cLine) (hv : PE X e (tV X.K dv)) (hi : PE X ix (tV X.K dk)) (hN : X.N[i]? = some x := by rfl) (hvis : Vis X.env.scope x := by first | exact Or.inl rfl | exact Or.inr (Or.inl rfl) | exact Or.inr (Or.inr rfl)) (hd : (x == ("__debug__" : Str)) = false := by decide)
    (hcd : (x == ("__classdict__" : Str)) = false := by decide) (hs : swapsWith e (some (.Subscript (.Name x p1) ix p2)) pos.line X.env = pure false := by rfl) :
    PS X (.Assign [.Subscript (.Name x p1) ix p2] e pos) (tS X.K (dPutD i dk dv)) := PS.imp (ps_dput hu (pe_var hN hvis hd hcd) hi hv hs) fun D σ H ⟨W0, H0, W, S, env, s, q⟩ => by
  unfold dPutD at q
  cases hv : dv env S with
  | xn c x S1 => rw [hv] at q; exact q.elim
  | bad => rw [hv] at q; exact q.elim
  | ok v S1 =>
    rw [hv] at q
    refine ⟨W, S, H0, env, s.ok, s.env, v, S1, hv, fun W1 H1 u e1 o1 r1 => ?_⟩
    have q : OutOk X.K W0 H0 W D (match dk env S1 with
    | .ok k S2 => (match env[i]? with
      | some (.ow o) => (match putO k v o with
        | some o' => .nx (env.set i (.ow o')) S2
        | none => .bad)
      | _ => .bad)
    | .xn c x S2 => .xn c x S2
    | .bad => .bad) := q
    have s1 := s.step e1 o1
    cases hk : dk env S1 with
    | xn c x S1 => rw [hk] at q; exact q.elim
    | bad => rw [hk] at q; exact q.elim
    | ok k S2 =>
      rw [hk] at q
      have q : OutOk X.K W0 H0 W D (match env[i]? with
      | some (.ow o) => (match putO k v o with
        | some o' => .nx (env.set i (.ow o')) S2
        | none => .bad)
      | _ => .bad) := q
      split at q
      case h_2 => exact q.elim
      rename_i o ho
      split at q
      case h_2 => exact q.elim
      rename_i o' hp
      obtain ⟨ov, g1, p, u', rfl, g2, g3, g4, g5, g6⟩ := s1.env.at ho
      refine ⟨.ref p, g1, W1, S1, H0, env, o1, s1.env, k, S2, hk, fun W2 H2 y e2 o2 r2 => ?_⟩
      have s2 := s1.step e2 o2
      obtain ⟨k1, k2, k3⟩ := e2.out g2 g3.nt g4 g5
      have k4 := g3.mono e2.g e2.r
      cases o with
      | l _ => cases hp
      | fk _ _ => cases hp
      | ft _ _ => cases hp
      | k ks ds =>
        obtain ⟨kk, hkk, hp⟩ := Option.bind_eq_some_iff.mp hp
        split at hp
        case isFalse => cases hp
        rename_i hlen
        cases hp
        cases k4 with
        | @k _ _ kvs m1 m2 =>
          obtain rfl := key_rep (H := H2) (.inl r2) hkk
          obtain ⟨n1, n2⟩ := put_rep (q := kk) m1 m2 (r1.ext e2)
          refine ⟨p, _, rfl, DPut.k k1 (by rw [← List.length_map (f := (·.1)), m1]; exact Nat.lt_of_lt_of_le hlen (le_sizeLine (Nat.le_refl _))), ?_⟩
          exact q W2 _ σ (s2.own ho g1 (.k n1 n2)) (e1.trans e2).gr
      | t ks ds =>
        obtain ⟨kk, hkk, hp⟩ := Option.bind_eq_some_iff.mp hp
        split at hp
        case isFalse => cases hp
        rename_i hlen
        cases hp
        cases k4 with
        | @t _ _ kvs m1 m2 =>
          obtain ⟨pb, rfl, hb⟩ := keys_rep (.inl r2) o2 hkk
          obtain ⟨n1, n2⟩ := put_rep (q := kk) m1 m2 (r1.ext e2)
          refine ⟨p, _, rfl, DPut.t k1 hb (by rw [← List.length_map (f := (·.1)), m1]; exact Nat.lt_of_lt_of_le hlen (le_sizeLine (Nat.le_refl _))), ?_⟩
          exact q W2 _ σ (s2.own ho g1 (.t n1 n2)) (e1.trans e2).gr
end
end MP

namespace MP
open PySem PySem.Spec PyProof.Rows L2
/-! ### the defs of a text, one table -/
structure FD where
  x : Str
  m : Nat
  k : Nat
  b : Calls → DS
def startE (k : Nat) (ds : List D) : Envm := ds.map Sl.va ++ List.replicate (k - ds.length) .no
def finO : Out → Res R
  | .nx _ S => .ok (.v .non) S
  | .rt r S => .ok r S
  | .xn c x S => .xn c x S
  | _ => .bad
def callF (C : Calls) (d : FD) (ds : List D) (S : Sto) : Res R := if ds.length = d.m then finO (d.b C (startE d.k ds) S) else .bad
abbrev Tb := Nat → Option FD
def callN (B : Tb) : Nat → Calls
  | 0 => fun _ _ _ => .bad
  | n + 1 => fun f ds S => match B f with
    | some d => callF (callN B n) d ds S
    | none => .bad
theorem callN_eq {B : Tb} {n f : Nat} {d : FD} {ds : List D} {S : Sto} (h : B f = some d) : callN B (n + 1) f ds S = callF (callN B n) d ds S := by
  show (match B f with
    | some d => callF (callN B n) d ds S
    | none => .bad) = _
  rw [h]
def tabOf (B : Tb) : Nat → Option (Str × Nat) := fun f => (B f).map fun d => (d.x, d.m)
theorem start_ok {K : PySem.W.Frag} {W : Wd} {S : Sto} {H : Hp} {ds : List D} {vs : List V} {N : List Str} (r : RepL K W.G W.r ds vs) : EnvOk K W H H (startE N.length ds) (L2.start N vs) := by
  have hl := r.length
  have e1 : (startE N.length ds).length = (L2.start N vs).length := by
    unfold startE L2.start
    simp [hl]
  refine ⟨e1, fun i s o h1 h2 => ?_, fun i j x y a h1 h2 h3 h4 => ?_⟩
  · unfold startE at h1
    unfold L2.start at h2
    by_cases hi : i < ds.length
    · rw [List.getElem?_append_left (by simpa using hi), List.getElem?_map] at h1
      rw [List.getElem?_append_left (by rw [List.length_map]; omega), List.getElem?_map] at h2
      obtain ⟨d, g1, rfl⟩ := Option.map_eq_some_iff.mp h1
      obtain ⟨v, g2, g3⟩ := r.get g1
      rw [g2] at h2
      cases h2
      exact ⟨v, rfl, g3⟩
    · rw [List.getElem?_append_right (by simpa using hi)] at h1
      rw [List.getElem?_replicate] at h1
      split at h1
      · cases h1; trivial
      · cases h1
  · unfold startE at h1
    by_cases hi : i < ds.length
    · rw [List.getElem?_append_left (by simpa using hi), List.getElem?_map] at h1
      obtain ⟨d, g1, g2⟩ := Option.map_eq_some_iff.mp h1
      cases g2
    · rw [List.getElem?_append_right (by simpa using hi)] at h1
      rw [List.getElem?_replicate] at h1
      split at h1 <;> cases h1
abbrev XF (P : Program) (w : World) (K : PySem.W.Frag) (mg : Str → Option Value) (base : Heap) (N : List Str) (qual : Str) (scope : Scope) (f : Addr) (cdv : Value) (A : Around) (outer : List Env) (s : Shared) (H : Hp) (E : XK) : Cx := (cxOf CX0 P w K mg base N qual scope f cdv A outer s H E).nox
section
variable {P : Program} {w : World} {K : PySem.W.Frag} {mg : Str → Option Value} {base : Heap} {B : Tb}
theorem fn_step {n i : Nat} {d : FD} {qual x : Str} {params : Arguments} {body : List Stmt} {scope : Scope} {f : Addr} {fd : FuncData} {N ps : List Str} (F : FunD K x qual params body scope [] [] f fd) (S : FnScope N ps scope) (hi : B i = some d) (hm : ps.length = d.m) (hk : N.length = d.k)
    (hb : ∀ (cdv : Value) (A : Around) (outer : List Env) (s : Shared) (H : Hp) (E : XK), Room n (A.deeper (envOfC qual scope s.heap.objs.size f cdv)) → PSs (XF P w K mg base N qual scope f cdv A outer s H E) body (tS K (d.b (callN B n)))) :
    FnOk P w K mg base CX0 (n + 1) f fd ps (spC K (callN B (n + 1)) i d.m) := by
  refine F.ok S (fun vs H Q E h => h.1.trans hm.symm) fun cdv A outer s H vs Q E hr h => ⟨tS K (d.b (callN B n)), PSs.nox (hb cdv A outer s H E hr), ?_⟩
  obtain ⟨hl, W, S0, ds, r, S', ok, rep, hc, q⟩ := h
  have hc : (match B i with
    | some d => callF (callN B n) d ds S0
    | none => .bad) = .ok r S' := hc
  rw [hi] at hc
  have hc : callF (callN B n) d ds S0 = .ok r S' := hc
  unfold callF at hc
  split at hc
  case isFalse => cases hc
  have e0 := start_ok (S := S0) (H := H) (N := N) rep
  rw [hk] at e0
  refine ⟨W, H, W, S0, startE d.k ds, ⟨Ext.refl _ _, ok, e0⟩, ?_⟩
  cases ho : d.b (callN B n) (startE d.k ds) S0 with
  | nx e S1 =>
    rw [ho] at hc
    cases hc
    exact fun W1 H1 σ s1 _ => q W1 H1 .non s1.ext s1.ok .non
  | rt r1 S1 =>
    rw [ho] at hc
    cases hc
    exact fun W1 H1 v e1 o1 r1 => q W1 H1 v e1 o1 r1
  | xn c x S1 => rw [ho] at hc; cases hc
  | bk e S1 => rw [ho] at hc; cases hc
  | ct e S1 => rw [ho] at hc; cases hc
  | bad => rw [ho] at hc; cases hc
/-- a def of the text by its place in the table, by name, with its address -/
structure DefOk (P : Program) (w : World) (K : PySem.W.Frag) (mg : Str → Option Value) (base : Heap) (B : Tb) (i : Nat) (d : FD) : Prop where
  ex : ∃ (a : Addr) (fd : FuncData) (ps : List Str), mg d.x = some (.ref a) ∧ PySem.W.keepIn K (.ref a) = true ∧ Binds K fd ps [] ∧ ps.length = d.m ∧
    ∀ n, (∀ A, Room n A → Fx P w K mg base A n (tabOf B) (callN B n)) → FnOk P w K mg base CX0 (n + 1) a fd ps (spC K (callN B (n + 1)) i d.m)
theorem ar_ok {n : Nat} : ∀ f x m ds S r S', tabOf B f = some (x, m) → callN B n f ds S = .ok r S' → ds.length = m := fun f x m ds S r S' h1 h2 => by
  unfold tabOf at h1
  obtain ⟨d, g1, g2⟩ := Option.map_eq_some_iff.mp h1
  cases g2
  cases n with
  | zero => cases h2
  | succ n =>
    have h2 : (match B f with
      | some d => callF (callN B n) d ds S
      | none => .bad) = .ok r S' := h2
    rw [g1] at h2
    have h2 : callF (callN B n) d ds S = .ok r S' := h2
    unfold callF at h2
    split at h2
    · assumption
    · cases h2
theorem all_ok (h : ∀ i d, B i = some d → DefOk P w K mg base B i d) : ∀ n A, Room n A → Fx P w K mg base A n (tabOf B) (callN B n) := by
  intro n
  induction n with
  | zero =>
    intro A hr
    refine ⟨hr, ar_ok, fun f x m hT => ?_⟩
    unfold tabOf at hT
    obtain ⟨d, g1, g2⟩ := Option.map_eq_some_iff.mp hT
    cases g2
    obtain ⟨a, fd, ps, h1, h2, h3, h4, h5⟩ := (h f d g1).ex
    exact ⟨a, fd, ps, h1, h2, h3, h4, fun vs H Q E q => q.1.trans h4.symm, fun A outer s H args us vs Q E _ _ _ _ ⟨_, W, S, ds, r, S', _, _, z, _⟩ => nomatch z⟩
  | succ n ih =>
    intro A hr
    refine ⟨hr, ar_ok, fun f x m hT => ?_⟩
    unfold tabOf at hT
    obtain ⟨d, g1, g2⟩ := Option.map_eq_some_iff.mp hT
    cases g2
    obtain ⟨a, fd, ps, h1, h2, h3, h4, h5⟩ := (h f d g1).ex
    exact ⟨a, fd, ps, h1, h2, h3, h4, h5 n ih⟩
end
theorem units_of {n : Nat} {A : Around} (r : Room n A) : A.units + 200 < cLine := by have := r.un; omega
theorem po_nox {M : Model} {A : Around} {env : Env} : PassesOwn M A env (fun _ _ => False) := PassesOwn.never
/-- a new object in an argument is shared -/
def shE (dr : DR) : DE := fun env S => match dr env S with
  | .ok (.o x) S1 => .ok (.loc S1.length) (S1 ++ [x])
  | .ok (.v d) S1 => .ok d S1
  | .xn c x S1 => .xn c x S1
  | .bad => .bad
theorem pe_she {X : Cx} {e : Expr} {dr : DR} (h : PE X e (tR X.K dr)) : PE X e (tV X.K (shE dr)) := PE.imp h fun σ H Q ⟨W, S, H0, env, ok, eo, d, S', h, q⟩ => by
  unfold shE at h
  cases hr : dr env S with
  | xn c x S1 => rw [hr] at h; cases h
  | bad => rw [hr] at h; cases h
  | ok r S1 =>
    rw [hr] at h
    refine ⟨W, S, H0, env, ok, eo, r, S1, hr, fun W1 H1 v e1 o1 r1 => ?_⟩
    cases r with
    | v d =>
      cases h
      exact q W1 H1 v e1 o1 r1
    | o y =>
      cases h
      obtain ⟨a, u, rfl, z1, z2, z3, z4, z5⟩ := r1
      obtain ⟨f1, f2⟩ := share o1 z1 z2 z3 z4
      have x1 : Ext W H ⟨W1.G, W1.r ++ [a]⟩ H1 := ⟨e1.g, e1.r.trans ⟨[a], rfl⟩, e1.gn, fun b hb => by
        rcases List.mem_append.mp hb with z | z
        · exact e1.rn b z
        · have : b = a := by simpa using z
          rw [this]
          exact .inr z5, e1.h, e1.k⟩
      exact q _ H1 _ x1 f1 f2
/-! ### a comprehension's scope, checked -/
def blkB (N : List Str) (sc scope : Scope) (own : List (Str × Nat)) : Bool :=
  (match scope.kind with | .function => true | _ => false) && scope.names.all (fun y => scope.names.lookup y.1 == some y.2) && own.all (fun p => N[p.2]? == some p.1) &&
  scope.names.all (fun y => y.2 != .free || (sc.names.lookup y.1 == some .cell || sc.names.lookup y.1 == some .free)) &&
  scope.names.all (fun y => !(y.2 == .local || y.2 == .cell) || (own.any (fun p => p.1 == y.1) || !N.contains y.1))
theorem blk_of {N : List Str} {sc scope : Scope} {own : List (Str × Nat)} (h : blkB N sc scope own = true) : BlkOk N sc scope own := by
  unfold blkB at h
  simp only [Bool.and_eq_true, List.all_eq_true] at h
  obtain ⟨⟨⟨⟨h1, h2⟩, h3⟩, h4⟩, h5⟩ := h
  refine ⟨?_, fun y hy => ?_, fun p hp => ?_, fun y hy e => ?_, fun y hy e => ?_⟩
  · cases hk : scope.kind <;> rw [hk] at h1 <;> first | rfl | cases h1
  · simpa using h2 y hy
  · simpa using h3 p hp
  · have := h4 y hy
    rw [e] at this
    simpa using this
  · have := h5 y hy
    rcases e with e | e <;> rw [e] at this <;> simpa using this
/-! ### the law -/
theorem law_sp {K : PySem.W.Frag} {C : Calls} {f : Nat} {ns : List Int} {H : Hp} {a : Addr} {E : XK} (h : ∃ S', C f [.scr ns] [] = .ok (.v (.bl true)) S') (hS : SqL K H a (ns.map V.int)) : spC K C f 1 [.ref a] H (fun v _ => v = .bl true) E := by
  obtain ⟨S', h⟩ := h
  refine ⟨rfl, ⟨H, []⟩, [], [.scr ns], .v (.bl true), S', ⟨SubH.refl _, List.nodup_nil, rfl, fun n x e => by simp at e, fun b hb => by cases hb⟩, .cons (.scr hS) .nil, h, fun W' H' v _ _ r => ?_⟩
  cases (show Rep K W'.G W'.r (.bl true) v from r)
  rfl
end MP

namespace MP
open PySem PySem.Spec PyProof.Rows L2
section
variable {X : Cx} {e a b : Expr} {pos : Pos}
/-! ### dict(zip(ks, vs)) of two lists -/
def dDictZip (da db : DE) : DR := fun env S => (da env S).bind fun x S1 => (db env S1).bind fun y S2 => match x, y with
  | .lst ks, .lst vs => (match keysOfL ks with
    | some qs => .ok (.o (.k (putAll (qs.zip vs) [] []).1 (putAll (qs.zip vs) [] []).2)) S2
    | none => .bad)
  | _, _ => .bad
theorem zip_rep {K : PySem.W.Frag} {G : Hp} {l : List Addr} : ∀ {qs : List Key} {ds : List D} {xs : List V}, RepL K G l ds xs → (qs.zip xs).map (·.1) = (qs.zip ds).map (·.1) ∧ RepL K G l ((qs.zip ds).map (·.2)) ((qs.zip xs).map (·.2))
  | [], _, _, _ => ⟨rfl, .nil⟩
  | q :: qs, _, _, .nil => ⟨rfl, .nil⟩
  | q :: qs, _, _, .cons a b => by
    obtain ⟨h1, h2⟩ := zip_rep (qs := qs) b
    exact ⟨by simp only [List.zip_cons_cons, List.map_cons]; rw [h1], .cons a h2⟩
theorem kv_zip : ∀ {qs : List Key} {xs : List V} {us : List Value}, Vals xs us → KV (qs.zip xs) (qs.zip us)
  | [], _, _, _ => .nil
  | q :: qs, _, _, .nil => .nil
  | q :: qs, _, _, .cons r t => .cons ⟨rfl, r⟩ (kv_zip t)
theorem keyV_is {P : Program} {w : World} {k : Key} {u : Value} (r : RelV (kV k) u) : (mixKind P w).is k u = true := by
  cases k with
  | inl i =>
    obtain ⟨t, rfl⟩ := r
    exact intKind_is P w i t
  | inr x =>
    obtain ⟨t, rfl⟩ := r
    simp [mixKind, keyIs, Value.isStrOf]
theorem me_dictZip {p p2 q : Pos} {da db : DE} (hc : X.calm = true) (hg : Gl X "dict") (hm : X.mg "dict" = none) (hg2 : Gl X "zip") (hm2 : X.mg "zip" = none) (ha : PE X a (MP.tB X.K da)) (hb : PE X b (MP.tB X.K db))
    (na : starEach [a, b] X.env = (false, eval a X.env) :: starEach [b] X.env := by rfl) (nb : starEach [b] X.env = (false, eval b X.env) :: starEach [] X.env := by rfl) (hpl : (backTo q (starEach [b] X.env)).any (·.1) = false := by rfl)
    (n1 : starEach [.Call (.Name "zip" p2) [a, b] [] q] X.env = (false, eval (.Call (.Name "zip" p2) [a, b] [] q) X.env) :: starEach [] X.env := by rfl) :
    PE X (.Call (.Name "dict" p) [.Call (.Name "zip" p2) [a, b] [] q] [] pos) (tR X.K (dDictZip da db)) := by
  refine ⟨fun pins s σ H Q I ⟨W, S, H0, env, ok, eo, d, S', h, q⟩ => ?_⟩
  obtain ⟨d1, S1, h1, h2⟩ := bind_ok h
  obtain ⟨d2, S2, h3, h4⟩ := bind_ok h2
  split at h4
  case h_2 => cases h4
  rename_i ks vs
  split at h4
  case h_2 => cases h4
  rename_i qs hq
  cases h4
  refine Call_ (ld_blt I hg hm PyProof.Rows.boot_dict ?_)
  refine PyProof.Rows.callWith_type1 (PyProof.Rows.args_cons ?_ n1) n1 rfl
  refine Call_ (ld_blt I hg2 hm2 PyProof.Rows.boot_zip ?_)
  refine PyProof.Rows.callWith_type1 (PyProof.Rows.args_cons (thn (ha.run pins s σ H (fun v H1 => ∃ W1, Ext W H W1 H1 ∧ WOk X.K W1 S1 H1 ∧ RepB X.K W1 H1 (.lst ks) v) I ⟨W, S, H0, env, ok, eo, _, S1, h1, fun W1 H1 v e1 o1 r1 => ⟨W1, e1, o1, r1⟩⟩) fun v s1 ⟨x, H1, I1, r1, W1, e1, o1, rb⟩ =>
    PyProof.Rows.args_cons (thn (hb.run pins s1 σ H1 (fun v H2 => ∃ W2, Ext W1 H1 W2 H2 ∧ WOk X.K W2 S' H2 ∧ RepB X.K W2 H2 (.lst vs) v) I1 ⟨W1, S1, H0, env, o1, eo.ext e1, _, S', h3, fun W1 H1 v e1 o1 r1 => ⟨W1, e1, o1, r1⟩⟩) fun v2 s2 ⟨x2, H2, I2, r2, W2, e2, o2, rb2⟩ => PyProof.Rows.args_nil ?_) nb) na) na hpl
  obtain ⟨l1, xs, rfl, g1, g2⟩ := (rb.ext e2).lst_inv o2
  obtain ⟨l2, ys, rfl, g3, g4⟩ := rb2.lst_inv o2
  cases r1
  cases r2
  obtain ⟨its, rv, pl1, hz1⟩ := I2.list (SqL.of g1)
  obtain ⟨its2, rv2, pl2, hz2⟩ := I2.list (SqL.of g3)
  have la : l1 < s2.heap.objs.size := pl1.lt
  have lb : l2 < s2.heap.objs.size := pl2.lt
  refine call_zip_2 pl1.isList pl2.isList fun h' hz hTI hTO i1 i2 hsz hk => PyProof.Rows.args_nil ?_
  obtain rfl := keysL_rep (H := H2) g2 hq
  have hql : qs.length = its.length := by rw [← rv.length, List.length_map]
  have hpairs : PairsHave (mixKind X.prog X.w) (min its.toArray.size its2.toArray.size) (fun i k v => its.toArray[i]? = some k ∧ its2.toArray[i]? = some v) (qs.zip its2) := by
    refine ⟨by rw [List.length_zip, List.size_toArray, List.size_toArray, hql], fun i k v hkv => ?_⟩
    obtain ⟨k1, k2⟩ := hkv
    rw [List.getElem?_toArray] at k1 k2
    have hi := (List.getElem?_eq_some_iff.mp k1).1
    have hi' : i < qs.length := by omega
    refine ⟨qs[i], ?_, ?_⟩
    · rw [List.getElem?_zip_eq_some]
      exact ⟨List.getElem?_eq_getElem hi', k2⟩
    · have e1 : (qs.map kV)[i]? = some (kV qs[i]) := by rw [List.getElem?_map, List.getElem?_eq_getElem hi']; rfl
      obtain ⟨u, hu, ru⟩ := rv.get e1
      rw [k1] at hu
      cases hu
      exact keyV_is ru
  refine PySem.call_dict_pairs (knd := mixKind X.prog X.w) (PairArg.zip _ _ _ _ _ l1 l2 (PySem.W.ktu_apart s2.heap.objs.size l1 l2 la lb) its.toArray its2.toArray) (s := { s2 with heap := h' }) (I2.ok.hd hc)
    ⟨hz, hTI, ⟨_, _, hTO⟩, i1, i2, pl1.isList.at fun o e => hk _ _ e, pl2.isList.at fun o e => hk _ _ e⟩ hpairs (by rw [List.size_toArray]; rw [rv.length] at hz1; omega) fun h2 tk hd' hk2 => ?_
  obtain ⟨m1, m2⟩ := zip_rep (qs := qs) g4
  obtain ⟨n1, n2⟩ := merge_rep (acc := []) (ks := []) (ds := []) m1 m2 rfl .nil
  have hp : H2 h'.objs.size = none := I2.hok.fresh (by omega)
  obtain ⟨e3, o3, r3⟩ := obj_new (x := .k _ _) o2 hp (.k n1 n2)
  have hkeep : ∀ b o, s2.heap.get? b = some o → h2.get? b = some o := fun b o e => by
    have hb := Heap.lt_size e
    refine hk2 b o (fun z => ?_) (hk b o e)
    have z : b = s2.heap.objs.size + 4 ∨ b = s2.heap.objs.size + 3 ∨ b = s2.heap.objs.size ∨ b = s2.heap.objs.size + 1 := by simpa using z
    have hb : (b : Nat) < s2.heap.objs.size := hb
    rcases z with rfl | rfl | rfl | rfl <;> exact absurd hb (by first | exact Nat.lt_irrefl _ | exact Nat.not_lt.mpr (Nat.le_add_right _ _))
  have hm' : (h'.objs.size == sysModules) = false := beq_eq_false_iff_ne.mpr (Nat.ne_of_gt (Nat.lt_of_lt_of_le I2.big (by rw [hsz]; exact Nat.le_add_right _ _)))
  have hlen : (mergeK [] (qs.zip ys)).length ≤ sizeLine := by
    refine Nat.le_trans (length_mergeK _ []) ?_
    rw [List.length_nil, Nat.zero_add, List.length_zip]
    omega
  exact ⟨.ref h'.objs.size, upd H2 h'.objs.size (.dK (mergeK [] (qs.zip ys))), I2.laid (t' := tk) hkeep (by omega) (show ObjOk X.prog X.w _ _ _ (.dK (mergeK [] (qs.zip ys))) from ⟨hlen, hm', merged [] (qs.zip its2), KV.merge (kv_zip rv2) .nil, hd'⟩), rfl,
    q _ _ _ ((e1.trans e2).trans e3) o3 (r3.back fun a h => (e1.trans e2).fresh h)⟩
end
end MP

namespace MP
open PySem PySem.Spec PyProof.Rows L2
/-! ### enumerate(x), x a tuple -/
abbrev enOb (it : Addr) : Obj := { cls := .type "enumerate", data := .fields #[.none, .bool false, .ref it, rawInt 0, .none, .none] }
theorem enum_new1 {a : Addr} {ob : Obj} {Hh : Heap → Prop} (Bg : Begins (.ref a) ob Hh) : Meets (Builtin.«enumerate.__new__» ⟨[.type "enumerate", .ref a], []⟩) (fun _ R s => Hh s.heap ∧ R (.ok (.ret (.ref (s.heap.push ob).objs.size))) { s with heap := (s.heap.push ob).push (enOb s.heap.objs.size) }) :=
  .of_wp fun prog w A R s h => by
    obtain ⟨hp, g, d, tk, os⟩ := s
    obtain ⟨h1, h⟩ := h
    have hsub := sub_enumerate
    have q1 : ∀ {A' : Around} {E : Value → Shared → Prop} {Q : Value → Shared → Prop}, Q (.ref hp.objs.size) ⟨hp.push ob, g, d, tk, os⟩ → wpAny (model prog w) A' (pyIter (.ref a)) Q E ⟨hp, g, d, tk, os⟩ :=
      fun q => Bg.iter prog w _ _ ⟨hp, g, d, tk, os⟩ _ h1 q
    wp_walk
    refine wpAny_stack_any fun st => wpAny_pure ?_
    split
    · rename_i c _ _ _ _ _
      cases (c == Value.type "enumerate") <;> (wp_walk using q1; exact ⟨_, rfl, h⟩)
    · wp_walk using q1
      exact ⟨_, rfl, h⟩
theorem call_enumT {prog : Program} {w : World} {A : Around} {E : Value → Shared → Prop} {s : Shared} {l : Addr} {items : Array Value} {Q : Value → Shared → Prop} (hL : s.heap.IsTuple l items)
    (h : ∀ h', IsEnum h' (s.heap.objs.size + 1) s.heap.objs.size 0 .none → h'.IsTupleIter s.heap.objs.size l 0 → h'.objs.size = s.heap.objs.size + 2 →
      (∀ b o, s.heap.get? b = some o → h'.get? b = some o) → Q (.ref (s.heap.objs.size + 1)) { s with heap := h' }) :
    wpAny (model prog w) A (call (.type "enumerate") [.ref l]) Q E s := by
  refine callType_new F.called_enumerate (by decide) (F.typeCall_enumerate_1 _) (F.newCall_enumerate_1 _) (fun obj => F.args_object_init_2 obj _) F.entry_enumerate_new (enum_new1 (begins_tuple l items)) ⟨hL, ?_⟩
  have hz : (s.heap.push { cls := .type "tuple_iterator", data := .fields #[.ref l, .int 0 0] }).objs.size = s.heap.objs.size + 1 := Heap.size_push ..
  show _ ∧ _
  rw [hz]
  have he : IsEnum ((s.heap.push { cls := .type "tuple_iterator", data := .fields #[.ref l, .int 0 0] }).push (enOb s.heap.objs.size)) (s.heap.objs.size + 1) s.heap.objs.size 0 .none := by
    have z := Heap.get?_push_size (s.heap.push { cls := .type "tuple_iterator", data := .fields #[.ref l, .int 0 0] }) (o := enOb s.heap.objs.size) rfl
    rw [hz] at z
    exact z
  exact ⟨⟨_, he, rfl⟩, h _ he ⟨_, Heap.get?_push_of_some _ (Heap.get?_push_size _ rfl), rfl, rfl⟩ (by rw [Heap.size_push, hz]) fun b o x => Heap.get?_push_of_some _ (Heap.get?_push_of_some _ x)⟩
theorem enumT_end {prog : Program} {w : World} {A : Around} {E : Value → Shared → Prop} {s : Shared} {e it l : Addr} {i : Nat} {its : Array Value} {old : Value} {Q : Option Value → Shared → Prop} (hh : A.handled = none) (he : IsEnum s.heap e it i old) (hit : s.heap.IsTupleIter it l i) (hl : s.heap.IsTuple l its) (hx : its[i]? = none)
    (hQ : ∀ h', Heap.ExtBut it s.heap h' → Q none { s with heap := h' }) : wpAny (model prog w) A (pyNext (.ref e)) Q E s := by
  have hT : s.TypeIs (.ref e) "enumerate" := ⟨_, he, rfl⟩
  unfold pyNext
  refine wpAny_bind (wpAny_attempt (wpAny_callSpecial?_slot (name := Str.ofString "__next__") hT F.slot_enumerate_next (wpAny_call_entry F.slot_enumerate_next hT F.entry_enumerate_next ?_ (F.args_enumerate_next_1 _))))
  show wpAny _ _ (field (.ref e) 2 >>= _) _ _ _
  refine wpAny_bind (wpAny_field he rfl (x := .ref it) rfl ?_)
  refine wpAny_bind (wpAny_nextOf_tuple_end hh hit hl hx fun h' x he' hx' => ?_)
  obtain ⟨o, ho, hc⟩ := hx'
  refine wpAny_bind (wpAny_isInstance (T := "StopIteration") (b := true) ⟨o, ho, hc⟩ isSubtype_stop ?_)
  exact wpAny_pure (hQ _ he')
/-- the tuple at a, each item in a new pair -/
def IteT (K : PySem.W.Frag) (a : Addr) : It :=
  ⟨fun i H => ∃ (xs : List V) (x : V), SqT K H a xs ∧ xs[i]? = some x, fun i H v H' => ∃ T x, v = .ref T ∧ H T = none ∧ H' = upd H T (.tup [.int (i : Nat), x]) ∧ ∀ xs, SqT K H a xs → xs[i]? = some x, fun i H => ∃ xs : List V, SqT K H a xs ∧ xs.length ≤ i⟩
theorem turn_enumT {P : Program} {w : World} {K : PySem.W.Frag} {elts : List Expr} {kk : Nat} {tpos : Pos} (a e it : Addr) (hai : a ≠ it) (hae : a ≠ e) :
    Turn P w K (.Tuple elts kk tpos) (IteT K a) [e, it] e (fun i h => (∃ old, IsEnum h e it ((i : Nat) : Int) old) ∧ h.IsTupleIter it a i ∧ e ≠ it) where
  mem := by simp
  obj := fun i h st b hb => by
    obtain ⟨⟨old, he⟩, ⟨o, ho, hc, hd⟩, _⟩ := st
    have e' : b = e ∨ b = it := by simpa using hb
    rcases e' with z | z
    · rw [z]; exact ⟨_, he, fun v q => nomatch q⟩
    · rw [z]; exact ⟨o, ho, fun v q => by rw [hd] at q; cases q⟩
  keep := fun i h h' st k => let ⟨⟨old, he⟩, hi, hne⟩ := st; ⟨⟨old, k e (by simp) _ he⟩, hi.at fun o q => k it (by simp) o q, hne⟩
  item := by
    intro X hP hw hK hc i pins s σ H E I hf st hg
    subst hP hw hK
    obtain ⟨⟨old, he⟩, hit, hne⟩ := st
    obtain ⟨xs, x, hq, hx⟩ := hg
    obtain ⟨its, rv, p, hz⟩ := I.tuple hq
    obtain ⟨u, hu, ru⟩ := rv.get hx
    have hel : e < s.heap.objs.size := Heap.lt_size he
    have hil : it < s.heap.objs.size := by obtain ⟨_, q, _⟩ := hit; exact Heap.lt_size q
    have hlt : i < its.toArray.size := by
      have := (List.getElem?_eq_some_iff.mp hu).1
      simpa using this
    refine wpAny_pyNext_enum_itemC (Draws.tuple (A := X.A.in1) (I.ok.hd hc) it a hai its.toArray) he ⟨hit, p⟩ hlt hne (by simp [hne, Ne.symm hae]) fun x' h' tk hx' ho hst' hT hsz hk => ?_
    have ex : x' = u := by
      rw [List.getElem?_toArray, hu] at hx'
      exact (Option.some.inj hx').symm
    subst ex
    refine ⟨_, rfl, wpAny_letOwnedTupleGo_enum (s := { s with heap := h', toks := tk + 1 }) ho fun h'' he' sb => ?_⟩
    have hT2 : h''.get? s.heap.objs.size = some { cls := .type "tuple", data := .seq #[.int i tk, x'] } := (sb.2 _ (Nat.ne_of_gt hel)).trans hT
    have new : ObjOk X.prog X.w (upd H s.heap.objs.size (.tup [.int (i : Nat), x])) h'' s.heap.objs.size (.tup [.int (i : Nat), x]) :=
      ⟨by show 2 ≤ sizeLine; decide, [.int i tk, x'], .cons ⟨_, rfl⟩ (.cons ru .nil), ⟨_, hT2, rfl, _, rfl⟩⟩
    have I1 : Inv X pins σ (upd H s.heap.objs.size (.tup [.int (i : Nat), x])) { s with heap := h'', toks := tk + 1 } :=
      I.turnedNew (ch := [e, it]) (fun b ob hb q => (sb.2 b (fun z => hb (by simp [z]))).trans (hk b ob (fun z => hb (by simp [z])) (fun z => hb (by simp [z])) q)) hf (Nat.le_refl _) new
    refine ⟨.ref s.heap.objs.size, _, I1, rfl, ⟨_, x, rfl, I.hok.fresh (Nat.le_refl _), rfl, fun ys hy => by rw [I.tuple_inj hy hq]; exact hx⟩, ⟨⟨x', ?_⟩, hst'.1.at fun o q => (sb.2 it (Ne.symm hne)).trans q, hne⟩, fun b hb => ?_⟩
    · have e1 : ((i + 1 : Nat) : Int) = (i : Int) + 1 := by omega
      rw [e1]; exact he'
    · have hb' : b < s.heap.objs.size := by
        have e' : b = e ∨ b = it := by simpa using hb
        rcases e' with z | z
        · rw [z]; exact hel
        · rw [z]; exact hil
      rw [upd_ne (Nat.ne_of_lt hb')]
      exact (hf b hb).1
  done := by
    intro X hP hw hK hc i pins s σ H E I hf st hg
    subst hP hw hK
    obtain ⟨⟨old, he⟩, hit, hne⟩ := st
    obtain ⟨xs, hq, hx⟩ := hg
    obtain ⟨its, rv, p, hz⟩ := I.tuple hq
    obtain ⟨f0, f1, f2, f3, f4, f5⟩ := hf it (by simp)
    have hl := rv.length
    exact enumT_end (I.ok.hd hc) he hit p (by simp; omega) fun h' eb => ⟨rfl, I.turned (t' := s.toks) (fun b o hb q => eb b o hb q) f0 f1 f3 f4 f5⟩
  self := fun A i s Q E st h => let ⟨⟨_, he⟩, _⟩ := st; wpAny_pyIter_enum he h

section
variable {X : Cx} {e a b : Expr} {pos : Pos}
theorem pi_enumT {ta : TA} {p pos tpos : Pos} {elts : List Expr} {kk : Nat} (hg : Gl X "enumerate") (hm : X.mg "enumerate" = none) (ha : PA X [e] ta) (hs : starEach [e] X.env = [(false, eval e X.env)] := by rfl) :
    PI X (.Tuple elts kk tpos) (.Call (.Name "enumerate" p) [e] [] pos) (fun σ H R => ta σ H fun vs H1 => ∃ a xs, vs = [.ref a] ∧ ((SqL X.K H1 a xs ∧ R (Ite X.K a) H1) ∨ (SqT X.K H1 a xs ∧ R (IteT X.K a) H1))) := by
  refine ⟨fun pins s σ H R I h => ?_⟩
  refine Call_ (ld_blt I hg hm boot_enumerate (PyProof.Rows.callWith_type1 (thn (ha.run pos pins s σ H _ I h) fun us s1 ⟨vs, H1, I1, r1, q1⟩ => ?_) hs rfl))
  obtain ⟨a, xs, ex, q1⟩ := q1
  subst ex
  cases r1 with
  | cons r rr =>
    cases rr
    cases r
    have fp : ∀ b ∈ [s1.heap.objs.size + 1, s1.heap.objs.size], FpOk X pins H1 b := fun b hb => by
      have e' : b = s1.heap.objs.size + 1 ∨ b = s1.heap.objs.size := by simpa using hb
      have hle : s1.heap.objs.size ≤ b := by
        rcases e' with z | z
        · rw [z]; exact Nat.le_add_right _ _
        · rw [z]; exact Nat.le_refl _
      exact I1.fpOk hle (I1.hok.fresh hle)
    rcases q1 with ⟨hq, q⟩ | ⟨hq, q⟩
    · obtain ⟨its, rv, p', hz⟩ := I1.list hq
      refine call_enumerate_list p'.isList fun h' he hit hsz hk => wpAny_pyIter_enum he ?_
      have I2 : Inv X pins σ H1 { s1 with heap := h' } := I1.kept (t' := s1.toks) hk
      exact ⟨s1.heap.objs.size + 1, [s1.heap.objs.size + 1, s1.heap.objs.size], _, _, H1, rfl, I2, turn_enum a (s1.heap.objs.size + 1) s1.heap.objs.size, ⟨⟨.none, he⟩, hit, Nat.succ_ne_self _⟩, fp, q⟩
    · obtain ⟨its, rv, p', hz⟩ := I1.tuple hq
      have la : a < s1.heap.objs.size := p'.lt
      refine call_enumT (show s1.heap.IsTuple a its.toArray from p') fun h' he hit hsz hk => wpAny_pyIter_enum he ?_
      have I2 : Inv X pins σ H1 { s1 with heap := h' } := I1.kept (t' := s1.toks) hk
      exact ⟨s1.heap.objs.size + 1, [s1.heap.objs.size + 1, s1.heap.objs.size], _, _, H1, rfl, I2, turn_enumT a (s1.heap.objs.size + 1) s1.heap.objs.size (Nat.ne_of_lt la) (Nat.ne_of_lt (Nat.lt_succ_of_lt la)), ⟨⟨.none, he⟩, hit, Nat.succ_ne_self _⟩, fp, q⟩

/-! ### enumerate and zip as what is walked -/
def enumD : Nat → List D → List D
  | _, [] => []
  | i, d :: ds => .tup [.int (i : Nat), d] :: enumD (i + 1) ds
def zipD : List D → List D → List D
  | a :: as, b :: bs => .tup [a, b] :: zipD as bs
  | _, _ => []
theorem enumD_get : ∀ {ds : List D} {n i : Nat} {d : D}, ds[i]? = some d → (enumD n ds)[i]? = some (.tup [.int ((n + i : Nat) : Int), d])
  | _ :: _, n, 0, d, h => by simp at h; subst h; rfl
  | _ :: ds, n, i + 1, d, h => by
    have := enumD_get (ds := ds) (n := n + 1) (i := i) (d := d) (by simpa using h)
    have e : n + 1 + i = n + (i + 1) := by omega
    rw [e] at this
    exact this
theorem enumD_len : ∀ (ds : List D) (n : Nat), (enumD n ds).length = ds.length
  | [], _ => rfl
  | d :: ds, n => by simp [enumD, enumD_len ds]
theorem zipD_get : ∀ {as bs : List D} {i : Nat} {a b : D}, as[i]? = some a → bs[i]? = some b → (zipD as bs)[i]? = some (.tup [a, b])
  | _ :: _, _ :: _, 0, a, b, h, k => by simp at h k; subst h k; rfl
  | _ :: as, _ :: bs, i + 1, a, b, h, k => by
    exact zipD_get (as := as) (bs := bs) (i := i) (by simpa using h) (by simpa using k)
  | [], _, i, a, b, h, _ => by simp at h
  | _ :: _, [], i, a, b, _, k => by simp at k
theorem zipD_len : ∀ as bs : List D, (zipD as bs).length = min as.length bs.length
  | [], _ => by simp [zipD]
  | _ :: _, [] => by simp [zipD]
  | a :: as, b :: bs => by
    simp only [zipD, List.length_cons, zipD_len as bs]
    omega
def dEnum (de : DE) : DA := fun env S => (de env S).bind fun d S1 => match itemsOf d with
  | some ds => .ok (enumD 0 ds) S1
  | none => .bad
def dZip (da db : DE) : DA := fun env S => (da env S).bind fun x S1 => (db env S1).bind fun y S2 => match x, y with
  | .lst as, .lst bs => .ok (zipD as bs) S2
  | .tup as, .tup bs => .ok (zipD as bs) S2
  | _, _ => .bad
theorem pair_new {K : PySem.W.Frag} {W : Wd} {S : Sto} {H : Hp} {T : Addr} {x y : V} {a b : D} (ok : WOk K W S H) (h : H T = none) (ra : Rep K W.G W.r a x) (rb : Rep K W.G W.r b y) :
    ∃ W', Ext W H W' (upd H T (.tup [x, y])) ∧ WOk K W' S (upd H T (.tup [x, y])) ∧ Rep K W'.G W'.r (.tup [a, b]) (.ref T) := by
  obtain ⟨h1, h2, h3⟩ := tup_new ok h (.cons ra (.cons rb .nil))
  exact ⟨_, h1, h2, h3⟩
theorem walkE {K : PySem.W.Frag} {a : Addr} {xs : List V} {ds : List D} {P : Wd → Hp → Prop} (h : ∀ W S H, WOk K W S H → P W H → SqL K H a xs ∧ RepL K W.G W.r ds xs) (hl : ds.length = xs.length) : WalkM K P (Ite K a) (enumD 0 ds) := by
  refine ⟨fun i W S H hi ok p => ?_, fun W S H ok p => ?_, fun i W S H x H' hi ok p y => ?_⟩
  · rw [enumD_len] at hi
    exact ⟨xs, xs[i]'(by omega), (h W S H ok p).1, List.getElem?_eq_getElem _⟩
  · rw [enumD_len]
    exact ⟨xs, (h W S H ok p).1, by omega⟩
  · obtain ⟨h1, h2⟩ := h W S H ok p
    obtain ⟨T, v, rfl, y1, rfl, y2⟩ := y
    obtain ⟨d, g1, g2⟩ := h2.getV (y2 xs h1)
    obtain ⟨W', z1, z2, z3⟩ := pair_new ok y1 (.int (i : Nat)) g2
    exact ⟨W', _, by rw [enumD_get g1, Nat.zero_add], z1, z2, z3⟩
theorem walkET {K : PySem.W.Frag} {a : Addr} {xs : List V} {ds : List D} {P : Wd → Hp → Prop} (h : ∀ W S H, WOk K W S H → P W H → SqT K H a xs ∧ RepL K W.G W.r ds xs) (hl : ds.length = xs.length) : WalkM K P (IteT K a) (enumD 0 ds) := by
  refine ⟨fun i W S H hi ok p => ?_, fun W S H ok p => ?_, fun i W S H x H' hi ok p y => ?_⟩
  · rw [enumD_len] at hi
    exact ⟨xs, xs[i]'(by omega), (h W S H ok p).1, List.getElem?_eq_getElem _⟩
  · rw [enumD_len]
    exact ⟨xs, (h W S H ok p).1, by omega⟩
  · obtain ⟨h1, h2⟩ := h W S H ok p
    obtain ⟨T, v, rfl, y1, rfl, y2⟩ := y
    obtain ⟨d, g1, g2⟩ := h2.getV (y2 xs h1)
    obtain ⟨W', z1, z2, z3⟩ := pair_new ok y1 (.int (i : Nat)) g2
    exact ⟨W', _, by rw [enumD_get g1, Nat.zero_add], z1, z2, z3⟩
theorem mi_enum {p pos tpos : Pos} {elts : List Expr} {kk : Nat} {de : DE} (hg : Gl X "enumerate") (hm : X.mg "enumerate" = none) (ha : PE X e (tV X.K de)) (hs : starEach [e] X.env = [(false, eval e X.env)] := by rfl) :
    PI X (.Tuple elts kk tpos) (.Call (.Name "enumerate" p) [e] [] pos) (iF X.K (dEnum de)) := PI.imp (pi_enumT hg hm (pa_cons ha pa_nil hs) hs) fun σ H R ⟨W, S, H0, env, ok, eo, ds, S', h, q⟩ => by
  obtain ⟨d, S1, h1, h2⟩ := bind_ok h
  refine ⟨W, S, H0, env, ok, eo, d, S1, h1, fun W1 H1 v e1 o1 r1 => ?_⟩
  cases r1 with
  | @tup a xs ds' r1 r2 =>
    cases h2
    exact ⟨a, xs, rfl, .inr ⟨SqT.of (o1.sub _ _ r1), q W1 H1 _ e1 o1 (walkET (fun W2 S2 H2 o2 p => ⟨SqT.of (o2.sub _ _ (p.g _ _ r1)), r2.mono p.g p.r⟩) r2.length)⟩⟩
  | @lst a xs ds' r1 r2 =>
    cases h2
    exact ⟨a, xs, rfl, .inl ⟨SqL.of (o1.sub _ _ r1), q W1 H1 _ e1 o1 (walkE (fun W2 S2 H2 o2 p => ⟨SqL.of (o2.sub _ _ (p.g _ _ r1)), r2.mono p.g p.r⟩) r2.length)⟩⟩
  | _ => cases h2
theorem walkZ {K : PySem.W.Frag} {a b : Addr} {xs ys : List V} {as bs : List D} {P : Wd → Hp → Prop} (h : ∀ W S H, WOk K W S H → P W H → SqL K H a xs ∧ RepL K W.G W.r as xs ∧ SqL K H b ys ∧ RepL K W.G W.r bs ys) (hl : as.length = xs.length) (hl2 : bs.length = ys.length) : WalkM K P (Itz K a b) (zipD as bs) := by
  refine ⟨fun i W S H hi ok p => ?_, fun W S H ok p => ?_, fun i W S H x H' hi ok p y => ?_⟩
  · rw [zipD_len] at hi
    obtain ⟨h1, _, h3, _⟩ := h W S H ok p
    exact ⟨xs, ys, xs[i]'(by omega), ys[i]'(by omega), h1, h3, List.getElem?_eq_getElem _, List.getElem?_eq_getElem _⟩
  · rw [zipD_len]
    obtain ⟨h1, _, h3, _⟩ := h W S H ok p
    exact ⟨xs, ys, h1, h3, by omega⟩
  · obtain ⟨h1, h2, h3, h4⟩ := h W S H ok p
    obtain ⟨T, v, u, rfl, y1, rfl, y2, y3⟩ := y
    obtain ⟨d, g1, g2⟩ := h2.getV (y2 xs h1)
    obtain ⟨d', g3, g4⟩ := h4.getV (y3 ys h3)
    obtain ⟨W', z1, z2, z3⟩ := pair_new ok y1 g2 g4
    exact ⟨W', _, zipD_get g1 g3, z1, z2, z3⟩
theorem walkZT {K : PySem.W.Frag} {a b : Addr} {xs ys : List V} {as bs : List D} {P : Wd → Hp → Prop} (h : ∀ W S H, WOk K W S H → P W H → SqT K H a xs ∧ RepL K W.G W.r as xs ∧ SqT K H b ys ∧ RepL K W.G W.r bs ys) (hl : as.length = xs.length) (hl2 : bs.length = ys.length) : WalkM K P (RZ.ItzT K a b) (zipD as bs) := by
  refine ⟨fun i W S H hi ok p => ?_, fun W S H ok p => ?_, fun i W S H x H' hi ok p y => ?_⟩
  · rw [zipD_len] at hi
    obtain ⟨h1, _, h3, _⟩ := h W S H ok p
    exact ⟨xs, ys, xs[i]'(by omega), ys[i]'(by omega), h1, h3, List.getElem?_eq_getElem _, List.getElem?_eq_getElem _⟩
  · rw [zipD_len]
    obtain ⟨h1, _, h3, _⟩ := h W S H ok p
    exact ⟨xs, ys, h1, h3, by omega⟩
  · obtain ⟨h1, h2, h3, h4⟩ := h W S H ok p
    obtain ⟨T, v, u, rfl, y1, rfl, y2, y3⟩ := y
    obtain ⟨d, g1, g2⟩ := h2.getV (y2 xs h1)
    obtain ⟨d', g3, g4⟩ := h4.getV (y3 ys h3)
    obtain ⟨W', z1, z2, z3⟩ := pair_new ok y1 g2 g4
    exact ⟨W', _, zipD_get g1 g3, z1, z2, z3⟩
theorem mi_zip {p pos tpos : Pos} {elts : List Expr} {kk : Nat} {da db : DE} (hg : Gl X "zip") (hm : X.mg "zip" = none) (ha : PE X a (tV X.K da)) (hb : PE X b (tV X.K db)) (hs : starEach [a, b] X.env = (false, eval a X.env) :: starEach [b] X.env := by rfl) (hs2 : starEach [b] X.env = (false, eval b X.env) :: starEach [] X.env := by rfl) (hpl : (backTo pos (starEach [b] X.env)).any (·.1) = false := by rfl) :
    PI X (.Tuple elts kk tpos) (.Call (.Name "zip" p) [a, b] [] pos) (iF X.K (dZip da db)) := PI.imp (RZ.pi_zipA hg hm (pa_cons ha (pa_cons hb pa_nil hs2) hs) hs hpl) fun σ H R ⟨W, S, H0, env, ok, eo, ds, S', h, q⟩ => by
  obtain ⟨x, S1, h1, h2⟩ := bind_ok h
  obtain ⟨y, S2, h3, h4⟩ := bind_ok h2
  refine ⟨W, S, H0, env, ok, eo, x, S1, h1, fun W1 H1 v e1 o1 r1 => ?_⟩
  refine ⟨W1, S1, H0, env, o1, eo.ext e1, y, S2, h3, fun W2 H2 u e2 o2 r2 => ?_⟩
  have r1 := r1.ext e2
  split at h4
  · cases h4
    cases r1 with
    | @lst p1 xs _ c1 c2 =>
      cases r2 with
      | @lst p2 ys _ c3 c4 =>
        exact ⟨p1, p2, xs, ys, rfl, .inl ⟨SqL.of (o2.sub _ _ c1), SqL.of (o2.sub _ _ c3), q W2 H2 _ (e1.trans e2) o2 (walkZ (fun W3 S3 H3 o3 p => ⟨SqL.of (o3.sub _ _ (p.g _ _ c1)), c2.mono p.g p.r, SqL.of (o3.sub _ _ (p.g _ _ c3)), c4.mono p.g p.r⟩) c2.length c4.length)⟩⟩
  · cases h4
    cases r1 with
    | @tup p1 xs _ c1 c2 =>
      cases r2 with
      | @tup p2 ys _ c3 c4 =>
        exact ⟨p1, p2, xs, ys, rfl, .inr ⟨SqT.of (o2.sub _ _ c1), SqT.of (o2.sub _ _ c3), q W2 H2 _ (e1.trans e2) o2 (walkZT (fun W3 S3 H3 o3 p => ⟨SqT.of (o3.sub _ _ (p.g _ _ c1)), c2.mono p.g p.r, SqT.of (o3.sub _ _ (p.g _ _ c3)), c4.mono p.g p.r⟩) c2.length c4.length)⟩⟩
  · cases h4
end
end MP

namespace MP
open PySem PySem.Spec PyProof.Rows L2
/-! ### a tuple that stands somewhere -/
theorem tup_old {K : PySem.W.Frag} {W : Wd} {S : Sto} {H : Hp} {p : Addr} {xs : List V} {ds : List D} (ok : WOk K W S H) (h : H p = some (.tup xs)) (q : RepL K W.G W.r ds xs) :
    ∃ W', Ext W H W' H ∧ WOk K W' S H ∧ Rep K W'.G W'.r (.tup ds) (.ref p) := by
  cases hg : W.G p with
  | some o =>
    have := ok.sub _ _ hg
    rw [h] at this
    cases this
    exact ⟨W, Ext.refl _ _, ok, .tup hg q⟩
  | none =>
    have nr : p ∉ W.r := fun m => by
      obtain ⟨n, hn⟩ := List.mem_iff_getElem?.mp m
      have hl : n < S.length := by rw [← ok.len]; exact (List.getElem?_eq_some_iff.mp hn).1
      obtain ⟨a, u, h1, h2, h3⟩ := ok.cell n _ (List.getElem?_eq_getElem hl)
      rw [hn] at h1
      cases h1
      rw [h] at h2
      cases h2
      exact h3.nt _ rfl
    have s : SubH W.G (upd W.G p (.tup xs)) := fun b o e => by rw [upd_ne (ne_of_none e hg)]; exact e
    refine ⟨⟨upd W.G p (.tup xs), W.r⟩, ⟨s, List.prefix_refl _, fun b h1 h2 => ?_, fun a h => .inl h, fun _ _ h _ => h, fun _ o h => ⟨o, h⟩⟩, ⟨fun b o e => ?_, ok.nd, ok.len, fun n x e => ?_, fun b hb => ?_⟩, .tup upd_same (q.mono s (List.prefix_refl _))⟩
    · by_cases hb : b = p
      · subst hb
        exact .inr ⟨nr, xs, h⟩
      · have h2' : upd W.G p (.tup xs) b ≠ none := h2
        rw [upd_ne hb] at h2'
        exact absurd h1 h2'
    · have e' : upd W.G p (.tup xs) b = some o := e
      by_cases hb : b = p
      · subst hb
        rw [upd_same] at e'
        cases e'
        exact h
      · rw [upd_ne hb] at e'
        exact ok.sub _ _ e'
    · obtain ⟨a, u, h1, h2, h3⟩ := ok.cell n x e
      exact ⟨a, u, h1, h2, h3.mono s (List.prefix_refl _)⟩
    · show upd W.G p (.tup xs) b = none
      have nb : b ≠ p := fun z => nr (by rw [← z]; exact hb)
      rw [upd_ne nb]
      exact ok.ng b hb
/-! ### a locked dict walked -/
def keyD : Key → D
  | .inl i => .int i
  | .inr x => .str x
theorem key_repD {K : PySem.W.Frag} {G : Hp} {l : List Addr} (k : Key) : Rep K G l (keyD k) (kV k) := by
  cases k with
  | inl i => exact .int i
  | inr x => exact .str x
theorem keys_repD {K : PySem.W.Frag} {G : Hp} {l : List Addr} : ∀ ks : List Key, RepL K G l (ks.map keyD) (ks.map kV)
  | [] => .nil
  | k :: ks => .cons (key_repD k) (keys_repD ks)
def dKeys (de : DE) : DA := fun env S => (de env S).bind fun d S1 => match d with
  | .fk ks _ => .ok (ks.map keyD) S1
  | .ft ks _ => .ok (ks.map fun k => .tup (k.map keyD)) S1
  | _ => .bad
section
variable {X : Cx} {tg : Expr}
theorem walkK {K : PySem.W.Frag} {a : Addr} {o : Obj} {kvs : List (Key × V)} {ks : List Key} {P : Wd → Hp → Prop} (h : ∀ W S H, WOk K W S H → P W H → H a = some (.frz o (.dK kvs))) (hk : kvs.map (·.1) = ks) : WalkM K P (Itk a o kvs) (ks.map keyD) := by
  have hl : kvs.length = ks.length := by rw [← hk, List.length_map]
  refine ⟨fun i W S H hi ok p => ?_, fun W S H ok p => ?_, fun i W S H x H' hi ok p y => ?_⟩
  · exact ⟨h W S H ok p, by rw [List.length_map] at hi; omega⟩
  · exact ⟨h W S H ok p, by rw [List.length_map]; omega⟩
  · obtain ⟨rfl, k, v, y1, rfl⟩ := y
    refine ⟨W, keyD k, ?_, Ext.refl _ _, ok, key_repD k⟩
    rw [List.getElem?_map, ← hk, List.getElem?_map, y1]
    rfl
theorem walkKT {K : PySem.W.Frag} {a : Addr} {o : Obj} {kvs : List (List Key × V)} {ks : List (List Key)} {P : Wd → Hp → Prop} (h : ∀ W S H, WOk K W S H → P W H → H a = some (.frz o (.dT kvs))) (hk : kvs.map (·.1) = ks) : WalkM K P (Itkt a o kvs) (ks.map fun k => .tup (k.map keyD)) := by
  have hl : kvs.length = ks.length := by rw [← hk, List.length_map]
  refine ⟨fun i W S H hi ok p => ?_, fun W S H ok p => ?_, fun i W S H x H' hi ok p y => ?_⟩
  · exact ⟨h W S H ok p, by rw [List.length_map] at hi; omega⟩
  · exact ⟨h W S H ok p, by rw [List.length_map]; omega⟩
  · obtain ⟨rfl, k, v, b, y1, rfl, y2⟩ := y
    obtain ⟨W', e1, o1, r1⟩ := tup_old ok y2 (keys_repD k)
    refine ⟨W', .tup (k.map keyD), ?_, e1, o1, r1⟩
    rw [List.getElem?_map, ← hk, List.getElem?_map, y1]
    rfl
theorem mi_keys {l : Expr} {de : DE} (hl : PE X l (MP.tB X.K de)) : PI X tg l (iB X.K (dKeys de)) := PI.imp (pi_keys hl) fun σ H R ⟨W, S, H0, env, ok, eo, ds, S', h, q⟩ => by
  obtain ⟨d, S1, h1, h2⟩ := bind_ok h
  refine ⟨W, S, H0, env, ok, eo, d, S1, h1, fun W1 H1 v e1 o1 r1 => ?_⟩
  rcases r1 with r1 | ⟨y, a, u, z1, z2, z3, z4, z5, z6⟩
  · cases r1 with
    | @fk a o ks ds kvs r1 r2 r3 =>
      cases h2
      exact ⟨a, o, rfl, .inl ⟨kvs, o1.sub _ _ r1, q W1 H1 _ e1 o1 (walkK (fun W2 S2 H2 o2 p => o2.sub _ _ (p.g _ _ r1)) r2)⟩⟩
    | @ft a o ks ds kvs r1 r2 r3 =>
      cases h2
      exact ⟨a, o, rfl, .inr ⟨kvs, o1.sub _ _ r1, q W1 H1 _ e1 o1 (walkKT (fun W2 S2 H2 o2 p => o2.sub _ _ (p.g _ _ r1)) r2)⟩⟩
    | _ => cases h2
  · subst z1 z2
    have nt := z4.nt
    cases z4 with
    | @fk o ks ds kvs r2 r3 =>
      cases h2
      exact ⟨a, o, rfl, .inl ⟨kvs, z3, q W1 H1 _ e1 o1 (walkK (fun W2 S2 H2 o2 p => (p.out z3 nt z5 z6).1) r2)⟩⟩
    | @ft o ks ds kvs r2 r3 =>
      cases h2
      exact ⟨a, o, rfl, .inr ⟨kvs, z3, q W1 H1 _ e1 o1 (walkKT (fun W2 S2 H2 o2 p => (p.out z3 nt z5 z6).1) r2)⟩⟩
    | _ => cases h2
end
/-! ### an expression while a slot's own dict is locked -/
def lockO : O → Option O
  | .k ks ds => some (.fk ks ds)
  | .t ks ds => some (.ft ks ds)
  | _ => none
def lockE (i : Nat) (env : Envm) : Option Envm := match env[i]? with
  | some (.ow x) => (lockO x).map fun y => env.set i (.ow y)
  | _ => none
def dLk (i : Nat) (dr : DR) : DR := fun env S => match lockE i env with
  | some e => dr e S
  | none => .bad
theorem lock_rep {K : PySem.W.Frag} {G : Hp} {r : List Addr} {x y : O} {u : HO} (h : RepO K G r x u) (e : lockO x = some y) (o : Obj) : Mut (some u) ∧ RepO K G r y (.frz o u) := by
  cases h with
  | k a b => cases e; exact ⟨trivial, .fk a b⟩
  | t a b => cases e; exact ⟨trivial, .ft a b⟩
  | _ => cases e
/-- a slot's own object is laid anew -/
theorem WOk.upd {K : PySem.W.Frag} {W : Wd} {S : Sto} {H : Hp} {a : Addr} {u : HO} (ok : WOk K W S H) (n : W.G a = none) (m : a ∉ W.r) : WOk K W S (upd H a u) := by
  refine ⟨fun b o e => ?_, ok.nd, ok.len, fun k y e => ?_, ok.ng⟩
  · rw [upd_ne (ne_of_none e n)]
    exact ok.sub b o e
  · obtain ⟨c, v, c1, c2, c3⟩ := ok.cell k y e
    have nc : c ≠ a := fun z => m (by rw [← z]; exact List.mem_of_getElem? c1)
    exact ⟨c, v, c1, by rw [upd_ne nc]; exact c2, c3⟩
theorem EnvOk.swap {K : PySem.W.Frag} {W : Wd} {H H0 : Hp} {env : Envm} {σ : L2.St} {i : Nat} {x y : O} {a : Addr} {u' : HO} (eo : EnvOk K W H H0 env σ) (h : env[i]? = some (.ow x)) (h2 : σ[i]? = some (some (.ref a))) (q : RepO K W.G W.r y u') (n : W.G a = none) (m : a ∉ W.r) (z0 : H0 a = none) : EnvOk K W (upd H a u') H0 (env.set i (.ow y)) σ := by
  have hi := (List.getElem?_eq_some_iff.mp h).1
  refine ⟨by rw [List.length_set]; exact eo.len, fun j t o e1 e2 => ?_, fun j k y1 y2 b e1 e2 e3 e4 => ?_⟩
  · by_cases hj : i = j
    · subst hj
      rw [List.getElem?_set_self hi] at e1
      cases e1
      rw [h2] at e2
      cases e2
      exact ⟨a, u', rfl, upd_same, q, n, m, z0⟩
    · rw [List.getElem?_set_ne hj] at e1
      have z := eo.sl j t o e1 e2
      cases t with
      | no => trivial
      | va d => exact z
      | ow y =>
        obtain ⟨b, u', z1, z2, z3, z4, z5, z6⟩ := z
        have nb : b ≠ a := fun e => by
          subst e
          subst z1
          exact hj (eo.dis i j x y b h e1 h2 e2)
        exact ⟨b, u', z1, by rw [upd_ne nb]; exact z2, z3, z4, z5, z6⟩
  · have f : ∀ (p : Nat) (z : O), (env.set i (.ow y))[p]? = some (.ow z) → ∃ z', env[p]? = some (.ow z') := fun p z hm => by
      by_cases c : i = p
      · subst c
        exact ⟨x, h⟩
      · rw [List.getElem?_set_ne c] at hm
        exact ⟨z, hm⟩
    obtain ⟨z1, f1⟩ := f j _ e1
    obtain ⟨z2, f2⟩ := f k _ e2
    exact eo.dis j k z1 z2 b f1 f2 e3 e4
section
variable {X : Cx} {e : Expr}
theorem pe_lk (i : Nat) {dr : DR} (h : PE X e (tR X.K dr)) : PE X e (tR X.K (dLk i dr)) := PE.imp (pe_lock h) fun σ H Q ⟨W, S, H0, env, ok, eo, r, S', h, q⟩ => by
  unfold dLk at h
  cases hl : lockE i env with
  | none => rw [hl] at h; cases h
  | some e1 =>
    rw [hl] at h
    unfold lockE at hl
    cases hs : env[i]? with
    | none => rw [hs] at hl; cases hl
    | some t =>
      rw [hs] at hl
      cases t with
      | no => cases hl
      | va _ => cases hl
      | ow x =>
        obtain ⟨y, g1, rfl⟩ := Option.map_eq_some_iff.mp hl
        obtain ⟨ov, k1, a, u, rfl, k2, k3, k4, k5, k6⟩ := eo.at hs
        refine ⟨a, u, k2, (lock_rep k3 g1 default).1, fun od => ?_⟩
        have k7 := (lock_rep k3 g1 od).2
        refine ⟨W, S, H0, env.set i (.ow y), ok.upd k4 k5, eo.swap hs k1 k7 k4 k5 k6, r, S', h, fun W1 H1 v x1 o1 r1 => ?_⟩
        obtain ⟨m1, m2, m3⟩ := x1.out upd_same k7.nt k4 k5
        refine ⟨m1, q W1 _ v ⟨x1.g, x1.r, fun b h1 h2 => ?_, fun b hb => ?_, fun b o e n => ?_, fun b o e => ?_⟩ (o1.upd m2 m3) ?_⟩
        · have nb : b ≠ a := fun z => by subst z; exact h2 m2
          have := x1.gn b h1 h2
          rw [upd_ne nb] at this
          exact this
        · rcases x1.rn b hb with z | z
          · exact .inl z
          · have nb : b ≠ a := fun z => by subst z; exact m3 hb
            rw [upd_ne nb] at z
            exact .inr z
        · by_cases nb : b = a
          · subst nb
            rw [k2] at e
            cases e
            exact upd_same
          · rw [upd_ne nb]
            exact x1.h b o (by rw [upd_ne nb]; exact e) n
        · by_cases nb : b = a
          · subst nb
            exact ⟨_, upd_same⟩
          · rw [upd_ne nb]
            exact x1.k b o (by rw [upd_ne nb]; exact e)
        · cases r with
          | v d => exact r1
          | o z =>
            obtain ⟨c, w, rfl, c1, c2, c3, c4, c5⟩ := r1
            have nc : c ≠ a := fun z => by subst z; rw [upd_same] at c5; cases c5
            rw [upd_ne nc] at c5
            exact ⟨c, w, rfl, by rw [upd_ne nc]; exact c1, c2, c3, c4, c5⟩
end
end MP

namespace MP
open PySem PySem.Spec PyProof.Rows L2

def b__law_book_v0 (C : Calls) : DS :=
  (dSeqS
  (dSet 2 (dOp fIx (fz (dCall C 228 (dCons (dVar 0) (dCons (dVar 1) dNil)))) (dC (.int 2))))
  (dRet (dIfR (dB (fz (dOp fEq (fz (dCall C 238 (dCons (dVar 0) (dCons (dC (.int 2)) dNil)))) (dC (.int 0))))) (dCall C 220 (dCons (dVar 0) (dCons (dVar 2) dNil))) (rv (dVar 2)))))
def q__law_book_v0 : FD := ⟨"_law_book", 2, 3, b__law_book_v0⟩
abbrev i__law_book_v0 : Nat := 15

def b__law_bounds_v0 (C : Calls) : DS :=
  (dSeqS
  (dPar [2, 3] (rCons (rv (dC (.int 0))) (rCons (dOp fSub (fz (dOp fIx (dBVar 0) (dC (.int 1)))) (dC (.int 1))) rNil)))
  (dSeqS
  (dFor (dSeq (fz (dOp fIx (dBVar 0) (dC (.int 2))))) (.tp [(.nm 4), (.nm 5), (.nm 6)]) (dSeqS
  (dIfS (dAndT (dB (fz (dOp fEq (dBVar 5) (dC (.str "end"))))) (dB (fz (dOp fEq (dBVar 6) (dBVar 1))))) (dSet 2 (dBlt bMax2 (dCons (dBVar 2) (dCons (fz (dOp fAdd (dBVar 4) (dC (.int 1)))) dNil)))) dSkip)
  (dIfS (dAndT (dB (fz (dOp fEq (dBVar 5) (dC (.str "closed"))))) (dB (fz (dOp fEq (dBVar 6) (dBVar 1))))) (dPar [2, 3] (rCons (dBlt bMax2 (dCons (dBVar 2) (dCons (dBVar 4) dNil))) (rCons (dBlt bMin2 (dCons (dBVar 3) (dCons (dBVar 4) dNil))) rNil))) dSkip)))
  (dRet (rv (dTup (dCons (dVar 2) (dCons (dVar 3) dNil)))))))
def q__law_bounds_v0 : FD := ⟨"_law_bounds", 2, 7, b__law_bounds_v0⟩
abbrev i__law_bounds_v0 : Nat := 22

def b__law_box (C : Calls) : DS :=
  (dSeqS
  (dSet 2 (dCall C 28 (dCons (dVar 0) (dCons (dVar 1) dNil))))
  (dRet (dLst (dCons (fz (dOp fMul (fz (dBlt bAbs (dCons (dBVar 2) dNil))) (fz (dBlt bInt (dCons (fz (dOp fGe (fz (dBlt bAbs (dCons (dBVar 2) dNil))) (fz (dOp fPow (dC (.int 10)) (dC (.int 18)))))) dNil))))) (dCons (fz (dOp fAdd (fz (dOp fAdd (fz (dOp fMod (dBVar 2) (dC (.int 2305843009213693951)))) (fz (dOp fMul (dC (.int 39373)) (dBVar 1))))) (dC (.int 29)))) (dCons (dC (.int 0)) dNil))))))
def q__law_box : FD := ⟨"_law_box", 2, 3, b__law_box⟩
abbrev i__law_box : Nat := 24

def b__law_cell_at (C : Calls) : DS :=
  (dSeqS
  (dIfS (dB (fz (dOp fLt (dBVar 1) (fz (dBlt bLen (dCons (dBVar 0) dNil)))))) (dRet (dOp fIx (dBVar 0) (dBVar 1))) dSkip)
  (dRet (rv (dC (.int 0)))))
def q__law_cell_at : FD := ⟨"_law_cell_at", 2, 2, b__law_cell_at⟩
abbrev i__law_cell_at : Nat := 28

def b__law_deed (C : Calls) : DS :=
  (dSeqS
  (dUnp (.tp [(.nm 4), (.nm 5)]) (dVar 2))
  (dSeqS
  (dPar [6, 7] (rCons (dCall C 238 (dCons (dVar 0) (dCons (dC (.int 14)) dNil))) (rCons (dCall C 143 (dCons (dVar 1) (dCons (dVar 4) dNil))) rNil)))
  (dSeqS
  (dPar [8, 9] (rCons (dOp fSub (fz (dCall C 238 (dCons (dVar 0) (dCons (fz (dOp fAdd (fz (dOp fIx (dBVar 1) (dC (.int 0)))) (dC (.int 2)))) dNil)))) (dC (.int 1))) (rCons (dBlt bLen (dCons (dBVar 4) dNil)) rNil)))
  (dSeqS
  (dIfS (dB (fz (dOp fLt (dBVar 6) (dC (.int 5))))) (dFrz 7 (dRet (rv (dTup (dCons (dC (.str "close")) (dCons (dIf (dAndT (dB (fz (dOp fNe (dBVar 7) (fz (dLst dNil))))) (dB (fz (dOp fGt (fz (dCall C 238 (dCons (dVar 0) (dCons (dC (.int 5)) dNil)))) (dC (.int 0)))))) (fz (dCall C 110 (dCons (dVar 0) (dCons (dVar 7) dNil)))) (dVar 8)) dNil)))))) dSkip)
  (dSeqS
  (dIfS (dB (fz (dOp fLt (dBVar 6) (dC (.int 7))))) (dSeqS
  (dPar [3, 12] (rCons (dLst dNil) (rCons (rv (dVar 4)) rNil)))
  (dSeqS
  (dFor (dRange1 (fz (dCall C 238 (dCons (dVar 0) (dCons (dC (.int 4)) dNil))))) (.nm 10) (dSeqS
  (dSet 13 (dCall C 143 (dCons (dVar 1) (dCons (dVar 12) dNil))))
  (dIfS (dB (fz (dOp fNe (dBVar 13) (fz (dLst dNil))))) (dSeqS
  (dFrz 13 (dMut1 3 fApp (fz (dCall C 110 (dCons (dVar 0) (dCons (dVar 13) dNil))))))
  (dSet 12 (dOp fAdd (dBVar 12) (dTup (dCons (fz (dOp fIx (dBVar 3) (fz (dUn fNeg (dC (.int 1)))))) dNil))))) dSkip)))
  (dFrz 3 (dRet (rv (dTup (dCons (dC (.str "close_all")) (dCons (dIf (dB (fz (dOp fGt (fz (dCall C 238 (dCons (dVar 0) (dCons (dC (.int 4)) dNil)))) (dC (.int 0))))) (dVar 3) (fz (dOp fAdd (dBVar 3) (fz (dLst (dCons (dVar 8) dNil)))))) dNil)))))))) dSkip)
  (dSeqS
  (dIfS (dB (fz (dOp fLt (dBVar 6) (dC (.int 11))))) (dSeqS
  (dSet 11 (dOp fSub (fz (dCall C 238 (dCons (dVar 0) (dCons (fz (dOp fAdd (dBVar 9) (dC (.int 2)))) dNil)))) (fz (dBlt bInt (dCons (fz (dOp fEq (fz (dCall C 238 (dCons (dVar 0) (dCons (dC (.int 6)) dNil)))) (dC (.int 0)))) dNil)))))
  (dRet (rv (dTup (dCons (dC (.str "note_down")) (dCons (dVar 11) (dCons (fz (dCall C 110 (dCons (dVar 0) (dCons (fz (dLst (dCons (dC (.str "end")) (dCons (dC (.str "end")) (dCons (dC (.str "closed")) dNil))))) dNil)))) dNil))))))) dSkip)
  (dSeqS
  (dSet 3 (dOp fAdd (fz (dLst (dCons (dTup (dCons (dC (.int 0)) (dCons (dC (.str "end")) (dCons (dC (.int 0)) dNil)))) (dCons (dTup (dCons (fz (dCall C 238 (dCons (dVar 0) (dCons (dC (.int 14)) dNil)))) (dCons (dC (.str "closed")) (dCons (fz (dCall C 238 (dCons (dVar 0) (dCons (dC (.int 14)) dNil)))) dNil)))) dNil)))) (fz (dOp fMul (fz (dBlt bList (dCons (dBVar 5) dNil))) (dC (.int 3))))))
  (dFrz 3 (dRet (rv (dTup (dCons (dC (.str "forget")) (dCons (fz (dCall C 110 (dCons (dVar 0) (dCons (dVar 3) dNil)))) dNil)))))))))))))
def q__law_deed : FD := ⟨"_law_deed", 3, 14, b__law_deed⟩
abbrev i__law_deed : Nat := 33

def b__law_far (C : Calls) : DS :=
  (dRet (dBlt bSum (dCons (fz (dComp (dSeq (fz (dCall C 207 (dCons (dVar 0) (dCons (dVar 1) dNil))))) [2] (.nm 2) dYes (fz (dOp fSub (fz (dBlt bLen (dCons (dBVar 2) dNil))) (dC (.int 1)))))) dNil)))
def q__law_far : FD := ⟨"_law_far", 2, 3, b__law_far⟩
abbrev i__law_far : Nat := 50

def b__law_fits_k05 (C : Calls) : DS :=
  (dSeqS
  (dFor (dSeq (fz (dOp fIx (dBVar 0) (dC (.int 2))))) (.tp [(.nm 2), (.nm 3), (.nm 4)]) (dIfS (dOrT (dAndT (dB (fz (dOp fEq (dBVar 3) (dC (.str "closed"))))) (dB (fz (dOp fNe (fz (dOp fIx (dBVar 1) (dBVar 2))) (dBVar 4))))) (dAndT (dB (fz (dOp fEq (dBVar 3) (dC (.str "end"))))) (dB (fz (dOp fIn (dBVar 4) (fz (dSl (dBVar 1) oNone (oSome (fz (dOp fAdd (dBVar 2) (dC (.int 1)))))))))))) (dRet (rv (dC (.bl false)))) dSkip))
  (dRet (rv (dC (.bl true)))))
def q__law_fits_k05 : FD := ⟨"_law_fits", 2, 5, b__law_fits_k05⟩
abbrev i__law_fits_k05 : Nat := 58

def b__law_is_int (C : Calls) : DS :=
  (dRet (rv (dAnd (fz (dBlt bIsi (dCons (dBVar 0) (dCons (dC (.ty "int")) dNil)))) (dNot (fz (dBlt bIsi (dCons (dBVar 0) (dCons (dC (.ty "bool")) dNil))))))))
def q__law_is_int : FD := ⟨"_law_is_int", 1, 1, b__law_is_int⟩
abbrev i__law_is_int : Nat := 71

def b__law_lists (C : Calls) : DS :=
  (dRet (dIfR (dB (fz (dBlt bIsi (dCons (dBVar 0) (dCons (dTup (dCons (dC (.ty "list")) (dCons (dC (.ty "tuple")) dNil))) dNil))))) (dComp (dSeq (dBVar 0)) [1] (.nm 1) dYes (fz (dCall C 87 (dCons (dVar 1) dNil)))) (rv (dVar 0))))
def q__law_lists : FD := ⟨"_law_lists", 1, 2, b__law_lists⟩
abbrev i__law_lists : Nat := 87

def b__law_mates (C : Calls) : DS :=
  (dRet (dComp (dSeq (dBVar 0)) [2, 3] (.tp [(.nm 2), (.nm 3)]) (dB (fz (dOp fIn (dBVar 1) (dTup (dCons (dVar 2) (dCons (dVar 3) dNil)))))) (dIf (dB (fz (dOp fEq (dBVar 2) (dBVar 1)))) (dVar 3) (dVar 2))))
def q__law_mates : FD := ⟨"_law_mates", 2, 4, b__law_mates⟩
abbrev i__law_mates : Nat := 90

def b__law_notes_v0 (C : Calls) : DS :=
  (dSeqS
  (dPar [4, 5] (rCons (dLst dNil) (rCons (dOp fAdd (dC (.int 1)) (fz (dCall C 238 (dCons (dVar 0) (dCons (dC (.int 4)) dNil))))) rNil)))
  (dSeqS
  (dFor (dRange1 (fz (dBlt bLen (dCons (dBVar 1) dNil)))) (.nm 3) (dSeqS
  (dIfS (dB (fz (dOp fEq (fz (dCall C 238 (dCons (dVar 0) (dCons (dC (.int 8)) dNil)))) (dC (.int 0))))) (dMut1 4 fApp (dTup (dCons (dVar 3) (dCons (dC (.str "closed")) (dCons (fz (dOp fIx (dBVar 1) (dBVar 3))) dNil))))) dSkip)
  (dIfS (dB (fz (dOp fLt (fz (dCall C 238 (dCons (dVar 0) (dCons (dC (.int 5)) dNil)))) (dBVar 5)))) (dMut1 4 fApp (dTup (dCons (dVar 3) (dCons (dC (.str "end")) (dCons (fz (dOp fIx (dBVar 2) (dBVar 3))) dNil))))) dSkip)))
  (dRet (dBlt bTuple (dCons (dBVar 4) dNil)))))
def q__law_notes_v0 : FD := ⟨"_law_notes", 3, 6, b__law_notes_v0⟩
abbrev i__law_notes_v0 : Nat := 107

def b__law_of (C : Calls) : DS :=
  (dRet (dOp fIx (dBVar 1) (fz (dCall C 238 (dCons (dVar 0) (dCons (fz (dBlt bLen (dCons (dBVar 1) dNil))) dNil))))))
def q__law_of : FD := ⟨"_law_of", 2, 2, b__law_of⟩
abbrev i__law_of : Nat := 110

def b__law_open_links (C : Calls) : DS :=
  (dRet (dComp (dSeq (fz (dOp fIx (dBVar 0) (dC (.int 1))))) [2] (.nm 2) (dNotT (dB (fz (dBlt bAny (dCons (fz (dComp (dSeq (dBVar 2)) [3] (.nm 3) dYes (fz (dOp fIn (dBVar 3) (dBVar 1))))) dNil))))) (dVar 2)))
def q__law_open_links : FD := ⟨"_law_open_links", 2, 4, b__law_open_links⟩
abbrev i__law_open_links : Nat := 116

def b__law_orders_v0 (C : Calls) : DS :=
  (dRet (dComp (dSeq (fz (dCall C 211 (dCons (dVar 0) dNil)))) [1] (.nm 1) (dB (fz (dCall C 58 (dCons (dVar 0) (dCons (dVar 1) dNil))))) (dVar 1)))
def q__law_orders_v0 : FD := ⟨"_law_orders", 1, 2, b__law_orders_v0⟩
abbrev i__law_orders_v0 : Nat := 119

def b__law_pair_of (C : Calls) : DS :=
  (dSeqS
  (dUnp (.tp [(.nm 2), (.nm 3), (.nm 4)]) (fz (dCall C 228 (dCons (dVar 0) (dCons (dVar 1) dNil)))))
  (dRet (rv (dTup (dCons (dVar 4) (dCons (dVar 2) (dCons (fz (dOp fIx (fz (dCall C 268 (dCons (dVar 0) (dCons (dVar 4) (dCons (dVar 2) (dCons (dC (.int 7)) dNil)))))) (dC (.int 0)))) dNil)))))))
def q__law_pair_of : FD := ⟨"_law_pair_of", 2, 5, b__law_pair_of⟩
abbrev i__law_pair_of : Nat := 126

def b__law_part_of (C : Calls) : DS :=
  (dSeqS
  (dPar [2, 3] (rCons (rv (dVar 0)) (rCons (rv (dVar 1)) rNil)))
  (dSeqS
  (dWhile (dB (fz (dOp fGt (dBVar 3) (dC (.int 0))))) (dPar [2, 3] (rCons (rv (dVar 3)) (rCons (dOp fMod (dBVar 2) (dBVar 3)) rNil))))
  (dRet (rv (dTup (dCons (fz (dOp fDiv (dBVar 0) (dBVar 2))) (dCons (fz (dOp fDiv (dBVar 1) (dBVar 2))) dNil)))))))
def q__law_part_of : FD := ⟨"_law_part_of", 2, 4, b__law_part_of⟩
abbrev i__law_part_of : Nat := 129

def b__law_proofs_v0 (C : Calls) : DS :=
  (dSeqS
  (dPar [3, 4] (rCons (dComp (dRange1 (fz (dOp fIx (dBVar 0) (dC (.int 0))))) [5] (.nm 5) dYes (fz (dCall C 22 (dCons (dVar 0) (dCons (dVar 5) dNil))))) (rCons (dLst dNil) rNil)))
  (dSeqS
  (dSet 1 (dComp (dSeq (fz (dOp fIx (dBVar 0) (dC (.int 2))))) [2, 8, 9] (.tp [(.nm 2), (.nm 8), (.nm 9)]) (dB (fz (dOp fEq (dBVar 8) (dC (.str "closed"))))) (dVar 9)))
  (dSeqS
  (dFrz 3 (dFor (dEnum (dVar 3)) (.tp [(.nm 5), (.tp [(.nm 6), (.nm 7)])]) (dIfS (dAndT (dB (fz (dOp fIn (dBVar 5) (dBVar 1)))) (dB (fz (dOp fGt (dBVar 6) (dBVar 7))))) (dMut1 4 fApp (dTup (dCons (dC (.str "never")) (dCons (dVar 5) dNil)))) dSkip)))
  (dSeqS
  (dFor (dRange1 (fz (dOp fIx (dBVar 0) (dC (.int 1))))) (.nm 2) (dIfS (dB (fz (dOp fLe (fz (dBlt bLen (dCons (fz (dComp (dSeq (dBVar 3)) [6, 7] (.tp [(.nm 6), (.nm 7)]) (dAndT (dB (fz (dOp fLe (dBVar 6) (dBVar 7)))) (dB (fz (dOp fLe (dBVar 6) (dBVar 2))))) (dVar 6))) dNil))) (dBVar 2)))) (dMut1 4 fApp (dTup (dCons (dC (.str "few")) (dCons (dVar 2) dNil)))) dSkip))
  (dRet (dMv 4))))))
def q__law_proofs_v0 : FD := ⟨"_law_proofs", 1, 10, b__law_proofs_v0⟩
abbrev i__law_proofs_v0 : Nat := 137

def b__law_queue (C : Calls) : DS :=
  (dRet (dBlt bTuple (dCons (fz (dSl (fz (dCall C 230 (dCons (dVar 0) (dCons (fz (dMkL (dRange1 (dVar 1)))) dNil)))) oNone (oSome (dVar 2)))) dNil)))
def q__law_queue : FD := ⟨"_law_queue", 3, 3, b__law_queue⟩
abbrev i__law_queue : Nat := 140

def b__law_ready (C : Calls) : DS :=
  (dSeqS
  (dSet 2 (dCall C 116 (dCons (dVar 0) (dCons (dVar 1) dNil))))
  (dFrz 2 (dRet (dComp (dRange1 (fz (dOp fIx (dBVar 0) (dC (.int 0))))) [3] (.nm 3) (dB (fz (dOp fEq (fz (dBlt bLen (dCons (fz (dCall C 90 (dCons (dVar 2) (dCons (dVar 3) dNil)))) dNil))) (dC (.int 1))))) (dVar 3)))))
def q__law_ready : FD := ⟨"_law_ready", 2, 4, b__law_ready⟩
abbrev i__law_ready : Nat := 143

def b__law_rows_v0 (C : Calls) : DS :=
  (dSeqS
  (dSet 1 (dLst (dCons (dTup dNil) dNil)))
  (dSeqS
  (dFor (dRange1 (fz (dOp fIx (dBVar 0) (dC (.int 1))))) (.nm 2) (dSeqS
  (dSet 3 (dLst dNil))
  (dSeqS
  (dFrz 1 (dFor (dSeq (dVar 1)) (.nm 4) (dMut1 3 fExt (fz (dComp (dRange1 (fz (dOp fIx (dBVar 0) (dC (.int 0))))) [5] (.nm 5) (dB (fz (dOp fNotIn (dBVar 5) (dBVar 4)))) (fz (dOp fAdd (dBVar 4) (dTup (dCons (dVar 5) dNil)))))))))
  (dFrz 3 (dSet 1 (rv (dVar 3)))))))
  (dRet (dMv 1))))
def q__law_rows_v0 : FD := ⟨"_law_rows", 1, 6, b__law_rows_v0⟩
abbrev i__law_rows_v0 : Nat := 211

def b__law_same_v0 (C : Calls) : DS :=
  (dSeqS
  (dIfS (dB (fz (dBlt bIsi (dCons (dBVar 1) (dCons (dTup (dCons (dC (.ty "list")) (dCons (dC (.ty "tuple")) dNil))) dNil))))) (dSeqS
  (dIfS (dOrT (dB (fz (dOp fNe (fz (dBlt bIsi (dCons (dBVar 0) (dCons (dC (.ty "list")) dNil)))) (fz (dBlt bIsi (dCons (dBVar 1) (dCons (dC (.ty "list")) dNil))))))) (dB (fz (dOp fNe (fz (dBlt bIsi (dCons (dBVar 0) (dCons (dC (.ty "tuple")) dNil)))) (fz (dBlt bIsi (dCons (dBVar 1) (dCons (dC (.ty "tuple")) dNil)))))))) (dRet (rv (dC (.bl false)))) dSkip)
  (dRet (rv (dAnd (fz (dOp fEq (fz (dBlt bLen (dCons (dBVar 0) dNil))) (fz (dBlt bLen (dCons (dBVar 1) dNil))))) (fz (dBlt bAll (dCons (fz (dComp (dZip (dVar 0) (dVar 1)) [2, 3] (.tp [(.nm 2), (.nm 3)]) dYes (fz (dCall C 213 (dCons (dVar 2) (dCons (dVar 3) dNil)))))) dNil))))))) dSkip)
  (dSeqS
  (dIfS (dOrT (dB (fz (dOp fIsN (dBVar 1) (dC .non)))) (dB (fz (dBlt bIsi (dCons (dBVar 1) (dCons (dTup (dCons (dC (.ty "bool")) (dCons (dC (.ty "str")) dNil))) dNil)))))) (dRet (rv (dAnd (fz (dOp fEq (dBVar 0) (dBVar 1))) (dAnd (fz (dOp fEq (fz (dBlt bIsi (dCons (dBVar 0) (dCons (dC (.ty "bool")) dNil)))) (fz (dBlt bIsi (dCons (dBVar 1) (dCons (dC (.ty "bool")) dNil)))))) (fz (dOp fEq (fz (dOp fIsN (dBVar 0) (dC .non))) (fz (dOp fIsN (dBVar 1) (dC .non))))))))) dSkip)
  (dRet (rv (dAnd (fz (dBlt bIsi (dCons (dBVar 0) (dCons (dC (.ty "int")) dNil)))) (dAnd (dNot (fz (dBlt bIsi (dCons (dBVar 0) (dCons (dC (.ty "bool")) dNil))))) (fz (dOp fEq (dBVar 0) (dBVar 1)))))))))
def q__law_same_v0 : FD := ⟨"_law_same", 2, 4, b__law_same_v0⟩
abbrev i__law_same_v0 : Nat := 213

def b__law_shut_v1 (C : Calls) : DS :=
  (dSeqS
  (dPar [4, 5, 6] (rCons (dBlt bList (dCons (fz (dOp fIx (dBVar 1) (dC (.int 1)))) dNil)) (rCons (dLst dNil) (rCons (dLst dNil) rNil))))
  (dSeqS
  (dFor (dRange1 (dVar 2)) (.nm 3) (dSeqS
  (dFrz 4 (dSet 7 (dComp (dRange1 (fz (dOp fIx (dBVar 1) (dC (.int 0))))) [8] (.nm 8) (dB (fz (dOp fEq (fz (dBlt bLen (dCons (fz (dCall C 90 (dCons (dVar 4) (dCons (dVar 8) dNil)))) dNil))) (dC (.int 1))))) (dVar 8))))
  (dSeqS
  (dFrz 7 (dMut1 5 fApp (fz (dCall C 110 (dCons (dVar 0) (dCons (dVar 7) dNil))))))
  (dSeqS
  (dFrz 4 (dMut1 6 fApp (fz (dOp fIx (fz (dCall C 90 (dCons (dVar 4) (dCons (fz (dOp fIx (dBVar 5) (fz (dUn fNeg (dC (.int 1)))))) dNil)))) (dC (.int 0))))))
  (dSet 4 (dComp (dSeq (dBVar 4)) [9] (.nm 9) (dB (fz (dOp fNotIn (fz (dOp fIx (dBVar 5) (fz (dUn fNeg (dC (.int 1)))))) (dBVar 9)))) (dVar 9)))))))
  (dRet (rv (dTup (dCons (fz (dBlt bTuple (dCons (dBVar 5) dNil))) (dCons (fz (dBlt bTuple (dCons (dBVar 6) dNil))) dNil)))))))
def q__law_shut_v1 : FD := ⟨"_law_shut", 3, 10, b__law_shut_v1⟩
abbrev i__law_shut_v1 : Nat := 218

def b__law_spoilt_v0 (C : Calls) : DS :=
  (dSeqS
  (dUnp (.tp [(.nm 4), (.nm 5), (.nm 6)]) (dVar 1))
  (dSeqS
  (dSet 2 dNewT)
  (dSeqS
  (dFor (dSeq (dVar 6)) (.tp [(.nm 7), (.nm 8), (.nm 9)]) (dPutD 2 (dTup (dCons (dVar 7) (dCons (dVar 8) dNil))) (dVar 9)))
  (dSeqS
  (dFor (dRange1 (fz (dOp fMul (fz (dOp fAdd (dC (.int 1)) (fz (dCall C 238 (dCons (dVar 0) (dCons (dC (.int 4)) dNil)))))) (fz (dBlt bInt (dCons (fz (dOp fGt (dBVar 5) (dC (.int 0)))) dNil)))))) (.nm 3) (dPutD 2 (dTup (dCons (fz (dCall C 238 (dCons (dVar 0) (dCons (dVar 5) dNil)))) (dCons (fz (dCall C 110 (dCons (dVar 0) (dCons (fz (dLst (dCons (dC (.str "end")) (dCons (dC (.str "closed")) (dCons (dC (.str "closed")) dNil))))) dNil)))) dNil))) (fz (dCall C 238 (dCons (dVar 0) (dCons (dVar 4) dNil))))))
  (dRet (rv (dTup (dCons (dVar 4) (dCons (dVar 5) (dCons (fz (dBlt bTuple (dCons (fz (dBlt bSorted (dCons (fz (dLk 2 (dComp (dKeys (dBVar 2)) [7, 8] (.tp [(.nm 7), (.nm 8)]) dYes (dTup (dCons (dVar 7) (dCons (dVar 8) (dCons (fz (dOp fIx (dBVar 2) (dTup (dCons (dVar 7) (dCons (dVar 8) dNil))))) dNil))))))) dNil))) dNil))) dNil))))))))))
def q__law_spoilt_v0 : FD := ⟨"_law_spoilt", 2, 10, b__law_spoilt_v0⟩
abbrev i__law_spoilt_v0 : Nat := 220

def b__law_story_v0 (C : Calls) : DS :=
  (dSeqS
  (dSet 2 (dOp fAdd (dC (.int 1)) (fz (dCall C 238 (dCons (dVar 0) (dCons (dVar 1) dNil))))))
  (dSeqS
  (dSet 3 (dIfR (dB (fz (dOp fEq (fz (dCall C 238 (dCons (dVar 0) (dCons (dC (.int 2)) dNil)))) (dC (.int 0))))) (dOp fSub (dBVar 2) (dC (.int 1))) (dCall C 238 (dCons (dVar 0) (dCons (dVar 2) dNil)))))
  (dSeqS
  (dUnp (.tp [(.nm 4), (.nm 5)]) (fz (dCall C 218 (dCons (dVar 0) (dCons (fz (dCall C 274 (dCons (dVar 0) (dCons (dVar 2) dNil)))) (dCons (dVar 3) dNil))))))
  (dRet (rv (dTup (dCons (dVar 4) (dCons (dVar 5) (dCons (dTup (dCons (dVar 2) (dCons (dVar 3) (dCons (fz (dCall C 107 (dCons (dVar 0) (dCons (dVar 4) (dCons (dVar 5) dNil))))) dNil)))) dNil)))))))))
def q__law_story_v0 : FD := ⟨"_law_story", 2, 6, b__law_story_v0⟩
abbrev i__law_story_v0 : Nat := 228

def b__law_strewn (C : Calls) : DS :=
  (dSeqS
  (dPar [2, 3] (rCons (dBlt bList (dCons (dBVar 1) dNil)) (rCons (dLst dNil) rNil)))
  (dSeqS
  (dWhile (dB (fz (dOp fNe (dBVar 2) (fz (dLst dNil))))) (dAppPop 3 2 (fz (dCall C 238 (dCons (dVar 0) (dCons (fz (dBlt bLen (dCons (dBVar 2) dNil))) dNil))))))
  (dRet (dMv 3))))
def q__law_strewn : FD := ⟨"_law_strewn", 2, 4, b__law_strewn⟩
abbrev i__law_strewn : Nat := 230

def b__law_sum_of (C : Calls) : DS :=
  (dSeqS
  (dUnp (.tp [(.nm 2), (.nm 3)]) (dTup (dCons (dC (.int 0)) (dCons (dC (.int 1)) dNil))))
  (dSeqS
  (dFor (dSeq (dVar 0)) (.nm 1) (dPar [2, 3] (rCons (dOp fAdd (fz (dOp fMul (dBVar 2) (fz (dOp fIx (dBVar 1) (dC (.int 1)))))) (fz (dOp fMul (fz (dOp fIx (dBVar 1) (dC (.int 0)))) (dBVar 3)))) (rCons (dOp fMul (dBVar 3) (fz (dOp fIx (dBVar 1) (dC (.int 1))))) rNil))))
  (dRet (dCall C 129 (dCons (dVar 2) (dCons (dVar 3) dNil))))))
def q__law_sum_of : FD := ⟨"_law_sum_of", 1, 4, b__law_sum_of⟩
abbrev i__law_sum_of : Nat := 231

def b__law_swaps (C : Calls) : DS :=
  (dSeqS
  (dSet 2 (dLst dNil))
  (dSeqS
  (dFor (dRange1 (fz (dBlt bLen (dCons (dBVar 1) dNil)))) (.nm 3) (dMut1 2 fExt (fz (dComp (dRange2 (fz (dOp fAdd (dBVar 3) (dC (.int 1)))) (fz (dBlt bLen (dCons (dBVar 1) dNil)))) [4] (.nm 4) (dB (fz (dCall C 58 (dCons (dVar 0) (dCons (fz (dCall C 261 (dCons (dVar 1) (dCons (dVar 3) (dCons (dVar 4) dNil))))) dNil))))) (dTup (dCons (dVar 3) (dCons (dVar 4) dNil)))))))
  (dRet (dMv 2))))
def q__law_swaps : FD := ⟨"_law_swaps", 2, 5, b__law_swaps⟩
abbrev i__law_swaps : Nat := 235

def b__law_take (C : Calls) : DS :=
  (dSeqS
  (dIfS (dB (fz (dOp fGt (fz (dOp fIx (dBVar 0) (dC (.int 0)))) (dC (.int 0))))) (dSeqS
  (dSet 4 (dOp fMod (fz (dOp fIx (dBVar 0) (dC (.int 0)))) (dBVar 1)))
  (dSeqS
  (dPutL 0 (dC (.int 0)) (fz (dOp fDiv (fz (dOp fIx (dBVar 0) (dC (.int 0)))) (dBVar 1))))
  (dRet (dMv 4)))) dSkip)
  (dSeqS
  (dIfS (dB (fz (dOp fGt (dBVar 1) (fz (dOp fPow (dC (.int 10)) (dC (.int 7))))))) (dRet (dOp fMod (fz (dOp fAdd (fz (dCall C 238 (dCons (dVar 0) (dCons (fz (dOp fPow (dC (.int 10)) (dC (.int 7)))) dNil)))) (fz (dOp fMul (fz (dOp fPow (dC (.int 10)) (dC (.int 7)))) (fz (dCall C 238 (dCons (dVar 0) (dCons (fz (dOp fAdd (fz (dOp fDiv (dBVar 1) (fz (dOp fPow (dC (.int 10)) (dC (.int 7)))))) (dC (.int 1)))) dNil)))))))) (dBVar 1))) dSkip)
  (dSeqS
  (dPutL 0 (dC (.int 2)) (fz (dOp fAdd (fz (dOp fIx (dBVar 0) (dC (.int 2)))) (dC (.int 1)))))
  (dSeqS
  (dSet 2 (dOp fMod (fz (dOp fMul (fz (dOp fAdd (fz (dOp fIx (dBVar 0) (dC (.int 1)))) (fz (dOp fMul (dC (.int 48271)) (fz (dOp fIx (dBVar 0) (dC (.int 2)))))))) (fz (dOp fAdd (dC (.int 39373)) (fz (dOp fIx (dBVar 0) (dC (.int 2)))))))) (dC (.int 2147483647))))
  (dSeqS
  (dSet 3 (dOp fMod (fz (dOp fMul (fz (dOp fAdd (fz (dOp fAdd (dBVar 2) (fz (dOp fIx (dBVar 0) (dC (.int 2)))))) (fz (dOp fDiv (fz (dOp fIx (dBVar 0) (dC (.int 1)))) (dC (.int 1000003)))))) (fz (dOp fAdd (fz (dOp fMod (dBVar 2) (dC (.int 40009)))) (dC (.int 7)))))) (dC (.int 2147483629))))
  (dRet (dOp fMod (fz (dOp fDiv (fz (dOp fMod (fz (dOp fAdd (fz (dOp fMul (dBVar 3) (dC (.int 48271)))) (dBVar 2))) (dC (.int 2147483587)))) (dC (.int 64)))) (dBVar 1))))))))
def q__law_take : FD := ⟨"_law_take", 2, 5, b__law_take⟩
abbrev i__law_take : Nat := 238

def b__law_tale (C : Calls) : DS :=
  (dSeqS
  (dSet 2 (dOp fAdd (dC (.int 1)) (fz (dCall C 238 (dCons (dVar 0) (dCons (dVar 1) dNil))))))
  (dSeqS
  (dSet 3 (dIfR (dB (fz (dOp fEq (fz (dCall C 238 (dCons (dVar 0) (dCons (dC (.int 2)) dNil)))) (dC (.int 0))))) (dOp fSub (dBVar 2) (dC (.int 1))) (dCall C 238 (dCons (dVar 0) (dCons (dVar 2) dNil)))))
  (dSeqS
  (dUnp (.tp [(.nm 4), (.nm 5)]) (fz (dCall C 218 (dCons (dVar 0) (dCons (fz (dCall C 274 (dCons (dVar 0) (dCons (dVar 2) dNil)))) (dCons (dVar 3) dNil))))))
  (dRet (rv (dTup (dCons (dVar 4) (dCons (dTup (dCons (dVar 2) (dCons (dVar 3) (dCons (fz (dCall C 107 (dCons (dVar 0) (dCons (dVar 4) (dCons (dVar 5) dNil))))) dNil)))) dNil))))))))
def q__law_tale : FD := ⟨"_law_tale", 2, 6, b__law_tale⟩
abbrev i__law_tale : Nat := 239

def b__law_walked (C : Calls) : DS :=
  (dSeqS
  (dSet 4 (dLst dNil))
  (dSeqS
  (dFor (dRange1 (fz (dCall C 238 (dCons (dVar 0) (dCons (fz (dOp fAdd (dBVar 3) (dC (.int 1)))) dNil))))) (.nm 5) (dSeqS
  (dSet 6 (dCall C 235 (dCons (dVar 1) (dCons (dVar 2) dNil))))
  (dIfS (dB (fz (dOp fNe (dBVar 6) (fz (dLst dNil))))) (dSeqS
  (dFrz 6 (dMut1 4 fApp (fz (dCall C 110 (dCons (dVar 0) (dCons (dVar 6) dNil))))))
  (dSet 2 (dCall C 261 (dCons (dVar 2) (dCons (fz (dOp fIx (fz (dOp fIx (dBVar 4) (fz (dUn fNeg (dC (.int 1)))))) (dC (.int 0)))) (dCons (fz (dOp fIx (fz (dOp fIx (dBVar 4) (fz (dUn fNeg (dC (.int 1)))))) (dC (.int 1)))) dNil)))))) dSkip)))
  (dFrz 4 (dRet (rv (dTup (dCons (dVar 2) (dCons (dVar 4) dNil))))))))
def q__law_walked : FD := ⟨"_law_walked", 4, 7, b__law_walked⟩
abbrev i__law_walked : Nat := 268

def b__law_wood_v0 (C : Calls) : DS :=
  (dSeqS
  (dPar [3, 4, 5] (rCons (dCall C 230 (dCons (dVar 0) (dCons (fz (dMkL (dRange1 (dVar 1)))) dNil))) (rCons (dLst dNil) (rCons (dCall C 238 (dCons (dVar 0) (dCons (dC (.int 3)) dNil))) rNil))))
  (dSeqS
  (dFor (dRange2 (dC (.int 1)) (dVar 1)) (.nm 2) (dSeqS
  (dSet 6 (dIfR (dB (fz (dOp fGt (dBVar 5) (dC (.int 0))))) (dCall C 238 (dCons (dVar 0) (dCons (dVar 2) dNil))) (dBlt bMax2 (dCons (dC (.int 0)) (dCons (fz (dOp fSub (fz (dOp fSub (dBVar 2) (dC (.int 1)))) (fz (dCall C 238 (dCons (dVar 0) (dCons (dC (.int 2)) dNil)))))) dNil)))))
  (dMut1 4 fApp (fz (dBlt bTuple (dCons (fz (dBlt bSorted (dCons (fz (dLst (dCons (fz (dOp fIx (dBVar 3) (dBVar 2))) (dCons (fz (dOp fIx (dBVar 3) (dBVar 6))) dNil)))) dNil))) dNil))))))
  (dRet (rv (dTup (dCons (dVar 1) (dCons (fz (dBlt bTuple (dCons (fz (dBlt bSorted (dCons (dBVar 4) dNil))) dNil))) dNil)))))))
def q__law_wood_v0 : FD := ⟨"_law_wood", 2, 7, b__law_wood_v0⟩
abbrev i__law_wood_v0 : Nat := 274

def b__wall (C : Calls) : DS :=
  (dWhile (dB (dC (.bl true))) dSkip)
def q__wall : FD := ⟨"_wall", 1, 1, b__wall⟩
abbrev i__wall : Nat := 279

def b_added (C : Calls) : DS :=
  (dRet (dCall C 412 (dCons (fz (dOp fAdd (fz (dOp fMul (fz (dOp fIx (dBVar 0) (dC (.int 0)))) (fz (dOp fIx (dBVar 1) (dC (.int 1)))))) (fz (dOp fMul (fz (dOp fIx (dBVar 1) (dC (.int 0)))) (fz (dOp fIx (dBVar 0) (dC (.int 1)))))))) (dCons (fz (dOp fMul (fz (dOp fIx (dBVar 0) (dC (.int 1)))) (fz (dOp fIx (dBVar 1) (dC (.int 1)))))) dNil))))
def q_added : FD := ⟨"added", 2, 2, b_added⟩
abbrev i_added : Nat := 280

def b_are_few (C : Calls) : DS :=
  (dSeqS
  (dSet 2 (dComp (dSeq (fz (dCall C 435 (dCons (dVar 0) dNil)))) [3, 4] (.tp [(.nm 3), (.nm 4)]) (dAndT (dB (fz (dOp fLe (dBVar 3) (dBVar 4)))) (dB (fz (dOp fLe (dBVar 3) (dBVar 1))))) (dVar 3)))
  (dRet (dOp fLe (fz (dBlt bLen (dCons (dBVar 2) dNil))) (dBVar 1))))
def q_are_few : FD := ⟨"are_few", 2, 5, b_are_few⟩
abbrev i_are_few : Nat := 284

def b_are_pairs (C : Calls) : DS :=
  (dSeqS
  (dIfS (dOrT (dNotT (dB (fz (dBlt bIsi (dCons (dBVar 0) (dCons (dC (.ty "list")) dNil)))))) (dNotT (dB (fz (dBlt bAll (dCons (fz (dComp (dSeq (dBVar 0)) [3] (.nm 3) dYes (dAnd (fz (dBlt bIsi (dCons (dBVar 3) (dCons (dC (.ty "tuple")) dNil)))) (fz (dOp fEq (fz (dBlt bLen (dCons (dBVar 3) dNil))) (dC (.int 2))))))) dNil)))))) (dRet (rv (dC (.bl false)))) dSkip)
  (dRet (dBlt bAll (dCons (fz (dComp (dSeq (dBVar 0)) [1, 2] (.tp [(.nm 1), (.nm 2)]) dYes (dAnd (fz (dCall C 312 (dCons (dVar 1) dNil))) (fz (dCall C 312 (dCons (dVar 2) dNil)))))) dNil))))
def q_are_pairs : FD := ⟨"are_pairs", 1, 4, b_are_pairs⟩
abbrev i_are_pairs : Nat := 285

def b_are_towns (C : Calls) : DS :=
  (dSeqS
  (dIfS (dOrT (dNotT (dB (fz (dBlt bIsi (dCons (dBVar 0) (dCons (dC (.ty "tuple")) dNil)))))) (dB (fz (dOp fNe (fz (dBlt bLen (dCons (dBVar 0) dNil))) (dBVar 2))))) (dRet (rv (dC (.bl false)))) dSkip)
  (dRet (dBlt bAll (dCons (fz (dComp (dSeq (dBVar 0)) [3] (.nm 3) dYes (dAnd (fz (dCall C 312 (dCons (dVar 3) dNil))) (dChain fLe fLt (dC (.int 0)) (dBVar 3) (dBVar 1))))) dNil))))
def q_are_towns : FD := ⟨"are_towns", 3, 4, b_are_towns⟩
abbrev i_are_towns : Nat := 286

def b_begun (C : Calls) : DS :=
  (dSeqS
  (dUnp (.tp [(.nm 3), (.nm 4), (.nm 5)]) (fz (dCall C 408 (dCons (dVar 0) dNil))))
  (dSeqS
  (dSet 2 (dComp (dSeq (dBVar 5)) [6] (.nm 6) (dOrT (dB (fz (dOp fEq (fz (dOp fIx (dBVar 6) (dC (.int 1)))) (dC (.str "end"))))) (dB (fz (dOp fGe (fz (dOp fIx (dBVar 6) (dC (.int 0)))) (fz (dBlt bLen (dCons (dBVar 1) dNil))))))) (dVar 6)))
  (dRet (rv (dTup (dCons (dVar 3) (dCons (dVar 4) (dCons (fz (dBlt bTuple (dCons (fz (dBlt bSorted (dCons (fz (dOp fAdd (dBVar 2) (fz (dComp (dEnum (dVar 1)) [7, 8] (.tp [(.nm 7), (.nm 8)]) dYes (dTup (dCons (dVar 7) (dCons (dC (.str "closed")) (dCons (dVar 8) dNil)))))))) dNil))) dNil))) dNil))))))))
def q_begun : FD := ⟨"begun", 2, 9, b_begun⟩
abbrev i_begun : Nat := 288

def b_chance_before (C : Calls) : DS :=
  (dSeqS
  (dDrop (fz (dCall C 386 (dCons (dVar 0) (dCons (fz (dLst (dCons (dVar 1) (dCons (dVar 2) dNil)))) dNil)))))
  (dSeqS
  (dSet 3 (dBlt bSum (dCons (fz (dCall C 433 (dCons (dVar 0) (dCons (dVar 1) dNil)))) dNil)))
  (dSeqS
  (dFor (dRange1 (fz (dOp fIx (dBVar 0) (dC (.int 1))))) (.nm 4) (dAug 3 fSub (fz (dBlt bSum (dCons (fz (dComp (dRange1 (dVar 4)) [5] (.nm 5) dYes (fz (dCall C 407 (dCons (dVar 0) (dCons (fz (dLst (dCons (dTup (dCons (dVar 5) (dCons (dVar 2) dNil))) (dCons (dTup (dCons (dVar 4) (dCons (dVar 1) dNil))) dNil)))) dNil)))))) dNil)))))
  (dRet (dCall C 412 (dCons (dVar 3) (dCons (fz (dCall C 295 (dCons (dVar 0) dNil))) dNil)))))))
def q_chance_before : FD := ⟨"chance_before", 3, 6, b_chance_before⟩
abbrev i_chance_before : Nat := 289

def b_chances_of (C : Calls) : DS :=
  (dSeqS
  (dDrop (fz (dCall C 386 (dCons (dVar 0) (dCons (fz (dLst (dCons (dVar 1) dNil))) dNil)))))
  (dSeqS
  (dSet 2 (dCall C 295 (dCons (dVar 0) dNil)))
  (dRet (dComp (dSeq (fz (dCall C 433 (dCons (dVar 0) (dCons (dVar 1) dNil))))) [3] (.nm 3) dYes (fz (dCall C 412 (dCons (dVar 3) (dCons (dVar 2) dNil))))))))
def q_chances_of : FD := ⟨"chances_of", 2, 4, b_chances_of⟩
abbrev i_chances_of : Nat := 290

def b_checked (C : Calls) : DS :=
  (dSeqS
  (dIfS (dB (fz (dOp fIsN (dBVar 0) (dC .non)))) dNever dSkip)
  (dRet (dMv 0)))
def q_checked : FD := ⟨"checked", 2, 2, b_checked⟩
abbrev i_checked : Nat := 291

def b_closed_later (C : Calls) : DS :=
  (dSeqS
  (dDrop (fz (dCall C 387 (dCons (dVar 0) (dCons (dVar 1) (dCons (dVar 2) dNil))))))
  (dSeqS
  (dDrop (fz (dCall C 411 (dCons (dVar 0) (dCons (fz (dOp fAdd (dBVar 1) (dTup (dCons (dVar 2) dNil)))) dNil)))))
  (dRet (dOp fAdd (dBVar 1) (dTup (dCons (dVar 2) dNil))))))
def q_closed_later : FD := ⟨"closed_later", 3, 3, b_closed_later⟩
abbrev i_closed_later : Nat := 292

def b_count_after (C : Calls) : DS :=
  (dSeqS
  (dIfS (dNotT (dB (fz (dBlt bAll (dCons (fz (dComp (dSeq (fz (dCall C 399 (dCons (dVar 0) (dCons (dC (.str "closed")) dNil))))) [2, 3] (.tp [(.nm 2), (.nm 3)]) dYes (dOr (fz (dOp fGe (dBVar 2) (fz (dBlt bLen (dCons (dBVar 1) dNil))))) (fz (dOp fEq (fz (dOp fIx (dBVar 1) (dBVar 2))) (dBVar 3)))))) dNil))))) (dRet (rv (dC (.int 0)))) dSkip)
  (dRet (dCall C 295 (dCons (fz (dCall C 288 (dCons (dVar 0) (dCons (dVar 1) dNil)))) dNil))))
def q_count_after : FD := ⟨"count_after", 2, 4, b_count_after⟩
abbrev i_count_after : Nat := 293

def b_count_orders (C : Calls) : DS :=
  (dSeqS
  (dIfS (dNotT (dB (fz (dCall C 317 (dCons (dVar 0) dNil))))) (dRet (rv (dC (.int 0)))) dSkip)
  (dSeqS
  (dSet 1 (dBlt bDict (dCons (fz (dCall C 399 (dCons (dVar 0) (dCons (dC (.str "closed")) dNil)))) dNil)))
  (dSeqS
  (dSet 2 (dVals (dBVar 1)))
  (dSeqS
  (dSet 3 (dComp (dRange1 (fz (dOp fIx (dBVar 0) (dC (.int 0))))) [7] (.nm 7) (dB (fz (dOp fNotIn (dBVar 7) (dBVar 2)))) (fz (dOp fIx (fz (dCall C 422 (dCons (dVar 0) (dCons (dVar 7) dNil)))) (dC (.int 0))))))
  (dSeqS
  (dUnp (.tp [(.nm 5), (.nm 6)]) (dTup (dCons (dC (.int 1)) (dCons (dC (.int 0)) dNil))))
  (dSeqS
  (dFor (dRange1 (fz (dOp fIx (dBVar 0) (dC (.int 1))))) (.nm 4) (dIfS (dB (fz (dOp fNotIn (dBVar 4) (dBVar 1)))) (dSeqS
  (dAug 5 fIMul (fz (dBlt bMax2 (dCons (dC (.int 0)) (dCons (fz (dOp fSub (fz (dBlt bLen (dCons (fz (dComp (dSeq (dBVar 3)) [8] (.nm 8) (dB (fz (dOp fLe (dBVar 8) (dBVar 4)))) (dVar 8))) dNil))) (dBVar 6))) dNil)))))
  (dAug 6 (pureO (gI fun i j => i + j)) (dC (.int 1)))) dSkip))
  (dRet (dMv 5))))))))
def q_count_orders : FD := ⟨"count_orders", 1, 9, b_count_orders⟩
abbrev i_count_orders : Nat := 295

def b_count_stories (C : Calls) : DS :=
  (dRet (dOp fMul (fz (dCall C 295 (dCons (dVar 0) dNil))) (fz (dCall C 393 (dCons (dVar 0) dNil)))))
def q_count_stories : FD := ⟨"count_stories", 1, 1, b_count_stories⟩
abbrev i_count_stories : Nat := 296

def b_different (C : Calls) : DS :=
  (dRet (dIfR (dAndT (dB (fz (dOp fNotN (dBVar 0) (dC .non)))) (dB (fz (dOp fEq (fz (dLenSet (dBVar 0))) (fz (dBlt bLen (dCons (dBVar 0) dNil))))))) (rv (dVar 0)) (rv (dC .non))))
def q_different : FD := ⟨"different", 1, 1, b_different⟩
abbrev i_different : Nat := 298

def b_distance (C : Calls) : DS :=
  (dRet (dBlt bSum (dCons (fz (dComp (dSeq (fz (dCall C 413 (dCons (dVar 0) (dCons (dVar 1) (dCons (dVar 2) dNil)))))) [3] (.nm 3) dYes (fz (dOp fSub (fz (dBlt bLen (dCons (dBVar 3) dNil))) (dC (.int 1)))))) dNil)))
def q_distance : FD := ⟨"distance", 3, 4, b_distance⟩
abbrev i_distance : Nat := 299

def b_ends_of (C : Calls) : DS :=
  (dRet (dBlt bDict (dCons (fz (dCall C 399 (dCons (dVar 0) (dCons (dC (.str "end")) dNil)))) dNil)))
def q_ends_of : FD := ⟨"ends_of", 1, 1, b_ends_of⟩
abbrev i_ends_of : Nat := 302

def b_evidence (C : Calls) : DS :=
  (dSeqS
  (dSet 1 (dCall C 392 (dCons (dVar 0) dNil)))
  (dSeqS
  (dIfS (dB (fz (dOp fGt (fz (dBlt bLen (dCons (dBVar 1) dNil))) (dC (.int 0))))) (dRet (rv (dTup (dCons (dC (.str "never")) (dCons (fz (dOp fIx (dBVar 1) (dC (.int 0)))) dNil))))) dSkip)
  (dSeqS
  (dSet 2 (dComp (dRange1 (fz (dOp fIx (dBVar 0) (dC (.int 1))))) [3] (.nm 3) (dB (fz (dCall C 284 (dCons (dVar 0) (dCons (dVar 3) dNil))))) (dVar 3)))
  (dRet (dIfR (dB (fz (dOp fGt (fz (dBlt bLen (dCons (dBVar 2) dNil))) (dC (.int 0))))) (rv (dTup (dCons (dC (.str "few")) (dCons (fz (dOp fIx (dBVar 2) (dC (.int 0)))) dNil)))) (rv (dC .non)))))))
def q_evidence : FD := ⟨"evidence", 1, 4, b_evidence⟩
abbrev i_evidence : Nat := 303

def b_exchanged (C : Calls) : DS :=
  (dSeqS
  (dDrop (fz (dCall C 388 (dCons (dVar 0) (dCons (dVar 1) dNil)))))
  (dSeqS
  (dIfS (dB (fz (dOp fNotIn (fz (dBlt bTuple (dCons (dBVar 2) dNil))) (fz (dCall C 406 (dCons (dVar 0) (dCons (dVar 1) dNil))))))) dNever dSkip)
  (dRet (dCall C 423 (dCons (dVar 1) (dCons (fz (dOp fIx (dBVar 2) (dC (.int 0)))) (dCons (fz (dOp fIx (dBVar 2) (dC (.int 1)))) dNil)))))))
def q_exchanged : FD := ⟨"exchanged", 3, 3, b_exchanged⟩
abbrev i_exchanged : Nat := 304

def b_exchanges (C : Calls) : DS :=
  (dSeqS
  (dDrop (fz (dCall C 388 (dCons (dVar 0) (dCons (dVar 1) dNil)))))
  (dRet (dCall C 406 (dCons (dVar 0) (dCons (dVar 1) dNil)))))
def q_exchanges : FD := ⟨"exchanges", 2, 2, b_exchanges⟩
abbrev i_exchanges : Nat := 305

def b_first_order (C : Calls) : DS :=
  (dSeqS
  (dDrop (fz (dCall C 390 (dCons (dVar 0) dNil))))
  (dRet (dCall C 403 (dCons (dVar 0) (dCons (dC (.int 0)) dNil)))))
def q_first_order : FD := ⟨"first_order", 1, 1, b_first_order⟩
abbrev i_first_order : Nat := 306

def b_gcd (C : Calls) : DS :=
  (dSeqS
  (dWhile (dB (fz (dOp fGt (dBVar 1) (dC (.int 0))))) (dPar [0, 1] (rCons (rv (dVar 1)) (rCons (dOp fMod (dBVar 0) (dBVar 1)) rNil))))
  (dRet (dMv 0)))
def q_gcd : FD := ⟨"gcd", 2, 2, b_gcd⟩
abbrev i_gcd : Nat := 307

def b_is_closing (C : Calls) : DS :=
  (dSeqS
  (dIfS (dOrT (dNotT (dB (fz (dBlt bIsi (dCons (dBVar 1) (dCons (dC (.ty "tuple")) dNil)))))) (dNotT (dB (fz (dBlt bAll (dCons (fz (dComp (dSeq (dBVar 1)) [3] (.nm 3) dYes (dAnd (fz (dCall C 312 (dCons (dVar 3) dNil))) (dChain fLe fLt (dC (.int 0)) (dBVar 3) (fz (dOp fIx (dBVar 0) (dC (.int 0)))))))) dNil)))))) (dRet (rv (dC (.bl false)))) dSkip)
  (dSeqS
  (dSet 2 (dOp fIx (dBVar 0) (dC (.int 1))))
  (dSeqS
  (dFor (dSeq (dVar 1)) (.nm 3) (dSeqS
  (dFrz 2 (dIfS (dB (fz (dOp fNe (fz (dBlt bLen (dCons (fz (dCall C 395 (dCons (dVar 2) (dCons (dVar 3) dNil)))) dNil))) (dC (.int 1))))) (dRet (rv (dC (.bl false)))) dSkip))
  (dFrz 2 (dSet 2 (dCall C 417 (dCons (dVar 2) (dCons (dVar 3) dNil)))))))
  (dRet (rv (dC (.bl true)))))))
def q_is_closing : FD := ⟨"is_closing", 2, 4, b_is_closing⟩
abbrev i_is_closing : Nat := 309

def b_is_journal (C : Calls) : DS :=
  (dSeqS
  (dIfS (dOrT (dNotT (dB (fz (dBlt bIsi (dCons (dBVar 0) (dCons (dC (.ty "tuple")) dNil)))))) (dOrT (dB (fz (dOp fNe (fz (dBlt bLen (dCons (dBVar 0) dNil))) (dC (.int 3))))) (dOrT (dNotT (dB (fz (dCall C 312 (dCons (fz (dOp fIx (dBVar 0) (dC (.int 0)))) dNil))))) (dNotT (dB (fz (dCall C 312 (dCons (fz (dOp fIx (dBVar 0) (dC (.int 1)))) dNil)))))))) (dRet (rv (dC (.bl false)))) dSkip)
  (dSeqS
  (dIfS (dOrT (dNotT (dB (dChain fLe fLt (dC (.int 0)) (fz (dOp fIx (dBVar 0) (dC (.int 1)))) (fz (dOp fIx (dBVar 0) (dC (.int 0))))))) (dNotT (dB (fz (dBlt bIsi (dCons (fz (dOp fIx (dBVar 0) (dC (.int 2)))) (dCons (dC (.ty "tuple")) dNil))))))) (dRet (rv (dC (.bl false)))) dSkip)
  (dSeqS
  (dIfS (dNotT (dB (fz (dBlt bAll (dCons (fz (dComp (dSeq (fz (dOp fIx (dBVar 0) (dC (.int 2))))) [5] (.nm 5) dYes (fz (dCall C 311 (dCons (dVar 5) (dCons (fz (dOp fIx (dBVar 0) (dC (.int 0)))) (dCons (fz (dOp fIx (dBVar 0) (dC (.int 1)))) dNil))))))) dNil))))) (dRet (rv (dC (.bl false)))) dSkip)
  (dSeqS
  (dSet 1 (dComp (dSeq (fz (dOp fIx (dBVar 0) (dC (.int 2))))) [2, 3, 4] (.tp [(.nm 2), (.nm 3), (.nm 4)]) dYes (dTup (dCons (dVar 2) (dCons (dVar 3) dNil)))))
  (dRet (dOp fEq (dBVar 1) (fz (dSortSet (dBVar 1)))))))))
def q_is_journal : FD := ⟨"is_journal", 1, 6, b_is_journal⟩
abbrev i_is_journal : Nat := 310

def b_is_number (C : Calls) : DS :=
  (dRet (rv (dAnd (fz (dBlt bIsi (dCons (dBVar 0) (dCons (dC (.ty "int")) dNil)))) (dNot (fz (dBlt bIsi (dCons (dBVar 0) (dCons (dC (.ty "bool")) dNil))))))))
def q_is_number : FD := ⟨"is_number", 1, 1, b_is_number⟩
abbrev i_is_number : Nat := 312

def b_is_open (C : Calls) : DS :=
  (dRet (dBlt bAll (dCons (fz (dComp (dEnum (dVar 1)) [2, 3] (.tp [(.nm 2), (.nm 3)]) dYes (fz (dOp fNotIn (dBVar 3) (fz (dSl (dBVar 0) oNone (oSome (fz (dOp fAdd (dBVar 2) (dC (.int 1))))))))))) dNil)))
def q_is_open : FD := ⟨"is_open", 2, 4, b_is_open⟩
abbrev i_is_open : Nat := 313

def b_is_order (C : Calls) : DS :=
  (dSeqS
  (dIfS (dOrT (dNotT (dB (fz (dCall C 286 (dCons (dVar 1) (dCons (fz (dOp fIx (dBVar 0) (dC (.int 0)))) (dCons (fz (dOp fIx (dBVar 0) (dC (.int 1)))) dNil))))))) (dB (fz (dOp fNe (fz (dLenSet (dBVar 1))) (fz (dOp fIx (dBVar 0) (dC (.int 1)))))))) (dRet (rv (dC (.bl false)))) dSkip)
  (dSeqS
  (dIfS (dNotT (dB (fz (dBlt bAll (dCons (fz (dComp (dSeq (fz (dCall C 399 (dCons (dVar 0) (dCons (dC (.str "closed")) dNil))))) [2, 4] (.tp [(.nm 2), (.nm 4)]) dYes (fz (dOp fEq (fz (dOp fIx (dBVar 1) (dBVar 2))) (dBVar 4))))) dNil))))) (dRet (rv (dC (.bl false)))) dSkip)
  (dRet (dBlt bAll (dCons (fz (dComp (dSeq (fz (dCall C 399 (dCons (dVar 0) (dCons (dC (.str "end")) dNil))))) [2, 3] (.tp [(.nm 2), (.nm 3)]) dYes (fz (dOp fNotIn (dBVar 3) (fz (dSl (dBVar 1) oNone (oSome (fz (dOp fAdd (dBVar 2) (dC (.int 1))))))))))) dNil)))))
def q_is_order : FD := ⟨"is_order", 2, 5, b_is_order⟩
abbrev i_is_order : Nat := 314

def b_is_possible (C : Calls) : DS :=
  (dRet (dOp fGt (fz (dCall C 295 (dCons (dVar 0) dNil))) (dC (.int 0))))
def q_is_possible : FD := ⟨"is_possible", 1, 1, b_is_possible⟩
abbrev i_is_possible : Nat := 315

def b_is_sound (C : Calls) : DS :=
  (dRet (dBlt bAll (dCons (fz (dComp (dSeq (fz (dCall C 399 (dCons (dVar 0) (dCons (dC (.str "closed")) dNil))))) [1, 2] (.tp [(.nm 1), (.nm 2)]) dYes (fz (dOp fEq (fz (dCall C 422 (dCons (dVar 0) (dCons (dVar 2) dNil)))) (dTup (dCons (dVar 1) (dCons (dVar 1) dNil))))))) dNil)))
def q_is_sound : FD := ⟨"is_sound", 1, 3, b_is_sound⟩
abbrev i_is_sound : Nat := 317

def b_is_story (C : Calls) : DS :=
  (dSeqS
  (dIfS (dOrT (dNotT (dB (fz (dBlt bIsi (dCons (dBVar 1) (dCons (dC (.ty "tuple")) dNil)))))) (dB (fz (dOp fNe (fz (dBlt bLen (dCons (dBVar 1) dNil))) (dC (.int 2)))))) (dRet (rv (dC (.bl false)))) dSkip)
  (dSeqS
  (dIfS (dOrT (dNotT (dB (fz (dCall C 286 (dCons (fz (dOp fIx (dBVar 1) (dC (.int 0)))) (dCons (fz (dOp fIx (dBVar 0) (dC (.int 0)))) (dCons (fz (dOp fIx (dBVar 0) (dC (.int 1)))) dNil))))))) (dNotT (dB (fz (dCall C 286 (dCons (fz (dOp fIx (dBVar 1) (dC (.int 1)))) (dCons (fz (dOp fIx (dBVar 0) (dC (.int 0)))) (dCons (fz (dOp fIx (dBVar 0) (dC (.int 1)))) dNil)))))))) (dRet (rv (dC (.bl false)))) dSkip)
  (dSeqS
  (dIfS (dOrT (dB (fz (dOp fNe (fz (dLenSet (fz (dOp fIx (dBVar 1) (dC (.int 0)))))) (fz (dOp fIx (dBVar 0) (dC (.int 1))))))) (dNotT (dB (fz (dCall C 313 (dCons (fz (dOp fIx (dBVar 1) (dC (.int 0)))) (dCons (fz (dOp fIx (dBVar 1) (dC (.int 1)))) dNil))))))) (dRet (rv (dC (.bl false)))) dSkip)
  (dRet (dBlt bAll (dCons (fz (dComp (dSeq (fz (dOp fIx (dBVar 0) (dC (.int 2))))) [2, 3, 4] (.tp [(.nm 2), (.nm 3), (.nm 4)]) dYes (fz (dOp fEq (fz (dOp fIx (fz (dOp fIx (dBVar 1) (fz (dBlt bInt (dCons (fz (dOp fEq (dBVar 3) (dC (.str "end")))) dNil))))) (dBVar 2))) (dBVar 4))))) dNil))))))
def q_is_story : FD := ⟨"is_story", 2, 5, b_is_story⟩
abbrev i_is_story : Nat := 318

def b_is_tree (C : Calls) : DS :=
  (dSeqS
  (dIfS (dOrT (dNotT (dB (fz (dBlt bIsi (dCons (dBVar 0) (dCons (dC (.ty "tuple")) dNil)))))) (dOrT (dB (fz (dOp fNe (fz (dBlt bLen (dCons (dBVar 0) dNil))) (dC (.int 2))))) (dOrT (dNotT (dB (fz (dCall C 312 (dCons (fz (dOp fIx (dBVar 0) (dC (.int 0)))) dNil))))) (dB (fz (dOp fLt (fz (dOp fIx (dBVar 0) (dC (.int 0)))) (dC (.int 1)))))))) (dRet (rv (dC (.bl false)))) dSkip)
  (dSeqS
  (dIfS (dOrT (dNotT (dB (fz (dBlt bIsi (dCons (fz (dOp fIx (dBVar 0) (dC (.int 1)))) (dCons (dC (.ty "tuple")) dNil)))))) (dNotT (dB (fz (dBlt bAll (dCons (fz (dComp (dSeq (fz (dOp fIx (dBVar 0) (dC (.int 1))))) [1] (.nm 1) dYes (fz (dCall C 316 (dCons (dVar 1) (dCons (fz (dOp fIx (dBVar 0) (dC (.int 0)))) dNil)))))) dNil)))))) (dRet (rv (dC (.bl false)))) dSkip)
  (dSeqS
  (dIfS (dOrT (dB (fz (dOp fNe (fz (dBlt bLen (dCons (fz (dOp fIx (dBVar 0) (dC (.int 1)))) dNil))) (fz (dOp fSub (fz (dOp fIx (dBVar 0) (dC (.int 0)))) (dC (.int 1))))))) (dB (fz (dOp fNe (fz (dBlt bList (dCons (fz (dOp fIx (dBVar 0) (dC (.int 1)))) dNil))) (fz (dSortSet (fz (dOp fIx (dBVar 0) (dC (.int 1)))))))))) (dRet (rv (dC (.bl false)))) dSkip)
  (dRet (dOp fEq (fz (dBlt bLen (dCons (fz (dCall C 410 (dCons (fz (dOp fIx (dBVar 0) (dC (.int 0)))) (dCons (fz (dOp fIx (dBVar 0) (dC (.int 1)))) dNil)))) dNil))) (fz (dOp fIx (dBVar 0) (dC (.int 0)))))))))
def q_is_tree : FD := ⟨"is_tree", 1, 2, b_is_tree⟩
abbrev i_is_tree : Nat := 319

def b_journal_in (C : Calls) : DS :=
  (dRet (dCall C 291 (dCons (fz (dCall C 322 (dCons (dVar 0) dNil))) (dCons (dVar 0) dNil))))
def q_journal_in : FD := ⟨"journal_in", 1, 1, b_journal_in⟩
abbrev i_journal_in : Nat := 320

def b_journal_of (C : Calls) : DS :=
  (dRet (rv (dTup (dCons (dVar 0) (dCons (fz (dBlt bLen (dCons (dBVar 1) dNil))) (dCons (fz (dBlt bTuple (dCons (fz (dComp (dEnum (dVar 2)) [3, 4] (.tp [(.nm 3), (.nm 4)]) dYes (dTup (dCons (dVar 3) (dCons (dC (.str "end")) (dCons (dVar 4) dNil)))))) dNil))) dNil))))))
def q_journal_of : FD := ⟨"journal_of", 3, 5, b_journal_of⟩
abbrev i_journal_of : Nat := 321

def b_least_closing (C : Calls) : DS :=
  (dSeqS
  (dPar [2, 3] (rCons (dOp fIx (dBVar 0) (dC (.int 1))) (rCons (dLst dNil) rNil)))
  (dSeqS
  (dFor (dRange1 (fz (dOp fSub (fz (dOp fIx (dBVar 0) (dC (.int 0)))) (dC (.int 1))))) (.nm 1) (dSeqS
  (dFrz 2 (dSet 4 (dOp fIx (fz (dCall C 385 (dCons (fz (dOp fIx (dBVar 0) (dC (.int 0)))) (dCons (dVar 2) dNil)))) (dC (.int 0)))))
  (dSeqS
  (dMut1 3 fApp (dVar 4))
  (dFrz 2 (dSet 2 (dCall C 417 (dCons (dVar 2) (dCons (dVar 4) dNil))))))))
  (dRet (dBlt bTuple (dCons (dBVar 3) dNil)))))
def q_least_closing : FD := ⟨"least_closing", 1, 5, b_least_closing⟩
abbrev i_least_closing : Nat := 383

def b_leaves (C : Calls) : DS :=
  (dRet (dCall C 385 (dCons (fz (dOp fIx (dBVar 0) (dC (.int 0)))) (dCons (fz (dOp fIx (dBVar 0) (dC (.int 1)))) dNil))))
def q_leaves : FD := ⟨"leaves", 1, 1, b_leaves⟩
abbrev i_leaves : Nat := 384

def b_leaves_of (C : Calls) : DS :=
  (dRet (dComp (dRange1 (dVar 0)) [2] (.nm 2) (dB (fz (dOp fEq (fz (dBlt bLen (dCons (fz (dCall C 395 (dCons (dVar 1) (dCons (dVar 2) dNil)))) dNil))) (dC (.int 1))))) (dVar 2)))
def q_leaves_of : FD := ⟨"leaves_of", 2, 3, b_leaves_of⟩
abbrev i_leaves_of : Nat := 385

def b_look (C : Calls) : DS :=
  (dSeqS
  (dDrop (fz (dCall C 390 (dCons (dVar 0) dNil))))
  (dFor (dSeq (dVar 1)) (.nm 2) (dDrop (fz (dCall C 391 (dCons (dVar 0) (dCons (dVar 2) dNil)))))))
def q_look : FD := ⟨"look", 2, 3, b_look⟩
abbrev i_look : Nat := 386

def b_look_close (C : Calls) : DS :=
  (dSeqS
  (dIfS (dNotT (dB (dChain fLe fLt (dC (.int 0)) (dBVar 2) (fz (dOp fIx (dBVar 0) (dC (.int 0))))))) dNever dSkip)
  (dIfS (dB (fz (dOp fIn (dBVar 2) (dBVar 1)))) dNever dSkip))
def q_look_close : FD := ⟨"look_close", 3, 3, b_look_close⟩
abbrev i_look_close : Nat := 387

def b_look_order (C : Calls) : DS :=
  (dSeqS
  (dSet 2 (dCall C 394 (dCons (dVar 0) (dCons (dVar 1) dNil))))
  (dIfS (dB (fz (dOp fNotN (dBVar 2) (dC .non)))) dNever dSkip))
def q_look_order : FD := ⟨"look_order", 2, 3, b_look_order⟩
abbrev i_look_order : Nat := 388

def b_look_orders (C : Calls) : DS :=
  (dSeqS
  (dDrop (fz (dCall C 388 (dCons (dVar 0) (dCons (dVar 1) dNil)))))
  (dSeqS
  (dDrop (fz (dCall C 388 (dCons (dVar 0) (dCons (dVar 2) dNil)))))
  (dIfS (dB (fz (dOp fNe (fz (dBlt bSorted (dCons (dBVar 1) dNil))) (fz (dBlt bSorted (dCons (dBVar 2) dNil)))))) dNever dSkip)))
def q_look_orders : FD := ⟨"look_orders", 3, 3, b_look_orders⟩
abbrev i_look_orders : Nat := 389

def b_look_possible (C : Calls) : DS :=
  (dIfS (dNotT (dB (fz (dCall C 315 (dCons (dVar 0) dNil))))) dNever dSkip)
def q_look_possible : FD := ⟨"look_possible", 1, 1, b_look_possible⟩
abbrev i_look_possible : Nat := 390

def b_look_town (C : Calls) : DS :=
  (dIfS (dNotT (dB (dChain fLe fLt (dC (.int 0)) (dBVar 1) (fz (dOp fIx (dBVar 0) (dC (.int 0))))))) dNever dSkip)
def q_look_town : FD := ⟨"look_town", 2, 2, b_look_town⟩
abbrev i_look_town : Nat := 391

def b_lost_towns (C : Calls) : DS :=
  (dSeqS
  (dSet 1 (dComp (dSeq (fz (dCall C 399 (dCons (dVar 0) (dCons (dC (.str "closed")) dNil))))) [2, 3] (.tp [(.nm 2), (.nm 3)]) (dB (fz (dOp fGt (fz (dOp fIx (fz (dCall C 422 (dCons (dVar 0) (dCons (dVar 3) dNil)))) (dC (.int 0)))) (fz (dOp fIx (fz (dCall C 422 (dCons (dVar 0) (dCons (dVar 3) dNil)))) (dC (.int 1))))))) (dVar 3)))
  (dRet (dSortSet (dBVar 1))))
def q_lost_towns : FD := ⟨"lost_towns", 1, 4, b_lost_towns⟩
abbrev i_lost_towns : Nat := 392

def b_lost_ways (C : Calls) : DS :=
  (dSeqS
  (dPar [2, 3] (rCons (dBlt bDict (dCons (fz (dCall C 399 (dCons (dVar 0) (dCons (dC (.str "end")) dNil)))) dNil)) (rCons (rv (dC (.int 1))) rNil)))
  (dSeqS
  (dFor (dRange1 (fz (dOp fIx (dBVar 0) (dC (.int 1))))) (.nm 1) (dIfS (dB (fz (dOp fNotIn (dBVar 1) (dBVar 2)))) (dAug 3 fIMul (fz (dOp fSub (fz (dOp fSub (fz (dOp fIx (dBVar 0) (dC (.int 0)))) (dC (.int 1)))) (dBVar 1)))) dSkip))
  (dRet (dMv 3))))
def q_lost_ways : FD := ⟨"lost_ways", 1, 4, b_lost_ways⟩
abbrev i_lost_ways : Nat := 393

def b_misfit (C : Calls) : DS :=
  (dSeqS
  (dFor (dRange1 (fz (dBlt bLen (dCons (dBVar 1) dNil)))) (.nm 2) (dIfS (dB (fz (dOp fEq (fz (dCall C 293 (dCons (dVar 0) (dCons (fz (dBlt bTuple (dCons (fz (dSl (dBVar 1) oNone (oSome (fz (dOp fAdd (dBVar 2) (dC (.int 1))))))) dNil))) dNil)))) (dC (.int 0))))) (dRet (dMv 2)) dSkip))
  (dRet (rv (dC .non))))
def q_misfit : FD := ⟨"misfit", 2, 3, b_misfit⟩
abbrev i_misfit : Nat := 394

def b_neighbours (C : Calls) : DS :=
  (dRet (dComp (dSeq (dBVar 0)) [2, 3] (.tp [(.nm 2), (.nm 3)]) (dB (fz (dOp fIn (dBVar 1) (dTup (dCons (dVar 2) (dCons (dVar 3) dNil)))))) (dIf (dB (fz (dOp fEq (dBVar 2) (dBVar 1)))) (dVar 3) (dVar 2))))
def q_neighbours : FD := ⟨"neighbours", 2, 4, b_neighbours⟩
abbrev i_neighbours : Nat := 395

def b_next_counts (C : Calls) : DS :=
  (dSeqS
  (dSet 2 (dComp (dRange1 (fz (dOp fIx (dBVar 0) (dC (.int 0))))) [3] (.nm 3) (dB (fz (dOp fNotIn (dBVar 3) (dBVar 1)))) (dTup (dCons (dVar 3) (dCons (fz (dCall C 293 (dCons (dVar 0) (dCons (fz (dOp fAdd (dBVar 1) (dTup (dCons (dVar 3) dNil)))) dNil)))) dNil)))))
  (dRet (dComp (dSeq (dBVar 2)) [3, 4] (.tp [(.nm 3), (.nm 4)]) (dB (fz (dOp fGt (dBVar 4) (dC (.int 0))))) (dTup (dCons (dVar 3) (dCons (dVar 4) dNil))))))
def q_next_counts : FD := ⟨"next_counts", 2, 5, b_next_counts⟩
abbrev i_next_counts : Nat := 396

def b_noted (C : Calls) : DS :=
  (dRet (dComp (dSeq (fz (dOp fIx (dBVar 0) (dC (.int 2))))) [2, 3, 4] (.tp [(.nm 2), (.nm 3), (.nm 4)]) (dB (fz (dOp fEq (dBVar 3) (dBVar 1)))) (dTup (dCons (dVar 2) (dCons (dVar 4) dNil)))))
def q_noted : FD := ⟨"noted", 2, 5, b_noted⟩
abbrev i_noted : Nat := 399

def b_number_of (C : Calls) : DS :=
  (dSeqS
  (dDrop (fz (dCall C 388 (dCons (dVar 0) (dCons (dVar 1) dNil)))))
  (dSeqS
  (dSet 2 (rv (dC (.int 0))))
  (dSeqS
  (dFor (dEnum (dVar 1)) (.tp [(.nm 3), (.nm 4)]) (dAug 2 (pureO (gI fun i j => i + j)) (fz (dBlt bSum (dCons (fz (dComp (dSeq (fz (dCall C 396 (dCons (dVar 0) (dCons (fz (dBlt bTuple (dCons (fz (dSl (dBVar 1) oNone (oSome (dVar 3)))) dNil))) dNil))))) [5, 6] (.tp [(.nm 5), (.nm 6)]) (dB (fz (dOp fLt (dBVar 5) (dBVar 4)))) (dVar 6))) dNil)))))
  (dRet (dMv 2)))))
def q_number_of : FD := ⟨"number_of", 2, 7, b_number_of⟩
abbrev i_number_of : Nat := 401

def b_open_orders (C : Calls) : DS :=
  (dRet (dOp fSub (fz (dCall C 407 (dCons (dVar 0) (dCons (fz (dLst (dCons (dTup (dCons (dVar 1) (dCons (dVar 2) dNil))) dNil))) dNil)))) (fz (dBlt bSum (dCons (fz (dComp (dRange1 (dVar 1)) [4] (.nm 4) dYes (fz (dCall C 407 (dCons (dVar 0) (dCons (fz (dLst (dCons (dTup (dCons (dVar 4) (dCons (dVar 3) dNil))) (dCons (dTup (dCons (dVar 1) (dCons (dVar 2) dNil))) dNil)))) dNil)))))) dNil)))))
def q_open_orders : FD := ⟨"open_orders", 4, 5, b_open_orders⟩
abbrev i_open_orders : Nat := 402

def b_order_at (C : Calls) : DS :=
  (dSeqS
  (dIfS (dNotT (dB (dChain fLe fLt (dC (.int 0)) (dBVar 1) (fz (dCall C 295 (dCons (dVar 0) dNil)))))) dNever dSkip)
  (dSeqS
  (dPar [3, 4] (rCons (rv (dTup dNil)) (rCons (rv (dVar 1)) rNil)))
  (dSeqS
  (dFor (dRange1 (fz (dOp fIx (dBVar 0) (dC (.int 1))))) (.nm 2) (dFor (dSeq (fz (dCall C 396 (dCons (dVar 0) (dCons (dVar 3) dNil))))) (.tp [(.nm 5), (.nm 6)]) (dSeqS
  (dIfS (dB (fz (dOp fLt (dBVar 4) (dBVar 6)))) (dSeqS
  (dSet 3 (dOp fAdd (dBVar 3) (dTup (dCons (dVar 5) dNil))))
  dBreak) dSkip)
  (dAug 4 fSub (dBVar 6)))))
  (dRet (dMv 3)))))
def q_order_at : FD := ⟨"order_at", 2, 7, b_order_at⟩
abbrev i_order_at : Nat := 403

def b_pairs_of (C : Calls) : DS :=
  (dSeqS
  (dSet 2 (dLst dNil))
  (dSeqS
  (dFor (dRange1 (fz (dBlt bLen (dCons (dBVar 1) dNil)))) (.nm 3) (dMut1 2 fExt (fz (dComp (dRange2 (fz (dOp fAdd (dBVar 3) (dC (.int 1)))) (fz (dBlt bLen (dCons (dBVar 1) dNil)))) [4] (.nm 4) (dB (fz (dCall C 314 (dCons (dVar 0) (dCons (fz (dCall C 423 (dCons (dVar 1) (dCons (dVar 3) (dCons (dVar 4) dNil))))) dNil))))) (dTup (dCons (dVar 3) (dCons (dVar 4) dNil)))))))
  (dRet (dMv 2))))
def q_pairs_of : FD := ⟨"pairs_of", 2, 5, b_pairs_of⟩
abbrev i_pairs_of : Nat := 406

def b_placed (C : Calls) : DS :=
  (dSeqS
  (dUnp (.tp [(.nm 4), (.nm 5), (.nm 6)]) (fz (dCall C 408 (dCons (dVar 0) dNil))))
  (dSeqS
  (dSet 2 (dBlt bDict (dCons (fz (dCall C 399 (dCons (dVar 0) (dCons (dC (.str "closed")) dNil)))) dNil)))
  (dSeqS
  (dFor (dSeq (dVar 1)) (.tp [(.nm 7), (.nm 8)]) (dSeqS
  (dIfS (dB (fz (dOp fNe (dDget (dBVar 2) (dBVar 7) (dVar 8)) (dBVar 8)))) (dRet (rv (dC (.int 0)))) dSkip)
  (dPutD 2 (dVar 7) (dVar 8))))
  (dSeqS
  (dSet 3 (dComp (dSeq (dBVar 6)) [9] (.nm 9) (dB (fz (dOp fEq (fz (dOp fIx (dBVar 9) (dC (.int 1)))) (dC (.str "end"))))) (dVar 9)))
  (dRet (dCall C 295 (dCons (dTup (dCons (dVar 4) (dCons (dVar 5) (dCons (fz (dBlt bTuple (dCons (fz (dBlt bSorted (dCons (fz (dOp fAdd (dBVar 3) (fz (dLk 2 (dComp (dKeys (dBVar 2)) [7] (.nm 7) dYes (dTup (dCons (dVar 7) (dCons (dC (.str "closed")) (dCons (fz (dOp fIx (dBVar 2) (dBVar 7))) dNil))))))))) dNil))) dNil))) dNil)))) dNil)))))))
def q_placed : FD := ⟨"placed", 2, 10, b_placed⟩
abbrev i_placed : Nat := 407

def b_plain (C : Calls) : DS :=
  (dRet (rv (dTup (dCons (fz (dOp fIx (dBVar 0) (dC (.int 0)))) (dCons (fz (dOp fIx (dBVar 0) (dC (.int 1)))) (dCons (fz (dBlt bTuple (dCons (fz (dComp (dSeq (fz (dOp fIx (dBVar 0) (dC (.int 2))))) [1] (.nm 1) dYes (fz (dBlt bTuple (dCons (dBVar 1) dNil))))) dNil))) dNil))))))
def q_plain : FD := ⟨"plain", 1, 2, b_plain⟩
abbrev i_plain : Nat := 408

def b_plan (C : Calls) : DS :=
  (dSeqS
  (dDrop (fz (dCall C 389 (dCons (dVar 0) (dCons (dVar 1) (dCons (dVar 2) dNil))))))
  (dSeqS
  (dPar [3, 4] (rCons (dBlt bTuple (dCons (dBVar 1) dNil)) (rCons (dLst dNil) rNil)))
  (dSeqS
  (dWhile (dB (fz (dOp fNe (dBVar 3) (fz (dBlt bTuple (dCons (dBVar 2) dNil)))))) (dSeqS
  (dSet 5 (dCall C 297 (dCons (fz (dOp fIx (fz (dCall C 414 (dCons (dVar 3) (dCons (dVar 2) dNil)))) (dC (.int 0)))) (dCons (dVar 3) (dCons (dVar 2) dNil)))))
  (dSeqS
  (dMut1 4 fApp (dVar 5))
  (dSet 3 (dCall C 423 (dCons (dVar 3) (dCons (fz (dOp fIx (dBVar 5) (dC (.int 0)))) (dCons (fz (dOp fIx (dBVar 5) (dC (.int 1)))) dNil))))))))
  (dRet (dMv 4)))))
def q_plan : FD := ⟨"plan", 3, 6, b_plan⟩
abbrev i_plan : Nat := 409

def b_record_of (C : Calls) : DS :=
  (dSeqS
  (dPar [3, 4] (rCons (dOp fIx (dBVar 0) (dC (.int 1))) (rCons (dLst dNil) rNil)))
  (dSeqS
  (dFor (dSeq (dVar 1)) (.nm 2) (dSeqS
  (dFrz 3 (dSet 5 (dCall C 395 (dCons (dVar 3) (dCons (dVar 2) dNil)))))
  (dSeqS
  (dIfS (dB (fz (dOp fNe (fz (dBlt bLen (dCons (dBVar 5) dNil))) (dC (.int 1))))) dNever dSkip)
  (dSeqS
  (dMut1 4 fApp (fz (dOp fIx (dBVar 5) (dC (.int 0)))))
  (dFrz 3 (dSet 3 (dCall C 417 (dCons (dVar 3) (dCons (dVar 2) dNil)))))))))
  (dRet (dBlt bTuple (dCons (dBVar 4) dNil)))))
def q_record_of : FD := ⟨"record_of", 2, 6, b_record_of⟩
abbrev i_record_of : Nat := 411

def b_reduced (C : Calls) : DS :=
  (dSeqS
  (dSet 2 (dCall C 307 (dCons (dVar 0) (dCons (dVar 1) dNil))))
  (dRet (rv (dTup (dCons (fz (dOp fDiv (dBVar 0) (dBVar 2))) (dCons (fz (dOp fDiv (dBVar 1) (dBVar 2))) dNil))))))
def q_reduced : FD := ⟨"reduced", 2, 3, b_reduced⟩
abbrev i_reduced : Nat := 412

def b_rings (C : Calls) : DS :=
  (dSeqS
  (dDrop (fz (dCall C 389 (dCons (dVar 0) (dCons (dVar 1) (dCons (dVar 2) dNil))))))
  (dRet (dCall C 414 (dCons (dVar 1) (dCons (dVar 2) dNil)))))
def q_rings : FD := ⟨"rings", 3, 3, b_rings⟩
abbrev i_rings : Nat := 413

def b_road_chance (C : Calls) : DS :=
  (dSeqS
  (dDrop (fz (dCall C 386 (dCons (dVar 0) (dCons (fz (dLst (dCons (dVar 1) (dCons (dVar 2) dNil)))) dNil)))))
  (dRet (dCall C 280 (dCons (fz (dCall C 425 (dCons (dVar 0) (dCons (dVar 1) (dCons (dVar 2) dNil))))) (dCons (fz (dCall C 425 (dCons (dVar 0) (dCons (dVar 2) (dCons (dVar 1) dNil))))) dNil)))))
def q_road_chance : FD := ⟨"road_chance", 3, 3, b_road_chance⟩
abbrev i_road_chance : Nat := 415

def b_roads_of (C : Calls) : DS :=
  (dSeqS
  (dDrop (fz (dCall C 386 (dCons (dVar 0) (dCons (fz (dLst dNil)) dNil)))))
  (dSeqS
  (dPar [2, 3] (rCons (dLst dNil) (rCons (dLst dNil) rNil)))
  (dSeqS
  (dFor (dRange1 (fz (dOp fIx (dBVar 0) (dC (.int 0))))) (.nm 1) (dFor (dRange2 (fz (dOp fAdd (dBVar 1) (dC (.int 1)))) (fz (dOp fIx (dBVar 0) (dC (.int 0))))) (.nm 4) (dSeqS
  (dSet 5 (dCall C 415 (dCons (dVar 0) (dCons (dVar 1) (dCons (dVar 4) dNil)))))
  (dSeqS
  (dIfS (dB (fz (dOp fEq (dBVar 5) (dTup (dCons (dC (.int 1)) (dCons (dC (.int 1)) dNil)))))) (dMut1 2 fApp (dTup (dCons (dVar 1) (dCons (dVar 4) dNil)))) dSkip)
  (dIfS (dB (fz (dOp fGt (fz (dOp fIx (dBVar 5) (dC (.int 0)))) (dC (.int 0))))) (dMut1 3 fApp (dTup (dCons (dVar 1) (dCons (dVar 4) dNil)))) dSkip)))))
  (dFrz 2 (dFrz 3 (dRet (rv (dTup (dCons (dVar 2) (dCons (dVar 3) dNil))))))))))
def q_roads_of : FD := ⟨"roads_of", 1, 6, b_roads_of⟩
abbrev i_roads_of : Nat := 416

def b_roads_without (C : Calls) : DS :=
  (dRet (dComp (dSeq (dBVar 0)) [2, 3] (.tp [(.nm 2), (.nm 3)]) (dB (fz (dOp fNotIn (dBVar 1) (dTup (dCons (dVar 2) (dCons (dVar 3) dNil)))))) (dTup (dCons (dVar 2) (dCons (dVar 3) dNil)))))
def q_roads_without : FD := ⟨"roads_without", 2, 4, b_roads_without⟩
abbrev i_roads_without : Nat := 417

def b_shows_evidence (C : Calls) : DS :=
  (dSeqS
  (dIfS (dOrT (dNotT (dB (fz (dBlt bIsi (dCons (dBVar 1) (dCons (dC (.ty "tuple")) dNil)))))) (dOrT (dB (fz (dOp fNe (fz (dBlt bLen (dCons (dBVar 1) dNil))) (dC (.int 2))))) (dOrT (dNotT (dB (fz (dBlt bIsi (dCons (fz (dOp fIx (dBVar 1) (dC (.int 0)))) (dCons (dC (.ty "str")) dNil)))))) (dNotT (dB (fz (dCall C 312 (dCons (fz (dOp fIx (dBVar 1) (dC (.int 1)))) dNil)))))))) (dRet (rv (dC (.bl false)))) dSkip)
  (dSeqS
  (dIfS (dB (fz (dOp fEq (fz (dOp fIx (dBVar 1) (dC (.int 0)))) (dC (.str "never"))))) (dRet (dOp fIn (fz (dOp fIx (dBVar 1) (dC (.int 1)))) (fz (dCall C 392 (dCons (dVar 0) dNil))))) dSkip)
  (dRet (rv (dAnd (fz (dOp fEq (fz (dOp fIx (dBVar 1) (dC (.int 0)))) (dC (.str "few")))) (dAnd (dChain fLe fLt (dC (.int 0)) (fz (dOp fIx (dBVar 1) (dC (.int 1)))) (fz (dOp fIx (dBVar 0) (dC (.int 1))))) (fz (dCall C 284 (dCons (dVar 0) (dCons (fz (dOp fIx (dBVar 1) (dC (.int 1)))) dNil))))))))))
def q_shows_evidence : FD := ⟨"shows_evidence", 2, 2, b_shows_evidence⟩
abbrev i_shows_evidence : Nat := 419

def b_size_from (C : Calls) : DS :=
  (dSeqS
  (dSet 4 (rv (dC (.int 1))))
  (dSeqS
  (dFor (dSeq (fz (dCall C 395 (dCons (dVar 0) (dCons (dVar 1) dNil))))) (.nm 5) (dIfS (dB (fz (dOp fNe (dBVar 5) (dBVar 2)))) (dAug 4 (pureO (gI fun i j => i + j)) (fz (dCall C 421 (dCons (dVar 0) (dCons (dVar 5) (dCons (dVar 1) (dCons (dVar 3) dNil))))))) dSkip))
  (dSeqS
  (dMut1 3 fApp (dVar 4))
  (dRet (dMv 4)))))
def q_size_from : FD := ⟨"size_from", 4, 6, b_size_from⟩
abbrev i_size_from : Nat := 421

def b_span (C : Calls) : DS :=
  (dSeqS
  (dSet 2 (dComp (dSeq (fz (dCall C 399 (dCons (dVar 0) (dCons (dC (.str "closed")) dNil))))) [4, 5] (.tp [(.nm 4), (.nm 5)]) (dB (fz (dOp fEq (dBVar 5) (dBVar 1)))) (dVar 4)))
  (dSeqS
  (dSet 3 (rv (dOp2 bMaxD (fz (dOp fAdd (fz (dComp (dSeq (fz (dCall C 399 (dCons (dVar 0) (dCons (dC (.str "end")) dNil))))) [4, 5] (.tp [(.nm 4), (.nm 5)]) (dB (fz (dOp fEq (dBVar 5) (dBVar 1)))) (fz (dOp fAdd (dBVar 4) (dC (.int 1)))))) (dBVar 2))) (dC (.int 0)))))
  (dRet (rv (dTup (dCons (dVar 3) (dCons (dOp2 bMinD (dBVar 2) (fz (dOp fSub (fz (dOp fIx (dBVar 0) (dC (.int 1)))) (dC (.int 1))))) dNil)))))))
def q_span : FD := ⟨"span", 2, 6, b_span⟩
abbrev i_span : Nat := 422

def b_times_of (C : Calls) : DS :=
  (dSeqS
  (dDrop (fz (dCall C 386 (dCons (dVar 0) (dCons (fz (dLst (dCons (dVar 1) dNil))) dNil)))))
  (dRet (dComp (dEnum (fz (dCall C 433 (dCons (dVar 0) (dCons (dVar 1) dNil))))) [2, 3] (.tp [(.nm 2), (.nm 3)]) (dB (fz (dOp fGt (dBVar 3) (dC (.int 0))))) (dVar 2))))
def q_times_of : FD := ⟨"times_of", 2, 4, b_times_of⟩
abbrev i_times_of : Nat := 424

def b_toward (C : Calls) : DS :=
  (dSeqS
  (dPar [5, 6] (rCons (dCall C 302 (dCons (dVar 0) dNil)) (rCons (rv (dTup (dCons (dC (.int 0)) (dCons (dC (.int 1)) dNil)))) rNil)))
  (dSeqS
  (dSet 3 (dCall C 295 (dCons (dVar 0) dNil)))
  (dSeqS
  (dFor (dRange1 (fz (dOp fIx (dBVar 0) (dC (.int 1))))) (.nm 4) (dIfS (dB (fz (dOp fEq (dDget (dBVar 5) (dBVar 4) (dVar 2)) (dBVar 2)))) (dSeqS
  (dSet 7 (dIfR (dB (fz (dOp fIn (dBVar 4) (dBVar 5)))) (dCall C 407 (dCons (dVar 0) (dCons (fz (dLst (dCons (dTup (dCons (dVar 4) (dCons (dVar 1) dNil))) dNil))) dNil))) (dCall C 402 (dCons (dVar 0) (dCons (dVar 4) (dCons (dVar 1) (dCons (dVar 2) dNil)))))))
  (dSet 6 (dCall C 280 (dCons (dVar 6) (dCons (dTup (dCons (dVar 7) (dCons (fz (dOp fMul (dBVar 3) (dIf (dB (fz (dOp fIn (dBVar 4) (dBVar 5)))) (dC (.int 1)) (fz (dOp fSub (fz (dOp fSub (fz (dOp fIx (dBVar 0) (dC (.int 0)))) (dC (.int 1)))) (dBVar 4)))))) dNil))) dNil))))) dSkip))
  (dRet (dMv 6)))))
def q_toward : FD := ⟨"toward", 3, 8, b_toward⟩
abbrev i_toward : Nat := 425

def b_towns_in (C : Calls) : DS :=
  (dRet (dCall C 291 (dCons (fz (dCall C 427 (dCons (dVar 0) dNil))) (dCons (dVar 0) dNil))))
def q_towns_in : FD := ⟨"towns_in", 1, 1, b_towns_in⟩
abbrev i_towns_in : Nat := 426

def b_tree_in (C : Calls) : DS :=
  (dRet (dCall C 291 (dCons (fz (dCall C 431 (dCons (dVar 0) dNil))) (dCons (dVar 0) dNil))))
def q_tree_in : FD := ⟨"tree_in", 1, 1, b_tree_in⟩
abbrev i_tree_in : Nat := 429

def b_tree_of (C : Calls) : DS :=
  (dSeqS
  (dSet 2 (dComp (dZip (dVar 0) (dVar 1)) [3, 4] (.tp [(.nm 3), (.nm 4)]) dYes (dTup (dCons (fz (dBlt bMin2 (dCons (dBVar 3) (dCons (dBVar 4) dNil)))) (dCons (fz (dBlt bMax2 (dCons (dBVar 3) (dCons (dBVar 4) dNil)))) dNil)))))
  (dRet (rv (dTup (dCons (fz (dOp fAdd (fz (dBlt bLen (dCons (dBVar 0) dNil))) (dC (.int 1)))) (dCons (fz (dBlt bTuple (dCons (fz (dBlt bSorted (dCons (dBVar 2) dNil))) dNil))) dNil))))))
def q_tree_of : FD := ⟨"tree_of", 2, 5, b_tree_of⟩
abbrev i_tree_of : Nat := 430

def b_ways_at (C : Calls) : DS :=
  (dRet (dComp (dRange1 (fz (dOp fIx (dBVar 0) (dC (.int 1))))) [2] (.nm 2) dYes (fz (dCall C 407 (dCons (dVar 0) (dCons (fz (dLst (dCons (dTup (dCons (dVar 2) (dCons (dVar 1) dNil))) dNil))) dNil))))))
def q_ways_at : FD := ⟨"ways_at", 2, 3, b_ways_at⟩
abbrev i_ways_at : Nat := 433

def b_window (C : Calls) : DS :=
  (dSeqS
  (dDrop (fz (dCall C 391 (dCons (dVar 0) (dCons (dVar 1) dNil)))))
  (dRet (dCall C 422 (dCons (dVar 0) (dCons (dVar 1) dNil)))))
def q_window : FD := ⟨"window", 2, 2, b_window⟩
abbrev i_window : Nat := 434

def b_windows (C : Calls) : DS :=
  (dRet (dComp (dRange1 (fz (dOp fIx (dBVar 0) (dC (.int 0))))) [1] (.nm 1) dYes (fz (dCall C 422 (dCons (dVar 0) (dCons (dVar 1) dNil))))))
def q_windows : FD := ⟨"windows", 1, 2, b_windows⟩
abbrev i_windows : Nat := 435

def b_with_note (C : Calls) : DS :=
  (dSeqS
  (dUnp (.tp [(.nm 3), (.nm 4), (.nm 5)]) (fz (dCall C 408 (dCons (dVar 0) dNil))))
  (dSeqS
  (dFor (dSeq (dVar 5)) (.nm 2) (dIfS (dB (fz (dOp fEq (fz (dSl (dBVar 2) oNone (oSome (dC (.int 2))))) (fz (dSl (fz (dBlt bTuple (dCons (dBVar 1) dNil))) oNone (oSome (dC (.int 2)))))))) dNever dSkip))
  (dRet (rv (dTup (dCons (dVar 3) (dCons (dVar 4) (dCons (fz (dBlt bTuple (dCons (fz (dBlt bSorted (dCons (fz (dOp fAdd (dBVar 5) (dTup (dCons (fz (dBlt bTuple (dCons (dBVar 1) dNil))) dNil)))) dNil))) dNil))) dNil))))))))
def q_with_note : FD := ⟨"with_note", 2, 6, b_with_note⟩
abbrev i_with_note : Nat := 437

def b_without_note (C : Calls) : DS :=
  (dSeqS
  (dUnp (.tp [(.nm 2), (.nm 3), (.nm 4)]) (fz (dCall C 408 (dCons (dVar 0) dNil))))
  (dSeqS
  (dIfS (dB (fz (dOp fNotIn (fz (dBlt bTuple (dCons (dBVar 1) dNil))) (dBVar 4)))) dNever dSkip)
  (dRet (rv (dTup (dCons (dVar 2) (dCons (dVar 3) (dCons (fz (dBlt bTuple (dCons (fz (dComp (dSeq (dBVar 4)) [5] (.nm 5) (dB (fz (dOp fNe (dBVar 5) (fz (dBlt bTuple (dCons (dBVar 1) dNil)))))) (dVar 5))) dNil))) dNil))))))))
def q_without_note : FD := ⟨"without_note", 2, 6, b_without_note⟩
abbrev i_without_note : Nat := 438

end MP

namespace MP
open PySem PySem.Spec
/-! ### the law's box: three ints at a place of the store -/
structure Bx (S : Sto) (b : Nat) (k : Nat) : Prop where
  ex : ∃ x y z : Int, S[b]? = some (.l [.int x, .int y, .int z]) ∧ 0 ≤ x ∧ 0 ≤ z ∧ z + k ≤ 1000000000000000
theorem Bx.mono {S : Sto} {b k j : Nat} (h : Bx S b k) (e : j ≤ k) : Bx S b j := by
  obtain ⟨x, y, z, h1, h2, h3, h4⟩ := h.ex
  exact ⟨x, y, z, h1, h2, h3, by omega⟩
theorem mulOk_small {i j : Int} (h : j.natAbs < 18446744073709551616) : mulOk i j = true := by
  unfold mulOk
  simp [h]
theorem mulOk_small1 {i j : Int} (h : i.natAbs < 18446744073709551616) : mulOk i j = true := by
  unfold mulOk
  simp [h]
theorem big_gt : (18446744073709551616 : Nat) < big := by unfold big; decide +kernel
theorem fIx_tup (xs : List D) (i : Int) (S : Sto) : fIx (.tup xs) (.int i) S = (match ixD xs i with | some z => .ok (.v z) S | none => .bad) := rfl
theorem fIx_lst (xs : List D) (i : Int) (S : Sto) : fIx (.lst xs) (.int i) S = (match ixD xs i with | some z => .ok (.v z) S | none => .bad) := rfl
theorem fIx_loc (n : Nat) (i : Int) (S : Sto) : fIx (.loc n) (.int i) S = (match S[n]? with | some (.l xs) => (match ixD xs i with | some z => .ok (.v z) S | none => .bad) | _ => .bad) := rfl
theorem fIx_scr (ns : List Int) (i : Int) (S : Sto) : fIx (.scr ns) (.int i) S = (match (if 0 ≤ i then ns[i.toNat]? else none) with | some z => .ok (.v (.int z)) S | none => .bad) := rfl
theorem deq_ii (i j : Int) : deq (.int i) (.int j) = decide (i = j) := by
  unfold deq
  by_cases c : i = j <;> simp [c]
theorem fEq_ii (i j : Int) (S : Sto) : fEq (.int i) (.int j) S = .ok (.v (.bl (decide (i = j)))) S := by
  unfold fEq
  rw [if_pos ⟨rfl, rfl⟩, deq_ii]
theorem fIMul_i {i j : Int} (S : Sto) (h : mulOk i j = true) : fIMul (.int i) (.int j) S = .ok (.v (.int (i * j))) S := by
  show (if mulOk i j = true then _ else _) = _
  rw [if_pos h]
theorem fMul_i {i j : Int} (S : Sto) (h : mulOk i j = true) : fMul (.int i) (.int j) S = .ok (.v (.int (i * j))) S := by
  show (if mulOk i j = true then _ else _) = _
  rw [if_pos h]
theorem fGt_i (i j : Int) (S : Sto) : fGt (.int i) (.int j) S = .ok (.v (.bl (decide (j < i)))) S := rfl
theorem fLt_i (i j : Int) (S : Sto) : fLt (.int i) (.int j) S = .ok (.v (.bl (decide (i < j)))) S := rfl
theorem fGe_i (i j : Int) (S : Sto) : fGe (.int i) (.int j) S = .ok (.v (.bl (decide (j ≤ i)))) S := rfl
theorem fLe_i (i j : Int) (S : Sto) : fLe (.int i) (.int j) S = .ok (.v (.bl (decide (i ≤ j)))) S := rfl
theorem fSub_i (i j : Int) (S : Sto) : fSub (.int i) (.int j) S = .ok (.v (.int (i - j))) S := rfl
theorem fIAdd_i (i j : Int) (S : Sto) : pureO (gI fun i j => i + j) (.int i) (.int j) S = .ok (.v (.int (i + j))) S := rfl
def takeV (y z m : Int) : Int := (((((y + 48271 * z) * (39373 + z) % 2147483647 + z + y / 1000003) * ((y + 48271 * z) * (39373 + z) % 2147483647 % 40009 + 7) % 2147483629) * 48271 + (y + 48271 * z) * (39373 + z) % 2147483647) % 2147483587 / 64) % m
/-- _law_take, below at most ten million -/
theorem sp_take {B : Tb} {n b k : Nat} {S : Sto} {m : Int} (hB : B i__law_take = some q__law_take) (hb : Bx S b (k + 1)) (hm : 0 < m) (hm2 : m ≤ 10000000) :
    ∃ (r : Int) (S' : Sto), callN B (n + 1) i__law_take [.loc b, .int m] S = .ok (.v (.int r)) S' ∧ 0 ≤ r ∧ r < m ∧ Bx S' b k := by
  obtain ⟨x, y, z, h1, h2, h3, h4⟩ := hb.ex
  have hbl : b < S.length := (List.getElem?_eq_some_iff.mp h1).1
  have hmb : m.natAbs < big := Nat.lt_trans (by omega) big_gt
  rw [callN_eq hB]
  by_cases c : 0 < x
  · refine ⟨x % m, S.set b (.l [.int (x / m), .int y, .int z]), ?_, Int.emod_nonneg _ (by omega), Int.emod_lt_of_pos _ hm, ⟨x / m, y, z, ?_, Int.ediv_nonneg h2 (by omega), h3, by omega⟩⟩
    · simp [q__law_take, b__law_take, callF, startE, finO, dSeqS, dSet, slOf, dRet, dRetN, dIfS, dSkip, dVar, dBVar, dMv, dC, fz, rv, dOp, dUn, dNil, dCons, dTup, dLst, dB, dAndT, dOrT, dNotT, dAnd, dOr, dNot, dIf, dIfR, dCall, dBlt, dOp2, dSeq, itemsOf, dFrz, frzE, dPar, rCons, rNil, setSls, dAug, dUnp, bindTg, bindTgs, wipeE, dYes, dChain, Res.bind, Res.map, R.val, O.toD, fIx_tup, fIx_lst, fIx_loc, fIx_scr, ixD, fGt_i, fLt_i, fLe_i, fGe_i, fSub_i, fIAdd_i, fMod, fDiv, fAdd, fPow, fEq, fNe, fIsN, fNotN, isNon, bLen, bList, bTuple, bAbs, bInt, bMax2, bMin2, dPutL, listSlot, isL, mutL, fPut, dIxL, dMut1, fApp, List.getElem?_cons_zero, List.getElem?_cons_succ, List.set_cons_zero, List.set_cons_succ, List.map_cons, List.map_nil, List.cons_append, List.nil_append, List.length_cons, List.length_nil, List.replicate, if_true, if_false, ite_true, ite_false, Bool.false_eq_true, reduceIte, decide_true, decide_false, Option.map_some, Option.bind_some, h1, c, hm, hmb]
    · rw [List.getElem?_set_self hbl]
  · have c0 : x = 0 := by omega
    subst c0
    refine ⟨takeV y (z + 1) m, S.set b (.l [.int 0, .int y, .int (z + 1)]), ?_, Int.emod_nonneg _ (by omega), Int.emod_lt_of_pos _ hm, ⟨0, y, z + 1, ?_, by omega, by omega, by omega⟩⟩
    · have m1 : ∀ i, mulOk i (39373 + (z + 1)) = true := fun i => mulOk_small (by omega)
      have m2 : ∀ i j : Int, mulOk i (j % 40009 + 7) = true := fun i j => mulOk_small (by have := Int.emod_nonneg j (show (40009 : Int) ≠ 0 by decide); have := Int.emod_lt_of_pos j (show (0 : Int) < 40009 by decide); omega)
      have m3 : ∀ i : Int, mulOk i 48271 = true := fun i => mulOk_small (by decide)
      have m4 : ∀ i : Int, mulOk 48271 i = true := fun i => mulOk_small1 (by decide)
      have b1 : (1000003 : Nat) < big := Nat.lt_trans (by decide) big_gt
      have b2 : (64 : Nat) < big := Nat.lt_trans (by decide) big_gt
      have hm3 : ¬ 10000000 < m := by omega
      simp [q__law_take, b__law_take, callF, startE, finO, dSeqS, dSet, slOf, dRet, dRetN, dIfS, dSkip, dVar, dBVar, dMv, dC, fz, rv, dOp, dUn, dNil, dCons, dTup, dLst, dB, dAndT, dOrT, dNotT, dAnd, dOr, dNot, dIf, dIfR, dCall, dBlt, dOp2, dSeq, itemsOf, dFrz, frzE, dPar, rCons, rNil, setSls, dAug, dUnp, bindTg, bindTgs, wipeE, dYes, dChain, Res.bind, Res.map, R.val, O.toD, fIx_tup, fIx_lst, fIx_loc, fIx_scr, ixD, fGt_i, fLt_i, fLe_i, fGe_i, fSub_i, fIAdd_i, fMod, fDiv, fAdd, fPow, fEq, fNe, fIsN, fNotN, isNon, bLen, bList, bTuple, bAbs, bInt, bMax2, bMin2, dPutL, listSlot, isL, mutL, fPut, dIxL, dMut1, fApp, List.getElem?_cons_zero, List.getElem?_cons_succ, List.set_cons_zero, List.set_cons_succ, List.map_cons, List.map_nil, List.cons_append, List.nil_append, List.length_cons, List.length_nil, List.replicate, if_true, if_false, ite_true, ite_false, Bool.false_eq_true, reduceIte, decide_true, decide_false, Option.map_some, Option.bind_some, fMul, h1, hm, hmb, hm3, m1, m2, m3, m4, b1, b2, List.getElem?_set_self hbl, takeV]
    · rw [List.getElem?_set_self hbl]

/-! ### one statement behind another -/
section
variable {a b : DS} {env e : Envm} {S S1 : Sto} {X : Res R} {Y : Out} {r : R} {dr : DR}
theorem fseq (h : a env S = .nx e S1) (k : finO (b e S1) = X) : finO (dSeqS a b env S) = X := by
  unfold dSeqS
  rw [h]
  exact k
theorem fseqR (h : a env S = .rt r S1) : finO (dSeqS a b env S) = .ok r S1 := by
  unfold dSeqS
  rw [h]
  rfl
theorem nseq (h : a env S = .nx e S1) (k : b e S1 = Y) : dSeqS a b env S = Y := by
  unfold dSeqS
  rw [h]
  exact k
theorem nseqR (h : a env S = .rt r S1) : dSeqS a b env S = .rt r S1 := by
  unfold dSeqS
  rw [h]
theorem fret (h : dr env S = .ok r S1) : finO (dRet dr env S) = .ok r S1 := by
  unfold dRet
  rw [h]
  rfl
theorem nret (h : dr env S = .ok r S1) : dRet dr env S = .rt r S1 := by
  unfold dRet
  rw [h]
theorem nset {i : Nat} (h : dr env S = .ok r S1) : dSet i dr env S = .nx (env.set i (slOf r)) S1 := by
  unfold dSet
  rw [h]
theorem nfor {di : DA} {t : Tg} {ds : List D} (h : di env S = .ok ds S1) (k : forL t a ds env S1 = Y) : dFor di t a env S = Y := by
  unfold dFor
  rw [h]
  exact k
theorem ifT {c : DT} (h : c env S = .ok true S1) (k : a env S1 = Y) : dIfS c a b env S = Y := by
  unfold dIfS
  rw [h]
  exact k
theorem ifF {c : DT} (h : c env S = .ok false S1) (k : b env S1 = Y) : dIfS c a b env S = Y := by
  unfold dIfS
  rw [h]
  exact k
theorem fcall {B : Tb} {n f m k : Nat} {x : Str} {bd : Calls → DS} {ds : List D} (h : B f = some ⟨x, m, k, bd⟩) (hl : ds.length = m) (q : finO (bd (callN B n) (startE k ds) S) = X) : callN B (n + 1) f ds S = X := by
  rw [callN_eq h]
  unfold callF
  rw [if_pos hl]
  exact q
end
/-! ### comprehensions and loops -/
theorem compL_pure {α : Type} {tg : Tg} {dc : DT} {de : DE} {env : Envm} {S : Sto} (f : α → D) (p : α → Bool) (g : α → D) : ∀ xs : List α, (∀ x ∈ xs, ∃ e, bindTg tg (f x) env = some e ∧ dc e S = .ok (p x) S ∧ (p x = true → de e S = .ok (g x) S)) →
    compL tg dc de env (xs.map f) S = .ok ((xs.filter p).map g) S
  | [], _ => rfl
  | x :: xs, h => by
    obtain ⟨e, h1, h2, h3⟩ := h x List.mem_cons_self
    have ih := compL_pure f p g xs fun y hy => h y (List.mem_cons_of_mem _ hy)
    rw [List.map_cons]
    unfold compL
    rw [h1]
    show (dc e S).bind _ = _
    rw [h2]
    show (if p x = true then _ else _) = _
    by_cases c : p x = true
    · rw [if_pos c, h3 c]
      show (compL tg dc de env (xs.map f) S).map _ = _
      rw [ih, List.filter_cons_of_pos c]
      rfl
    · rw [if_neg c, List.filter_cons_of_neg c]
      exact ih
theorem comp_pure {α : Type} {di : DA} {own : List Nat} {tg : Tg} {dc : DT} {de : DE} {env : Envm} {S S1 : Sto} (xs : List α) (f : α → D) (p : α → Bool) (g : α → D) (hi : di env S = .ok (xs.map f) S1) (hl : xs.length ≤ 100000)
    (h : ∀ x ∈ xs, ∃ e, bindTg tg (f x) (wipeE env own) = some e ∧ dc e S1 = .ok (p x) S1 ∧ (p x = true → de e S1 = .ok (g x) S1)) : dComp di own tg dc de env S = .ok (.o (.l ((xs.filter p).map g))) S1 := by
  unfold dComp
  rw [hi]
  show (if (xs.map f).length ≤ 100000 then _ else _) = _
  rw [if_pos (by rw [List.length_map]; exact hl), compL_pure f p g xs h]
  rfl
theorem comp_all {α : Type} {di : DA} {own : List Nat} {tg : Tg} {de : DE} {env : Envm} {S S1 : Sto} (xs : List α) (f : α → D) (g : α → D) (hi : di env S = .ok (xs.map f) S1) (hl : xs.length ≤ 100000)
    (h : ∀ x ∈ xs, ∃ e, bindTg tg (f x) (wipeE env own) = some e ∧ de e S1 = .ok (g x) S1) : dComp di own tg dYes de env S = .ok (.o (.l (xs.map g))) S1 := by
  have := comp_pure (dc := dYes) (de := de) (tg := tg) (own := own) xs f (fun _ => true) g hi hl fun x hx => by
    obtain ⟨e, h1, h2⟩ := h x hx
    exact ⟨e, h1, rfl, fun _ => h2⟩
  rw [this, List.filter_eq_self.mpr (fun _ _ => rfl)]
inductive All2 {α β : Type} (P : α → β → Prop) : List α → List β → Prop
  | nil : All2 P [] []
  | cons {a : α} {b : β} {as : List α} {bs : List β} : P a b → All2 P as bs → All2 P (a :: as) (b :: bs)
theorem All2.length {α β : Type} {P : α → β → Prop} : ∀ {as : List α} {bs : List β}, All2 P as bs → as.length = bs.length
  | _, _, .nil => rfl
  | _, _, .cons _ t => by simp [t.length]
theorem All2.imp {α β : Type} {P Q : α → β → Prop} (h : ∀ a b, P a b → Q a b) : ∀ {as : List α} {bs : List β}, All2 P as bs → All2 Q as bs
  | _, _, .nil => .nil
  | _, _, .cons p t => .cons (h _ _ p) (t.imp h)
/-- a comprehension whose element changes the store -/
theorem compL_inv {α : Type} {tg : Tg} {de : DE} {env : Envm} (f : α → D) (P : α → D → Prop) (I : Nat → Sto → Prop) : ∀ (xs : List α) (i : Nat) (S : Sto), I i S → (∀ j x S, xs[j]? = some x → I (i + j) S → ∃ e y S', bindTg tg (f x) env = some e ∧ de e S = .ok y S' ∧ P x y ∧ I (i + j + 1) S') →
    ∃ ys S', compL tg dYes de env (xs.map f) S = .ok ys S' ∧ All2 P xs ys ∧ I (i + xs.length) S'
  | [], i, S, h, _ => ⟨[], S, rfl, .nil, h⟩
  | x :: xs, i, S, h, st => by
    obtain ⟨e, y, S1, h1, h2, h3, h4⟩ := st 0 x S rfl h
    obtain ⟨ys, S2, g1, g2, g3⟩ := compL_inv f P I xs (i + 1) S1 h4 fun j z S hj hI => by
      have e : i + 1 + j = i + (j + 1) := by omega
      rw [e] at hI ⊢
      exact st (j + 1) z S (by simpa using hj) hI
    refine ⟨y :: ys, S2, ?_, .cons h3 g2, ?_⟩
    · rw [List.map_cons]
      unfold compL
      rw [h1]
      simp only [Res.bind, h2, g1, Res.map, dYes, if_true]
    · rw [List.length_cons]
      have : i + (xs.length + 1) = i + 1 + xs.length := by omega
      rw [this]
      exact g3
theorem comp_inv {α : Type} {di : DA} {own : List Nat} {tg : Tg} {de : DE} {env : Envm} {S S1 : Sto} (xs : List α) (f : α → D) (P : α → D → Prop) (I : Nat → Sto → Prop) (hi : di env S = .ok (xs.map f) S1) (hl : xs.length ≤ 100000) (h0 : I 0 S1)
    (h : ∀ j x S, xs[j]? = some x → I j S → ∃ e y S', bindTg tg (f x) (wipeE env own) = some e ∧ de e S = .ok y S' ∧ P x y ∧ I (j + 1) S') : ∃ ys S', dComp di own tg dYes de env S = .ok (.o (.l ys)) S' ∧ All2 P xs ys ∧ I xs.length S' := by
  obtain ⟨ys, S', h1, h2, h3⟩ := compL_inv f P I xs 0 S1 h0 fun j x S hj hI => by
    rw [Nat.zero_add] at hI ⊢
    exact h j x S hj hI
  refine ⟨ys, S', ?_, h2, by rw [Nat.zero_add] at h3; exact h3⟩
  unfold dComp
  rw [hi]
  show (if (xs.map f).length ≤ 100000 then _ else _) = _
  rw [if_pos (by rw [List.length_map]; exact hl), h1]
  rfl
theorem for_inv {α : Type} {t : Tg} {b : DS} (f : α → D) (I : Nat → Envm → Sto → Prop) : ∀ (xs : List α) (i : Nat) (env : Envm) (S : Sto), I i env S → (∀ j x env S, xs[j]? = some x → I (i + j) env S → ∃ e1 e2 S2, bindTg t (f x) env = some e1 ∧ b e1 S = .nx e2 S2 ∧ I (i + j + 1) e2 S2) →
    ∃ e S', forL t b (xs.map f) env S = .nx e S' ∧ I (i + xs.length) e S'
  | [], i, env, S, h, _ => ⟨env, S, rfl, h⟩
  | x :: xs, i, env, S, h, st => by
    obtain ⟨e1, e2, S2, h1, h2, h3⟩ := st 0 x env S rfl h
    obtain ⟨e, S', g1, g2⟩ := for_inv f I xs (i + 1) e2 S2 h3 fun j y env S hj hI => by
      have e : i + 1 + j = i + (j + 1) := by omega
      rw [e] at hI ⊢
      exact st (j + 1) y env S (by simpa using hj) hI
    refine ⟨e, S', ?_, ?_⟩
    · rw [List.map_cons]
      unfold forL
      rw [h1]
      show (match b e1 S with
        | .nx e2 S2 => forL t b (xs.map f) e2 S2
        | .ct e2 S2 => forL t b (xs.map f) e2 S2
        | .bk e2 S2 => .nx e2 S2
        | .rt r S2 => .rt r S2
        | .xn c x S2 => .xn c x S2
        | .bad => .bad) = _
      rw [h2]
      exact g1
    · have e : i + (xs.length + 1) = i + 1 + xs.length := by omega
      rw [List.length_cons, e]
      exact g2
theorem rangeD_nat (n : Nat) : rangeD 0 (n : Int) = (List.range n).map fun i : Nat => D.int i := by
  unfold rangeD
  have : ((n : Int) - 0).toNat = n := by omega
  rw [this]
  apply List.map_congr_left
  intro i _
  simp
/-! ### lists of ints are data -/
theorem fit_ints : ∀ (n : Nat) (xs : List Int), (xs.map D.int).all (fitN n) = true := fun n xs => by
  rw [List.all_eq_true]
  intro d hd
  obtain ⟨i, _, rfl⟩ := List.mem_map.mp hd
  cases n <;> rfl
theorem deqs_ints : ∀ xs ys : List Int, deqs (xs.map D.int) (ys.map D.int) = decide (xs = ys)
  | [], [] => by simp [deqs]
  | [], _ :: _ => by simp [deqs]
  | _ :: _, [] => by simp [deqs]
  | x :: xs, y :: ys => by
    simp only [List.map_cons, deqs, deq, deqs_ints xs ys]
    by_cases c : x = y <;> simp [c]
/-! ### _law_of, _law_strewn -/
inductive SeqD : D → List D → Prop
  | tup (xs : List D) : SeqD (.tup xs) xs
  | lst (xs : List D) : SeqD (.lst xs) xs
theorem sp_of {B : Tb} {n b k : Nat} {S : Sto} {d : D} {xs : List D} (hT : B i__law_take = some q__law_take) (hO : B i__law_of = some q__law_of) (hb : Bx S b (k + 1)) (hd : SeqD d xs) (h0 : 0 < xs.length) (h1 : xs.length ≤ 10000000) :
    ∃ (x : D) (S' : Sto), callN B (n + 2) i__law_of [.loc b, d] S = .ok (.v x) S' ∧ x ∈ xs ∧ Bx S' b k := by
  obtain ⟨r, S', e1, e2, e3, e4⟩ := sp_take (n := n) (m := xs.length) hT hb (by omega) (by omega)
  have hr : r.toNat < xs.length := by omega
  refine ⟨xs[r.toNat], S', ?_, List.getElem_mem hr, e4⟩
  have e5 : xs[r.toNat]? = some xs[r.toNat] := List.getElem?_eq_getElem hr
  rw [callN_eq hO]
  cases hd <;> simp [q__law_of, b__law_of, callF, startE, finO, dSeqS, dSet, slOf, dRet, dRetN, dIfS, dSkip, dVar, dBVar, dMv, dC, fz, rv, dOp, dUn, dNil, dCons, dTup, dLst, dB, dAndT, dOrT, dNotT, dAnd, dOr, dNot, dIf, dIfR, dCall, dBlt, dOp2, dSeq, itemsOf, dFrz, frzE, dPar, rCons, rNil, setSls, dAug, dUnp, bindTg, bindTgs, wipeE, dYes, dChain, Res.bind, Res.map, R.val, O.toD, fIx_tup, fIx_lst, fIx_loc, fIx_scr, ixD, fGt_i, fLt_i, fLe_i, fGe_i, fSub_i, fIAdd_i, fMod, fDiv, fAdd, fPow, fEq, fNe, fIsN, fNotN, isNon, bLen, bList, bTuple, bAbs, bInt, bMax2, bMin2, dPutL, listSlot, isL, mutL, fPut, dIxL, dMut1, fApp, List.getElem?_cons_zero, List.getElem?_cons_succ, List.set_cons_zero, List.set_cons_succ, List.map_cons, List.map_nil, List.cons_append, List.nil_append, List.length_cons, List.length_nil, List.replicate, if_true, if_false, ite_true, ite_false, Bool.false_eq_true, reduceIte, decide_true, decide_false, Option.map_some, Option.bind_some, e1, e2, e5]
theorem strewn_loop {C : Calls} {b : Nat} {some0 : D} (hC : ∀ (S : Sto) (k : Nat) (m : Int), Bx S b (k + 1) → 0 < m → m ≤ 10000000 → ∃ (r : Int) (S' : Sto), C i__law_take [.loc b, .int m] S = .ok (.v (.int r)) S' ∧ 0 ≤ r ∧ r < m ∧ Bx S' b k) :
    ∀ (n : Nat) (left found : List D) (S : Sto) (k w : Nat), left.length = n → n < w → Bx S b (k + n) → n + found.length ≤ 90000 → left.all (fitN 19) = true →
      ∃ (ys : List D) (S' : Sto), whileL (dB (fz (dOp fNe (dBVar 2) (fz (dLst dNil))))) (dAppPop 3 2 (fz (dCall C 238 (dCons (dVar 0) (dCons (fz (dBlt bLen (dCons (dBVar 2) dNil))) dNil))))) w [.va (.loc b), .va some0, .ow (.l left), .ow (.l found)] S =
        .nx [.va (.loc b), .va some0, .ow (.l []), .ow (.l ys)] S' ∧ ys.Perm (found ++ left) ∧ Bx S' b k := by
  intro n
  induction n with
  | zero =>
    intro left found S k w hl hw hb _ hf
    have e : left = [] := List.eq_nil_of_length_eq_zero hl
    subst e
    obtain ⟨w, rfl⟩ : ∃ v, w = v + 1 := ⟨w - 1, by omega⟩
    refine ⟨found, S, ?_, by simp, hb⟩
    simp [whileL, callF, startE, finO, dSeqS, dSet, slOf, dRet, dRetN, dIfS, dSkip, dVar, dBVar, dMv, dC, fz, rv, dOp, dUn, dNil, dCons, dTup, dLst, dB, dAndT, dOrT, dNotT, dAnd, dOr, dNot, dIf, dIfR, dCall, dBlt, dOp2, dSeq, itemsOf, dFrz, frzE, dPar, rCons, rNil, setSls, dAug, dUnp, bindTg, bindTgs, wipeE, dYes, dChain, Res.bind, Res.map, R.val, O.toD, fIx_tup, fIx_lst, fIx_loc, fIx_scr, ixD, fGt_i, fLt_i, fLe_i, fGe_i, fSub_i, fIAdd_i, fMod, fDiv, fAdd, fPow, fEq, fNe, fIsN, fNotN, isNon, bLen, bList, bTuple, bAbs, bInt, bMax2, bMin2, dPutL, listSlot, isL, mutL, fPut, dIxL, dMut1, fApp, List.getElem?_cons_zero, List.getElem?_cons_succ, List.set_cons_zero, List.set_cons_succ, List.map_cons, List.map_nil, List.cons_append, List.nil_append, List.length_cons, List.length_nil, List.replicate, if_true, if_false, ite_true, ite_false, Bool.false_eq_true, reduceIte, decide_true, decide_false, Option.map_some, Option.bind_some, fitN, deq, deqs]
  | succ n ih =>
    intro left found S k w hl hw hb hz hf
    obtain ⟨w, rfl⟩ : ∃ v, w = v + 1 := ⟨w - 1, by omega⟩
    obtain ⟨r, S1, e1, e2, e3, e4⟩ := hC S (k + n) left.length (by rw [Nat.add_assoc]; exact hb) (by omega) (by omega)
    have e1 : C 238 [.loc b, .int left.length] S = .ok (.v (.int r)) S1 := e1
    have hr : r.toNat < left.length := by omega
    have e5 : left[r.toNat]? = some left[r.toNat] := List.getElem?_eq_getElem hr
    obtain ⟨ys, S', g1, g2, g3⟩ := ih (left.eraseIdx r.toNat) (found ++ [left[r.toNat]]) S1 k w (by rw [List.length_eraseIdx_of_lt hr]; omega) (by omega) e4 (by simp; omega) (by
      rw [List.all_eq_true] at hf ⊢
      exact fun x hx => hf x (List.mem_of_mem_eraseIdx hx))
    refine ⟨ys, S', ?_, g2.trans ?_, g3⟩
    · have hne : deq (.lst left) (.lst []) = false := by
        cases left with
        | nil => simp at hl
        | cons a l => simp [deq, deqs]
      have hfit : fitN 20 (.lst left) = true := hf
      have hfit0 : fitN 20 (.lst []) = true := rfl
      have hr2 : r ≤ 100000 := by omega
      have hfl : found.length ≤ 100000 := by omega
      unfold whileL
      simp [callF, startE, finO, dSeqS, dSet, slOf, dRet, dRetN, dIfS, dSkip, dVar, dBVar, dMv, dC, fz, rv, dOp, dUn, dNil, dCons, dTup, dLst, dB, dAndT, dOrT, dNotT, dAnd, dOr, dNot, dIf, dIfR, dCall, dBlt, dOp2, dSeq, itemsOf, dFrz, frzE, dPar, rCons, rNil, setSls, dAug, dUnp, bindTg, bindTgs, wipeE, dYes, dChain, Res.bind, Res.map, R.val, O.toD, fIx_tup, fIx_lst, fIx_loc, fIx_scr, ixD, fGt_i, fLt_i, fLe_i, fGe_i, fSub_i, fIAdd_i, fMod, fDiv, fAdd, fPow, fEq, fNe, fIsN, fNotN, isNon, bLen, bList, bTuple, bAbs, bInt, bMax2, bMin2, dPutL, listSlot, isL, mutL, fPut, dIxL, dMut1, fApp, List.getElem?_cons_zero, List.getElem?_cons_succ, List.set_cons_zero, List.set_cons_succ, List.map_cons, List.map_nil, List.cons_append, List.nil_append, List.length_cons, List.length_nil, List.replicate, if_true, if_false, ite_true, ite_false, Bool.false_eq_true, reduceIte, decide_true, decide_false, Option.map_some, Option.bind_some, hne, hfit, hfit0, dAppPop, e1, e2, e5, hr2, hfl, g1]
    · rw [List.append_assoc]
      refine List.Perm.append_left _ ?_
      exact (L2.erase_perm left r.toNat _ e5)
theorem sp_strewn {B : Tb} {n b k : Nat} {S : Sto} {d : D} {xs : List D} (hT : B i__law_take = some q__law_take) (hO : B i__law_strewn = some q__law_strewn) (hb : Bx S b (k + xs.length)) (hd : SeqD d xs) (h1 : xs.length ≤ 90000) (hf : xs.all (fitN 19) = true) :
    ∃ (ys : List D) (S' : Sto), callN B (n + 2) i__law_strewn [.loc b, d] S = .ok (.o (.l ys)) S' ∧ ys.Perm xs ∧ Bx S' b k := by
  obtain ⟨ys, S', e1, e2, e3⟩ := strewn_loop (C := callN B (n + 1)) (some0 := d) (b := b) (fun S k m h1 h2 h3 => sp_take hT h1 h2 h3) xs.length xs [] S k fuelW rfl (by unfold fuelW; omega) hb (by simpa using h1) hf
  refine ⟨ys, S', ?_, by simpa using e2, e3⟩
  rw [callN_eq hO]
  cases hd <;> simp [q__law_strewn, b__law_strewn, callF, startE, finO, dSeqS, dSet, slOf, dRet, dRetN, dIfS, dSkip, dVar, dBVar, dMv, dC, fz, rv, dOp, dUn, dNil, dCons, dTup, dLst, dB, dAndT, dOrT, dNotT, dAnd, dOr, dNot, dIf, dIfR, dCall, dBlt, dOp2, dSeq, itemsOf, dFrz, frzE, dPar, rCons, rNil, setSls, dAug, dUnp, bindTg, bindTgs, wipeE, dYes, dChain, Res.bind, Res.map, R.val, O.toD, fIx_tup, fIx_lst, fIx_loc, fIx_scr, ixD, fGt_i, fLt_i, fLe_i, fGe_i, fSub_i, fIAdd_i, fMod, fDiv, fAdd, fPow, fEq, fNe, fIsN, fNotN, isNon, bLen, bList, bTuple, bAbs, bInt, bMax2, bMin2, dPutL, listSlot, isL, mutL, fPut, dIxL, dMut1, fApp, List.getElem?_cons_zero, List.getElem?_cons_succ, List.set_cons_zero, List.set_cons_succ, List.map_cons, List.map_nil, List.cons_append, List.nil_append, List.length_cons, List.length_nil, List.replicate, if_true, if_false, ite_true, ite_false, Bool.false_eq_true, reduceIte, decide_true, decide_false, Option.map_some, Option.bind_some, dWhile, e1]
end MP

namespace MP
open PySem PySem.Spec
/-! ### links and mates -/
abbrev Lk := Int × Int
def lkD (l : Lk) : D := .tup [.int l.1, .int l.2]
def touch (p : Int) (l : Lk) : Bool := l.1 == p || l.2 == p
def other (p : Int) (l : Lk) : Int := if l.1 = p then l.2 else l.1
def mates (L : List Lk) (p : Int) : List Int := (L.filter (touch p)).map (other p)
theorem sp_mates {B : Tb} {n : Nat} {S : Sto} {d : D} {L : List Lk} {p : Int} (hM : B i__law_mates = some q__law_mates) (hd : SeqD d (L.map lkD)) (hl : L.length ≤ 100000) :
    callN B (n + 1) i__law_mates [d, .int p] S = .ok (.o (.l ((mates L p).map D.int))) S := by
  have key : ∀ S, dComp (dSeq (dBVar 0)) [2, 3] (.tp [(.nm 2), (.nm 3)]) (dB (fz (dOp fIn (dBVar 1) (dTup (dCons (dVar 2) (dCons (dVar 3) dNil)))))) (dIf (dB (fz (dOp fEq (dBVar 2) (dBVar 1)))) (dVar 3) (dVar 2)) [.va d, .va (.int p), .no, .no] S
      = .ok (.o (.l ((L.filter (touch p)).map fun l => .int (other p l)))) S := fun S => by
    refine comp_pure L lkD (touch p) (fun l => .int (other p l)) ?_ hl fun l hl => ⟨[.va d, .va (.int p), .va (.int l.1), .va (.int l.2)], ?_, ?_, ?_⟩
    · cases hd <;> simp [callF, startE, finO, dSeqS, dSet, slOf, dRet, dRetN, dIfS, dSkip, dVar, dBVar, dMv, dC, fz, rv, dOp, dUn, dNil, dCons, dTup, dLst, dB, dAndT, dOrT, dNotT, dAnd, dOr, dNot, dIf, dIfR, dCall, dBlt, dOp2, dSeq, itemsOf, dFrz, frzE, dPar, rCons, rNil, setSls, dAug, dUnp, bindTg, bindTgs, wipeE, dYes, dChain, Res.bind, Res.map, R.val, O.toD, fIx_tup, fIx_lst, fIx_loc, fIx_scr, ixD, fGt_i, fLt_i, fLe_i, fGe_i, fSub_i, fIAdd_i, fMod, fDiv, fAdd, fPow, fEq, fNe, fIsN, fNotN, isNon, bLen, bList, bTuple, bAbs, bInt, bMax2, bMin2, dPutL, listSlot, isL, mutL, fPut, dIxL, dMut1, fApp, List.getElem?_cons_zero, List.getElem?_cons_succ, List.set_cons_zero, List.set_cons_succ, List.map_cons, List.map_nil, List.cons_append, List.nil_append, List.length_cons, List.length_nil, List.replicate, if_true, if_false, ite_true, ite_false, Bool.false_eq_true, reduceIte, decide_true, decide_false, Option.map_some, Option.bind_some]
    · simp [lkD, callF, startE, finO, dSeqS, dSet, slOf, dRet, dRetN, dIfS, dSkip, dVar, dBVar, dMv, dC, fz, rv, dOp, dUn, dNil, dCons, dTup, dLst, dB, dAndT, dOrT, dNotT, dAnd, dOr, dNot, dIf, dIfR, dCall, dBlt, dOp2, dSeq, itemsOf, dFrz, frzE, dPar, rCons, rNil, setSls, dAug, dUnp, bindTg, bindTgs, wipeE, dYes, dChain, Res.bind, Res.map, R.val, O.toD, fIx_tup, fIx_lst, fIx_loc, fIx_scr, ixD, fGt_i, fLt_i, fLe_i, fGe_i, fSub_i, fIAdd_i, fMod, fDiv, fAdd, fPow, fEq, fNe, fIsN, fNotN, isNon, bLen, bList, bTuple, bAbs, bInt, bMax2, bMin2, dPutL, listSlot, isL, mutL, fPut, dIxL, dMut1, fApp, List.getElem?_cons_zero, List.getElem?_cons_succ, List.set_cons_zero, List.set_cons_succ, List.map_cons, List.map_nil, List.cons_append, List.nil_append, List.length_cons, List.length_nil, List.replicate, if_true, if_false, ite_true, ite_false, Bool.false_eq_true, reduceIte, decide_true, decide_false, Option.map_some, Option.bind_some]
    · simp [callF, startE, finO, dSeqS, dSet, slOf, dRet, dRetN, dIfS, dSkip, dVar, dBVar, dMv, dC, fz, rv, dOp, dUn, dNil, dCons, dTup, dLst, dB, dAndT, dOrT, dNotT, dAnd, dOr, dNot, dIf, dIfR, dCall, dBlt, dOp2, dSeq, itemsOf, dFrz, frzE, dPar, rCons, rNil, setSls, dAug, dUnp, bindTg, bindTgs, wipeE, dYes, dChain, Res.bind, Res.map, R.val, O.toD, fIx_tup, fIx_lst, fIx_loc, fIx_scr, ixD, fGt_i, fLt_i, fLe_i, fGe_i, fSub_i, fIAdd_i, fMod, fDiv, fAdd, fPow, fEq, fNe, fIsN, fNotN, isNon, bLen, bList, bTuple, bAbs, bInt, bMax2, bMin2, dPutL, listSlot, isL, mutL, fPut, dIxL, dMut1, fApp, List.getElem?_cons_zero, List.getElem?_cons_succ, List.set_cons_zero, List.set_cons_succ, List.map_cons, List.map_nil, List.cons_append, List.nil_append, List.length_cons, List.length_nil, List.replicate, if_true, if_false, ite_true, ite_false, Bool.false_eq_true, reduceIte, decide_true, decide_false, Option.map_some, Option.bind_some, fIn, din, fitN, deq, touch]
    · intro _
      by_cases c : l.1 = p <;> simp [callF, startE, finO, dSeqS, dSet, slOf, dRet, dRetN, dIfS, dSkip, dVar, dBVar, dMv, dC, fz, rv, dOp, dUn, dNil, dCons, dTup, dLst, dB, dAndT, dOrT, dNotT, dAnd, dOr, dNot, dIf, dIfR, dCall, dBlt, dOp2, dSeq, itemsOf, dFrz, frzE, dPar, rCons, rNil, setSls, dAug, dUnp, bindTg, bindTgs, wipeE, dYes, dChain, Res.bind, Res.map, R.val, O.toD, fIx_tup, fIx_lst, fIx_loc, fIx_scr, ixD, fGt_i, fLt_i, fLe_i, fGe_i, fSub_i, fIAdd_i, fMod, fDiv, fAdd, fPow, fEq, fNe, fIsN, fNotN, isNon, bLen, bList, bTuple, bAbs, bInt, bMax2, bMin2, dPutL, listSlot, isL, mutL, fPut, dIxL, dMut1, fApp, List.getElem?_cons_zero, List.getElem?_cons_succ, List.set_cons_zero, List.set_cons_succ, List.map_cons, List.map_nil, List.cons_append, List.nil_append, List.length_cons, List.length_nil, List.replicate, if_true, if_false, ite_true, ite_false, Bool.false_eq_true, reduceIte, decide_true, decide_false, Option.map_some, Option.bind_some, fitN, deq, other, c]
  rw [callN_eq hM]
  simp [q__law_mates, b__law_mates, callF, startE, finO, dRet, List.replicate, key, mates, List.map_map]
/-! ### woods: each link has its own child by some rank -/
structure Wood (c : Int) (L : List Lk) : Prop where
  inr : ∀ l ∈ L, 0 ≤ l.1 ∧ l.1 < l.2 ∧ l.2 < c
  rk : ∃ rk : Int → Nat, (∀ l ∈ L, rk l.1 ≠ rk l.2) ∧ (L.map fun l => if rk l.1 < rk l.2 then l.2 else l.1).Nodup
theorem Wood.sub {c : Int} {L L' : List Lk} (h : Wood c L) (s : L'.Sublist L) : Wood c L' := by
  obtain ⟨rk, h1, h2⟩ := h.rk
  exact ⟨fun l hl => h.inr l (s.subset hl), rk, fun l hl => h1 l (s.subset hl), h2.sublist (s.map _)⟩
theorem Wood.perm {c : Int} {L L' : List Lk} (h : Wood c L) (s : L'.Perm L) : Wood c L' := by
  obtain ⟨rk, h1, h2⟩ := h.rk
  exact ⟨fun l hl => h.inr l (s.subset hl), rk, fun l hl => h1 l (s.subset hl), ((s.map _).nodup_iff).mpr h2⟩
theorem max_of {α : Type} (f : α → Nat) : ∀ (l : List α), l ≠ [] → ∃ x ∈ l, ∀ y ∈ l, f y ≤ f x
  | [x], _ => ⟨x, by simp, by simp⟩
  | x :: y :: r, _ => by
    obtain ⟨z, hz, h⟩ := max_of f (y :: r) (by simp)
    by_cases c : f z ≤ f x
    · refine ⟨x, by simp, fun w hw => ?_⟩
      rcases List.mem_cons.mp hw with rfl | hw
      · exact Nat.le_refl _
      · exact Nat.le_trans (h w hw) c
    · refine ⟨z, List.mem_cons_of_mem _ hz, fun w hw => ?_⟩
      rcases List.mem_cons.mp hw with rfl | hw
      · omega
      · exact h w hw
/-- at most one item passes if the images of those that pass are one and the same, and images are all different -/
theorem filter_one {α : Type} (f : α → Int) (p : α → Bool) (v : Int) : ∀ l : List α, (l.map f).Nodup → (∀ x ∈ l, p x = true → f x = v) → (∃ x ∈ l, p x = true) → (l.filter p).length = 1
  | [], _, _, h => by obtain ⟨x, hx, _⟩ := h; cases hx
  | x :: l, nd, h, hex => by
    rw [List.map_cons, List.nodup_cons] at nd
    by_cases c : p x = true
    · rw [List.filter_cons_of_pos c, List.length_cons]
      have : l.filter p = [] := by
        rw [List.filter_eq_nil_iff]
        intro y hy cy
        exact nd.1 (by
          rw [h x List.mem_cons_self c, ← h y (List.mem_cons_of_mem _ hy) cy]
          exact List.mem_map_of_mem hy)
      rw [this]
      rfl
    · rw [List.filter_cons_of_neg c]
      obtain ⟨y, hy, cy⟩ := hex
      rcases List.mem_cons.mp hy with rfl | hy
      · exact absurd cy c
      · exact filter_one f p v l nd.2 (fun z hz => h z (List.mem_cons_of_mem _ hz)) ⟨y, hy, cy⟩
theorem Wood.leaf {c : Int} {L : List Lk} (h : Wood c L) (hne : L ≠ []) : ∃ v : Int, 0 ≤ v ∧ v < c ∧ (mates L v).length = 1 := by
  obtain ⟨rk, h1, h2⟩ := h.rk
  obtain ⟨l, hl, hmax⟩ := max_of (fun l : Lk => rk (if rk l.1 < rk l.2 then l.2 else l.1)) L hne
  have hr := h.inr l hl
  refine ⟨if rk l.1 < rk l.2 then l.2 else l.1, by split <;> omega, by split <;> omega, ?_⟩
  unfold mates
  rw [List.length_map]
  refine filter_one (fun l : Lk => if rk l.1 < rk l.2 then l.2 else l.1) _ (if rk l.1 < rk l.2 then l.2 else l.1) L h2 (fun m hm ht => ?_) ⟨l, hl, ?_⟩
  · have hm1 := h1 m hm
    have hmm := hmax m hm
    generalize (if rk l.1 < rk l.2 then l.2 else l.1) = v at ht hmm
    unfold touch at ht
    simp only [Bool.or_eq_true, beq_iff_eq] at ht
    by_cases c1 : rk m.1 < rk m.2
    · simp only [if_pos c1] at hmm ⊢
      rcases ht with z | z
      · rw [← z] at hmm; omega
      · exact z
    · simp only [if_neg c1] at hmm ⊢
      rcases ht with z | z
      · exact z
      · rw [← z] at hmm; omega
  · unfold touch
    simp only [Bool.or_eq_true, beq_iff_eq]
    split
    · exact .inr rfl
    · exact .inl rfl

/-! ### sorting -/
theorem dle_int (a b : Int) : dle (.int a) (.int b) = decide (a ≤ b) := by
  unfold dle PySem.W.dataLe PySem.W.sortLe
  by_cases h : a ≤ b
  · simp [toPy, PySem.W.keyToks, PyProof.Rows.lexLt, PyProof.Rows.itemLt, h]
  · simp [toPy, PySem.W.keyToks, PyProof.Rows.lexLt, PyProof.Rows.itemLt, h]
    omega
theorem dSort2 (a b : D) : dSort [a, b] = if dle a b = true then [a, b] else [b, a] := by
  unfold dSort
  simp [List.mergeSort, List.merge, List.MergeSort.Internal.splitInTwo]
theorem dSort_perm (ds : List D) : (dSort ds).Perm ds := List.mergeSort_perm _ _
theorem sortOk_int2 (a b : Int) : sortOk [.int a, .int b] = true := by
  simp [sortOk, fitN, plainD, nonEmptyTup, toPy, PySem.W.alike]
theorem sortOk_lks {L : List Lk} (h : L.length ≤ 100000) : sortOk (L.map lkD) = true := by
  unfold sortOk
  simp only [Bool.and_eq_true, Bool.or_eq_true, decide_eq_true_eq, List.all_eq_true, List.length_map]
  refine ⟨⟨⟨fun d hd => ?_, .inl fun d hd => ?_⟩, fun d hd e he => ?_⟩, h⟩
  · obtain ⟨l, _, rfl⟩ := List.mem_map.mp hd
    simp [lkD, fitN]
  · obtain ⟨l, _, rfl⟩ := List.mem_map.mp hd
    rfl
  · obtain ⟨l, _, rfl⟩ := List.mem_map.mp hd
    obtain ⟨m, _, rfl⟩ := List.mem_map.mp he
    simp [lkD, toPy, toPys, PySem.W.alike, PySem.W.alikeAll]
def lkOf (x y : Int) : Lk := if x ≤ y then (x, y) else (y, x)
theorem sorted2 (x y : Int) (S : Sto) : bSorted [.lst [.int x, .int y]] S = .ok (.o (.l [.int (lkOf x y).1, .int (lkOf x y).2])) S := by
  unfold bSorted
  simp only [sortOk_int2, if_true, dSort2, dle_int]
  unfold lkOf
  by_cases c : x ≤ y <;> simp [c]
theorem perm_lks {L : List Lk} {ds : List D} (h : ds.Perm (L.map lkD)) : ∃ L' : List Lk, L'.Perm L ∧ ds = L'.map lkD := by
  obtain ⟨L', h1, h2⟩ := L2.perm_lift lkD h L rfl
  exact ⟨L', h1, h2.symm⟩
theorem perm_ints {L : List Int} {ds : List D} (h : ds.Perm (L.map D.int)) : ∃ L' : List Int, L'.Perm L ∧ ds = L'.map D.int := by
  obtain ⟨L', h1, h2⟩ := L2.perm_lift D.int h L rfl
  exact ⟨L', h1, h2.symm⟩
/-! ### _law_wood -/
def rng (n : Nat) : List Int := (List.range n).map fun i : Nat => (i : Int)
theorem mem_rng {n : Nat} {x : Int} : x ∈ rng n ↔ 0 ≤ x ∧ x < n := by
  unfold rng
  simp only [List.mem_map, List.mem_range]
  constructor
  · rintro ⟨i, hi, rfl⟩
    omega
  · rintro ⟨h1, h2⟩
    exact ⟨x.toNat, by omega, by omega⟩
theorem rng_nodup (n : Nat) : (rng n).Nodup := by
  unfold rng List.Nodup
  rw [List.pairwise_map]
  exact List.nodup_range.imp fun h e => h (by omega)
theorem rng_len (n : Nat) : (rng n).length = n := by simp [rng]
theorem rangeD_rng (n : Nat) : rangeD 0 (n : Int) = (rng n).map D.int := by
  rw [rangeD_nat, rng, List.map_map]
  rfl
/-- the links laid so far: link i joins tag i + 1 to an earlier one -/
structure Laid (tags : List Int) (L : List Lk) (i : Nat) : Prop where
  len : L.length = i
  at_ : ∀ (j : Nat) (l : Lk), L[j]? = some l → ∃ (b : Nat) (x y : Int), b ≤ j ∧ tags[j + 1]? = some x ∧ tags[b]? = some y ∧ l = lkOf x y
theorem Laid.wood {tags : List Int} {L : List Lk} {c : Nat} (h : Laid tags L (c - 1)) (hp : tags.Perm (rng c)) : Wood c L := by
  have nd : tags.Nodup := hp.nodup_iff.mpr (rng_nodup c)
  have hl : tags.length = c := by rw [hp.length_eq, rng_len]
  have idx : ∀ (j : Nat) (x : Int), tags[j]? = some x → tags.idxOf x = j := fun j x e => by
    obtain ⟨hj, e⟩ := List.getElem?_eq_some_iff.mp e
    rw [← e]
    exact nd.idxOf_getElem j hj
  have inr : ∀ (j : Nat) (x : Int), tags[j]? = some x → 0 ≤ x ∧ x < c := fun j x e => mem_rng.mp (hp.mem_iff.mp (List.mem_of_getElem? e))
  have key : ∀ (j : Nat) (l : Lk), L[j]? = some l → (0 ≤ l.1 ∧ l.1 < l.2 ∧ l.2 < c) ∧ tags.idxOf l.1 ≠ tags.idxOf l.2 ∧ tags[j + 1]? = some (if tags.idxOf l.1 < tags.idxOf l.2 then l.2 else l.1) := fun j l e => by
    obtain ⟨b, x, y, hb, hx, hy, rfl⟩ := h.at_ j l e
    have ix := idx _ _ hx
    have iy := idx _ _ hy
    have rx := inr _ _ hx
    have ry := inr _ _ hy
    have hxy : x ≠ y := fun z => by
      rw [z, iy] at ix
      omega
    unfold lkOf
    by_cases c1 : x ≤ y
    · rw [if_pos c1]
      refine ⟨⟨rx.1, by show x < y; omega, ry.2⟩, by show tags.idxOf x ≠ tags.idxOf y; omega, ?_⟩
      show _ = some (if tags.idxOf x < tags.idxOf y then y else x)
      rw [if_neg (by omega)]
      exact hx
    · rw [if_neg c1]
      refine ⟨⟨ry.1, by show y < x; omega, rx.2⟩, by show tags.idxOf y ≠ tags.idxOf x; omega, ?_⟩
      show _ = some (if tags.idxOf y < tags.idxOf x then x else y)
      rw [if_pos (by omega)]
      exact hx
  refine ⟨fun l hl => ?_, tags.idxOf, fun l hl => ?_, ?_⟩
  · obtain ⟨j, hj⟩ := List.mem_iff_getElem?.mp hl
    exact (key j l hj).1
  · obtain ⟨j, hj⟩ := List.mem_iff_getElem?.mp hl
    exact (key j l hj).2.1
  · have e : (L.map fun l => if tags.idxOf l.1 < tags.idxOf l.2 then l.2 else l.1) = tags.drop 1 := by
      apply List.ext_getElem?
      intro j
      rw [List.getElem?_map, List.getElem?_drop]
      cases hj : L[j]? with
      | some l =>
        rw [Nat.add_comm 1 j, (key j l hj).2.2]
        rfl
      | none =>
        have := List.getElem?_eq_none_iff.mp hj
        have hL := h.len
        rw [List.getElem?_eq_none (by omega)]
        rfl
    rw [e]
    exact nd.sublist (List.drop_sublist _ _)
end MP

namespace MP
open PySem PySem.Spec
theorem Laid.snoc {tags : List Int} {L : List Lk} {i : Nat} (h : Laid tags L i) {b : Nat} {x y : Int} (hb : b ≤ i) (hx : tags[i + 1]? = some x) (hy : tags[b]? = some y) : Laid tags (L ++ [lkOf x y]) (i + 1) := by
  refine ⟨by simp [h.len], fun j l e => ?_⟩
  by_cases c : j < L.length
  · rw [List.getElem?_append_left c] at e
    exact h.at_ j l e
  · rw [List.getElem?_append_right (by omega)] at e
    have hl := h.len
    have e0 : j - L.length = 0 := by
      cases k : j - L.length with
      | zero => rfl
      | succ k' => rw [k] at e; simp at e
    rw [e0] at e
    have ej : j = i := by omega
    subst ej
    simp at e
    exact ⟨b, x, y, hb, hx, hy, e.symm⟩
theorem rangeD_from (m : Nat) (lo : Int) : rangeD lo (lo + m) = (List.range m).map fun i : Nat => D.int (lo + i) := by
  unfold rangeD
  have : (lo + m - lo).toNat = m := by omega
  rw [this]
theorem sp_wood {B : Tb} {n b k c : Nat} {S : Sto} (hT : B i__law_take = some q__law_take) (hS : B i__law_strewn = some q__law_strewn) (hW : B i__law_wood_v0 = some q__law_wood_v0) (h1 : 1 ≤ c) (h2 : c ≤ 1000) (hb : Bx S b (k + 2 * c + c + 1)) :
    ∃ (L : List Lk) (S' : Sto), callN B (n + 3) i__law_wood_v0 [.loc b, .int c] S = .ok (.v (.tup [.int c, .tup (L.map lkD)])) S' ∧ Wood c L ∧ L.length = c - 1 ∧ Bx S' b k := by
  obtain ⟨ys, S1, a1, a2, a3⟩ := sp_strewn (n := n) (d := .lst (rangeD 0 c)) (xs := rangeD 0 c) (k := k + 2 * c + 1) hT hS (hb.mono (by rw [rangeD_nat, List.length_map, List.length_range]; omega)) (.lst _) (by rw [rangeD_nat, List.length_map, List.length_range]; omega) (by rw [rangeD_rng]; exact fit_ints _ _)
  rw [rangeD_rng] at a2
  obtain ⟨tags, hp, rfl⟩ := perm_ints a2
  have htl : tags.length = c := by rw [hp.length_eq, rng_len]
  obtain ⟨near, S2, b1, b2, b3, b4⟩ := sp_take (n := n + 1) (m := 3) (k := k + 2 * c) hT a3 (by decide) (by decide)
  have a1 : callN B (n + 2) 230 [.loc b, .lst (rangeD 0 c)] S = .ok (.o (.l (tags.map D.int))) S1 := a1
  have b1 : callN B (n + 2) 238 [.loc b, .int 3] S1 = .ok (.v (.int near)) S2 := b1
  have loop := for_inv (t := .nm 2) (b := (dSeqS
  (dSet 6 (dIfR (dB (fz (dOp fGt (dBVar 5) (dC (.int 0))))) (dCall (callN B (n + 2)) 238 (dCons (dVar 0) (dCons (dVar 2) dNil))) (dBlt bMax2 (dCons (dC (.int 0)) (dCons (fz (dOp fSub (fz (dOp fSub (dBVar 2) (dC (.int 1)))) (fz (dCall (callN B (n + 2)) 238 (dCons (dVar 0) (dCons (dC (.int 2)) dNil)))))) dNil)))))
  (dMut1 4 fApp (fz (dBlt bTuple (dCons (fz (dBlt bSorted (dCons (fz (dLst (dCons (fz (dOp fIx (dBVar 3) (dBVar 2))) (dCons (fz (dOp fIx (dBVar 3) (dBVar 6))) dNil)))) dNil))) dNil))))))
    (fun i : Nat => D.int (1 + i)) (fun i env S => ∃ (L : List Lk) (pc bk : Sl), env = [.va (.loc b), .va (.int c), pc, .ow (.l (tags.map D.int)), .ow (.l (L.map lkD)), .va (.int near), bk] ∧ Laid tags L i ∧ Bx S b (k + 2 * (c - i))) (List.range (c - 1)) 0
    [.va (.loc b), .va (.int c), .no, .ow (.l (tags.map D.int)), .ow (.l []), .va (.int near), .no] S2 ⟨[], .no, .no, rfl, ⟨rfl, fun j l e => by simp at e⟩, by simpa using b4⟩ ?_
  · obtain ⟨e, S3, g1, L, pc, bk, rfl, g2, g3⟩ := loop
    rw [List.length_range, Nat.zero_add] at g2 g3
    obtain ⟨L', p1, p2⟩ := perm_lks (dSort_perm (L.map lkD))
    have hlen : L.length = c - 1 := g2.len
    refine ⟨L', S3, ?_, (g2.wood hp).perm p1, by rw [p1.length_eq, hlen], g3.mono (by omega)⟩
    have hr : rangeD 1 (c : Int) = (List.range (c - 1)).map fun i : Nat => D.int (1 + i) := by
      rw [← rangeD_from]
      congr 1
      omega
    have so := sortOk_lks (L := L) (by omega)
    have b0 : (c : Int) ≤ 100000 ∧ -100000 ≤ (c : Int) := by omega
    rw [callN_eq hW]
    simp [q__law_wood_v0, b__law_wood_v0, callF, startE, finO, dSeqS, dSet, slOf, dRet, dRetN, dIfS, dSkip, dVar, dBVar, dMv, dC, fz, rv, dOp, dUn, dNil, dCons, dTup, dLst, dB, dAndT, dOrT, dNotT, dAnd, dOr, dNot, dIf, dIfR, dCall, dBlt, dOp2, dSeq, itemsOf, dFrz, frzE, dPar, rCons, rNil, setSls, dAug, dUnp, bindTg, bindTgs, wipeE, dYes, dChain, Res.bind, Res.map, R.val, O.toD, fIx_tup, fIx_lst, fIx_loc, fIx_scr, ixD, fGt_i, fLt_i, fLe_i, fGe_i, fSub_i, fIAdd_i, fMod, fDiv, fAdd, fPow, fEq, fNe, fIsN, fNotN, isNon, bLen, bList, bTuple, bAbs, bInt, bMax2, bMin2, dPutL, listSlot, isL, mutL, fPut, dIxL, dMut1, fApp, List.getElem?_cons_zero, List.getElem?_cons_succ, List.set_cons_zero, List.set_cons_succ, List.map_cons, List.map_nil, List.cons_append, List.nil_append, List.length_cons, List.length_nil, List.replicate, if_true, if_false, ite_true, ite_false, Bool.false_eq_true, reduceIte, decide_true, decide_false, Option.map_some, Option.bind_some, dMkL, dRange1, dRange2, dFor, b0, a1, b1, hr, g1, bSorted, so, p2]
  · rintro j x env S hj ⟨L, pc, bk, rfl, g2, g3⟩
    rw [Nat.zero_add] at g2 g3
    have hjl : j < c - 1 := by
      have := (List.getElem?_eq_some_iff.mp hj).1
      simpa using this
    have ex : x = j := by
      rw [List.getElem?_range hjl] at hj
      exact (Option.some.inj hj).symm
    subst ex
    -- the earlier piece
    have back : ∃ (r : Nat) (S' : Sto), dIfR (dB (fz (dOp fGt (dBVar 5) (dC (.int 0))))) (dCall (callN B (n + 2)) 238 (dCons (dVar 0) (dCons (dVar 2) dNil))) (dBlt bMax2 (dCons (dC (.int 0)) (dCons (fz (dOp fSub (fz (dOp fSub (dBVar 2) (dC (.int 1)))) (fz (dCall (callN B (n + 2)) 238 (dCons (dVar 0) (dCons (dC (.int 2)) dNil)))))) dNil)))
        [.va (.loc b), .va (.int c), .va (.int (1 + x)), .ow (.l (tags.map D.int)), .ow (.l (L.map lkD)), .va (.int near), bk] S = .ok (.v (.int r)) S' ∧ r ≤ x ∧ Bx S' b (k + 2 * (c - (x + 1))) := by
      by_cases cn : 0 < near
      · obtain ⟨r, S', e1, e2, e3, e4⟩ := sp_take (n := n + 1) (m := 1 + x) (k := k + 2 * (c - (x + 1)) + 1) hT (g3.mono (by omega)) (by omega) (by omega)
        have e1 : callN B (n + 2) 238 [.loc b, .int (1 + x)] S = .ok (.v (.int r)) S' := e1
        refine ⟨r.toNat, S', ?_, by omega, e4.mono (by omega)⟩
        have er : (r.toNat : Int) = r := by omega
        rw [er]
        simp [callF, startE, finO, dSeqS, dSet, slOf, dRet, dRetN, dIfS, dSkip, dVar, dBVar, dMv, dC, fz, rv, dOp, dUn, dNil, dCons, dTup, dLst, dB, dAndT, dOrT, dNotT, dAnd, dOr, dNot, dIf, dIfR, dCall, dBlt, dOp2, dSeq, itemsOf, dFrz, frzE, dPar, rCons, rNil, setSls, dAug, dUnp, bindTg, bindTgs, wipeE, dYes, dChain, Res.bind, Res.map, R.val, O.toD, fIx_tup, fIx_lst, fIx_loc, fIx_scr, ixD, fGt_i, fLt_i, fLe_i, fGe_i, fSub_i, fIAdd_i, fMod, fDiv, fAdd, fPow, fEq, fNe, fIsN, fNotN, isNon, bLen, bList, bTuple, bAbs, bInt, bMax2, bMin2, dPutL, listSlot, isL, mutL, fPut, dIxL, dMut1, fApp, List.getElem?_cons_zero, List.getElem?_cons_succ, List.set_cons_zero, List.set_cons_succ, List.map_cons, List.map_nil, List.cons_append, List.nil_append, List.length_cons, List.length_nil, List.replicate, if_true, if_false, ite_true, ite_false, Bool.false_eq_true, reduceIte, decide_true, decide_false, Option.map_some, Option.bind_some, cn, e1]
      · obtain ⟨r, S', e1, e2, e3, e4⟩ := sp_take (n := n + 1) (m := 2) (k := k + 2 * (c - (x + 1)) + 1) hT (g3.mono (by omega)) (by decide) (by decide)
        have e1 : callN B (n + 2) 238 [.loc b, .int 2] S = .ok (.v (.int r)) S' := e1
        refine ⟨((x : Int) - r).toNat, S', ?_, by omega, e4.mono (by omega)⟩
        have ex : (1 + (x : Int) - 1 - r) = x - r := by omega
        simp [callF, startE, finO, dSeqS, dSet, slOf, dRet, dRetN, dIfS, dSkip, dVar, dBVar, dMv, dC, fz, rv, dOp, dUn, dNil, dCons, dTup, dLst, dB, dAndT, dOrT, dNotT, dAnd, dOr, dNot, dIf, dIfR, dCall, dBlt, dOp2, dSeq, itemsOf, dFrz, frzE, dPar, rCons, rNil, setSls, dAug, dUnp, bindTg, bindTgs, wipeE, dYes, dChain, Res.bind, Res.map, R.val, O.toD, fIx_tup, fIx_lst, fIx_loc, fIx_scr, ixD, fGt_i, fLt_i, fLe_i, fGe_i, fSub_i, fIAdd_i, fMod, fDiv, fAdd, fPow, fEq, fNe, fIsN, fNotN, isNon, bLen, bList, bTuple, bAbs, bInt, bMax2, bMin2, dPutL, listSlot, isL, mutL, fPut, dIxL, dMut1, fApp, List.getElem?_cons_zero, List.getElem?_cons_succ, List.set_cons_zero, List.set_cons_succ, List.map_cons, List.map_nil, List.cons_append, List.nil_append, List.length_cons, List.length_nil, List.replicate, if_true, if_false, ite_true, ite_false, Bool.false_eq_true, reduceIte, decide_true, decide_false, Option.map_some, Option.bind_some, cn, e1, ex]
        split <;> omega
    obtain ⟨r, S', e1, e2, e3⟩ := back
    have hx : tags[x + 1]? = some (tags[x + 1]'(by omega)) := List.getElem?_eq_getElem _
    have hy : tags[r]? = some (tags[r]'(by omega)) := List.getElem?_eq_getElem _
    generalize tags[x + 1]'(by omega) = vx at hx
    generalize tags[r]'(by omega) = vy at hy
    refine ⟨[.va (.loc b), .va (.int c), .va (.int (1 + x)), .ow (.l (tags.map D.int)), .ow (.l (L.map lkD)), .va (.int near), bk], [.va (.loc b), .va (.int c), .va (.int (1 + x)), .ow (.l (tags.map D.int)), .ow (.l ((L ++ [lkOf vx vy]).map lkD)), .va (.int near), .va (.int r)], S', ?_, ?_, L ++ [lkOf vx vy], .va (.int (1 + x)), .va (.int r), rfl, ?_, ?_⟩
    · simp [bindTg]
    · have i1 : (1 + (x : Int)).toNat = x + 1 := by omega
      have i2 : 0 ≤ 1 + (x : Int) := by omega
      have hl : L.length ≤ 100000 := by have := g2.len; omega
      simp only [dSeqS, dSet, e1]
      simp [callF, startE, finO, dSeqS, dSet, slOf, dRet, dRetN, dIfS, dSkip, dVar, dBVar, dMv, dC, fz, rv, dOp, dUn, dNil, dCons, dTup, dLst, dB, dAndT, dOrT, dNotT, dAnd, dOr, dNot, dIf, dIfR, dCall, dBlt, dOp2, dSeq, itemsOf, dFrz, frzE, dPar, rCons, rNil, setSls, dAug, dUnp, bindTg, bindTgs, wipeE, dYes, dChain, Res.bind, Res.map, R.val, O.toD, fIx_tup, fIx_lst, fIx_loc, fIx_scr, ixD, fGt_i, fLt_i, fLe_i, fGe_i, fSub_i, fIAdd_i, fMod, fDiv, fAdd, fPow, fEq, fNe, fIsN, fNotN, isNon, bLen, bList, bTuple, bAbs, bInt, bMax2, bMin2, dPutL, listSlot, isL, mutL, fPut, dIxL, dMut1, fApp, List.getElem?_cons_zero, List.getElem?_cons_succ, List.set_cons_zero, List.set_cons_succ, List.map_cons, List.map_nil, List.cons_append, List.nil_append, List.length_cons, List.length_nil, List.replicate, if_true, if_false, ite_true, ite_false, Bool.false_eq_true, reduceIte, decide_true, decide_false, Option.map_some, Option.bind_some, i1, i2, hx, hy, sorted2, hl, lkD]
    · rw [Nat.zero_add]
      exact g2.snoc e2 hx hy
    · rw [Nat.zero_add]
      exact e3
end MP

namespace MP
open PySem PySem.Spec
/-! ### closings -/
def cutL (L : List Lk) (q : Int) : List Lk := L.filter fun l => !touch q l
def rest (L : List Lk) (Q : List Int) : List Lk := Q.foldl cutL L
inductive Shut : List Lk → List Int → List Int → Prop
  | nil (L : List Lk) : Shut L [] []
  | cons {L : List Lk} {q e : Int} {Q E : List Int} : mates L q = [e] → Shut (cutL L q) Q E → Shut L (q :: Q) (e :: E)
theorem Shut.snoc {q e : Int} : ∀ {Q E : List Int} {L : List Lk}, Shut L Q E → mates (rest L Q) q = [e] → Shut L (Q ++ [q]) (E ++ [e])
  | _, _, _, .nil L, h => .cons h (.nil _)
  | _, _, _, .cons a b, h => .cons a (b.snoc h)
theorem Shut.length : ∀ {Q E : List Int} {L : List Lk}, Shut L Q E → Q.length = E.length
  | _, _, _, .nil L => rfl
  | _, _, _, .cons a b => by simp [b.length]
theorem rest_snoc (L : List Lk) (Q : List Int) (q : Int) : rest L (Q ++ [q]) = cutL (rest L Q) q := by simp [rest]
theorem rest_sub : ∀ (Q : List Int) (L : List Lk), (rest L Q).Sublist L
  | [], L => List.Sublist.refl _
  | q :: Q, L => (rest_sub Q (cutL L q)).trans List.filter_sublist
theorem len_split {α : Type} (p : α → Bool) : ∀ l : List α, (l.filter p).length + (l.filter fun x => !p x).length = l.length
  | [] => rfl
  | x :: l => by
    have := len_split p l
    cases c : p x <;> simp [c] <;> omega
theorem cut_len {L : List Lk} {q : Int} (h : (mates L q).length = 1) : (cutL L q).length + 1 = L.length := by
  unfold mates at h
  rw [List.length_map] at h
  have := len_split (touch q) L
  unfold cutL
  omega
theorem one_of {α : Type} {l : List α} (h : l.length = 1) : ∃ x, l = [x] := by
  match l, h with
  | [x], _ => exact ⟨x, rfl⟩
theorem fit_lk (n : Nat) (l : Lk) : fitN (n + 1) (lkD l) = true := by simp [lkD, fitN]
theorem all_lks (n : Nat) (L : List Lk) : (L.map lkD).all (fitN (n + 1)) = true := by
  rw [List.all_eq_true]
  intro d hd
  obtain ⟨l, _, rfl⟩ := List.mem_map.mp hd
  exact fit_lk n l
theorem last_ix (xs : List D) (x : D) : ixD (xs ++ [x]) (-1) = some x := by
  unfold ixD
  rw [if_neg (by decide), if_pos (by simp; omega)]
  have : (-1 + ((xs ++ [x]).length : Int)).toNat = xs.length := by
    simp
    omega
  rw [this]
  simp
theorem sp_shut {B : Tb} {n b k s : Nat} {c : Nat} {S : Sto} {L0 : List Lk} {dL : D} (hT : B i__law_take = some q__law_take) (hO : B i__law_of = some q__law_of) (hM : B i__law_mates = some q__law_mates) (hH : B i__law_shut_v1 = some q__law_shut_v1)
    (hW : Wood c L0) (hd : SeqD dL (L0.map lkD)) (hL : L0.length ≤ 1000) (hc : c ≤ 1000) (hs : s ≤ L0.length) (hb : Bx S b (k + s)) :
    ∃ (Q E : List Int) (S' : Sto), callN B (n + 3) i__law_shut_v1 [.loc b, .tup [.int c, dL], .int s] S = .ok (.v (.tup [.tup (Q.map D.int), .tup (E.map D.int)])) S' ∧ Shut L0 Q E ∧ Q.length = s ∧ (∀ q ∈ Q, 0 ≤ q ∧ q < c) ∧ Bx S' b k := by
  have loop := for_inv (t := .nm 3) (b := (dSeqS
  (dFrz 4 (dSet 7 (dComp (dRange1 (fz (dOp fIx (dBVar 1) (dC (.int 0))))) [8] (.nm 8) (dB (fz (dOp fEq (fz (dBlt bLen (dCons (fz (dCall (callN B (n + 2)) 90 (dCons (dVar 4) (dCons (dVar 8) dNil)))) dNil))) (dC (.int 1))))) (dVar 8))))
  (dSeqS
  (dFrz 7 (dMut1 5 fApp (fz (dCall (callN B (n + 2)) 110 (dCons (dVar 0) (dCons (dVar 7) dNil))))))
  (dSeqS
  (dFrz 4 (dMut1 6 fApp (fz (dOp fIx (fz (dCall (callN B (n + 2)) 90 (dCons (dVar 4) (dCons (fz (dOp fIx (dBVar 5) (fz (dUn fNeg (dC (.int 1)))))) dNil)))) (dC (.int 0))))))
  (dSet 4 (dComp (dSeq (dBVar 4)) [9] (.nm 9) (dB (fz (dOp fNotIn (fz (dOp fIx (dBVar 5) (fz (dUn fNeg (dC (.int 1)))))) (dBVar 9)))) (dVar 9)))))))
    (fun i : Int => D.int i) (fun i env S => ∃ (Q E : List Int) (pc sm : Sl), env = [.va (.loc b), .va (.tup [.int c, dL]), .va (.int s), pc, .ow (.l ((rest L0 Q).map lkD)), .ow (.l (Q.map D.int)), .ow (.l (E.map D.int)), sm, .no, .no] ∧ Shut L0 Q E ∧ Q.length = i ∧ (rest L0 Q).length + i = L0.length ∧ (∀ q ∈ Q, 0 ≤ q ∧ q < c) ∧ Bx S b (k + (s - i))) (rng s) 0
    [.va (.loc b), .va (.tup [.int c, dL]), .va (.int s), .no, .ow (.l (L0.map lkD)), .ow (.l []), .ow (.l []), .no, .no, .no] S ⟨[], [], .no, .no, rfl, .nil _, rfl, rfl, fun q hq => (by cases hq), by simpa using hb⟩ ?_
  · obtain ⟨e, S3, g1, Q, E, pc, sm, rfl, g2, g3, g4, g5, g6⟩ := loop
    rw [rng_len, Nat.zero_add] at g3 g6
    refine ⟨Q, E, S3, ?_, g2, g3, g5, g6.mono (by omega)⟩
    have hr : rangeD 0 (s : Int) = (rng s).map fun i : Int => D.int i := rangeD_rng s
    have b0 : (s : Int) ≤ 100000 ∧ -100000 ≤ (s : Int) := by omega
    rw [callN_eq hH]
    cases hd <;> simp [q__law_shut_v1, b__law_shut_v1, callF, startE, finO, dSeqS, dSet, slOf, dRet, dRetN, dIfS, dSkip, dVar, dBVar, dMv, dC, fz, rv, dOp, dUn, dNil, dCons, dTup, dLst, dB, dAndT, dOrT, dNotT, dAnd, dOr, dNot, dIf, dIfR, dCall, dBlt, dOp2, dSeq, itemsOf, dFrz, frzE, dPar, rCons, rNil, setSls, dAug, dUnp, bindTg, bindTgs, wipeE, dYes, dChain, Res.bind, Res.map, R.val, O.toD, fIx_tup, fIx_lst, fIx_loc, fIx_scr, ixD, fGt_i, fLt_i, fLe_i, fGe_i, fSub_i, fIAdd_i, fMod, fDiv, fAdd, fPow, fEq, fNe, fIsN, fNotN, isNon, bLen, bList, bTuple, bAbs, bInt, bMax2, bMin2, dPutL, listSlot, isL, mutL, fPut, dIxL, dMut1, fApp, List.getElem?_cons_zero, List.getElem?_cons_succ, List.set_cons_zero, List.set_cons_succ, List.map_cons, List.map_nil, List.cons_append, List.nil_append, List.length_cons, List.length_nil, List.replicate, if_true, if_false, ite_true, ite_false, Bool.false_eq_true, reduceIte, decide_true, decide_false, Option.map_some, Option.bind_some, dRange1, dFor, b0, hr, g1]
  · rintro j x env S hj ⟨Q, E, pc, sm, rfl, g2, g3, g4, g5, g6⟩
    rw [Nat.zero_add] at g3 g4 g6
    have hjl : j < s := by
      have := (List.getElem?_eq_some_iff.mp hj).1
      rw [rng_len] at this
      exact this
    have hLw : Wood c (rest L0 Q) := hW.sub (rest_sub Q L0)
    have hlen : (rest L0 Q).length ≤ 1000 := by omega
    obtain ⟨v, v1, v2, v3⟩ := hLw.leaf (by intro z; rw [z] at g4; simp at g4; omega)
    -- the leaves
    have comp1 : ∀ S, dComp (dRange1 (fz (dOp fIx (dBVar 1) (dC (.int 0))))) [8] (.nm 8) (dB (fz (dOp fEq (fz (dBlt bLen (dCons (fz (dCall (callN B (n + 2)) 90 (dCons (dVar 4) (dCons (dVar 8) dNil)))) dNil))) (dC (.int 1))))) (dVar 8)
        [.va (.loc b), .va (.tup [.int c, dL]), .va (.int s), .va (.int x), .va (.lst ((rest L0 Q).map lkD)), .ow (.l (Q.map D.int)), .ow (.l (E.map D.int)), sm, .no, .no] S = .ok (.o (.l (((rng c).filter fun p => (mates (rest L0 Q) p).length == 1).map D.int))) S := fun S => by
      have b0 : (c : Int) ≤ 100000 ∧ -100000 ≤ (c : Int) := by omega
      refine comp_pure (rng c) D.int _ D.int ?_ (by rw [rng_len]; omega) fun p hp => ⟨[.va (.loc b), .va (.tup [.int c, dL]), .va (.int s), .va (.int x), .va (.lst ((rest L0 Q).map lkD)), .ow (.l (Q.map D.int)), .ow (.l (E.map D.int)), sm, .va (.int p), .no], ?_, ?_, ?_⟩
      · simp [callF, startE, finO, dSeqS, dSet, slOf, dRet, dRetN, dIfS, dSkip, dVar, dBVar, dMv, dC, fz, rv, dOp, dUn, dNil, dCons, dTup, dLst, dB, dAndT, dOrT, dNotT, dAnd, dOr, dNot, dIf, dIfR, dCall, dBlt, dOp2, dSeq, itemsOf, dFrz, frzE, dPar, rCons, rNil, setSls, dAug, dUnp, bindTg, bindTgs, wipeE, dYes, dChain, Res.bind, Res.map, R.val, O.toD, fIx_tup, fIx_lst, fIx_loc, fIx_scr, ixD, fGt_i, fLt_i, fLe_i, fGe_i, fSub_i, fIAdd_i, fMod, fDiv, fAdd, fPow, fEq, fNe, fIsN, fNotN, isNon, bLen, bList, bTuple, bAbs, bInt, bMax2, bMin2, dPutL, listSlot, isL, mutL, fPut, dIxL, dMut1, fApp, List.getElem?_cons_zero, List.getElem?_cons_succ, List.set_cons_zero, List.set_cons_succ, List.map_cons, List.map_nil, List.cons_append, List.nil_append, List.length_cons, List.length_nil, List.replicate, if_true, if_false, ite_true, ite_false, Bool.false_eq_true, reduceIte, decide_true, decide_false, Option.map_some, Option.bind_some, dRange1, b0, rangeD_rng]
      · simp [callF, startE, finO, dSeqS, dSet, slOf, dRet, dRetN, dIfS, dSkip, dVar, dBVar, dMv, dC, fz, rv, dOp, dUn, dNil, dCons, dTup, dLst, dB, dAndT, dOrT, dNotT, dAnd, dOr, dNot, dIf, dIfR, dCall, dBlt, dOp2, dSeq, itemsOf, dFrz, frzE, dPar, rCons, rNil, setSls, dAug, dUnp, bindTg, bindTgs, wipeE, dYes, dChain, Res.bind, Res.map, R.val, O.toD, fIx_tup, fIx_lst, fIx_loc, fIx_scr, ixD, fGt_i, fLt_i, fLe_i, fGe_i, fSub_i, fIAdd_i, fMod, fDiv, fAdd, fPow, fEq, fNe, fIsN, fNotN, isNon, bLen, bList, bTuple, bAbs, bInt, bMax2, bMin2, dPutL, listSlot, isL, mutL, fPut, dIxL, dMut1, fApp, List.getElem?_cons_zero, List.getElem?_cons_succ, List.set_cons_zero, List.set_cons_succ, List.map_cons, List.map_nil, List.cons_append, List.nil_append, List.length_cons, List.length_nil, List.replicate, if_true, if_false, ite_true, ite_false, Bool.false_eq_true, reduceIte, decide_true, decide_false, Option.map_some, Option.bind_some]
      · have m := sp_mates (n := n + 1) (S := S) (p := p) hM (SeqD.lst ((rest L0 Q).map lkD)) (by omega)
        have m : callN B (n + 2) 90 [.lst ((rest L0 Q).map lkD), .int p] S = _ := m
        simp only [callF, startE, finO, dSeqS, dSet, slOf, dRet, dRetN, dIfS, dSkip, dVar, dBVar, dMv, dC, fz, rv, dOp, dUn, dNil, dCons, dTup, dLst, dB, dAndT, dOrT, dNotT, dAnd, dOr, dNot, dIf, dIfR, dCall, dBlt, dOp2, dSeq, itemsOf, dFrz, frzE, dPar, rCons, rNil, setSls, dAug, dUnp, bindTg, bindTgs, wipeE, dYes, dChain, Res.bind, Res.map, R.val, O.toD, fIx_tup, fIx_lst, fIx_loc, fIx_scr, ixD, fGt_i, fLt_i, fLe_i, fGe_i, fSub_i, fIAdd_i, fMod, fDiv, fAdd, fPow, fEq, fNe, fIsN, fNotN, isNon, bLen, bList, bTuple, bAbs, bInt, bMax2, bMin2, dPutL, listSlot, isL, mutL, fPut, dIxL, dMut1, fApp, List.getElem?_cons_zero, List.getElem?_cons_succ, List.set_cons_zero, List.set_cons_succ, List.map_cons, List.map_nil, List.cons_append, List.nil_append, List.length_cons, List.length_nil, List.replicate, if_true, if_false, ite_true, ite_false, Bool.false_eq_true, reduceIte, decide_true, decide_false, Option.map_some, Option.bind_some, m]
        simp only [List.length_map, fitN, deq, and_self, if_true]
        congr 1
        rw [Bool.eq_iff_iff]
        simp
        omega
      · intro _
        simp [callF, startE, finO, dSeqS, dSet, slOf, dRet, dRetN, dIfS, dSkip, dVar, dBVar, dMv, dC, fz, rv, dOp, dUn, dNil, dCons, dTup, dLst, dB, dAndT, dOrT, dNotT, dAnd, dOr, dNot, dIf, dIfR, dCall, dBlt, dOp2, dSeq, itemsOf, dFrz, frzE, dPar, rCons, rNil, setSls, dAug, dUnp, bindTg, bindTgs, wipeE, dYes, dChain, Res.bind, Res.map, R.val, O.toD, fIx_tup, fIx_lst, fIx_loc, fIx_scr, ixD, fGt_i, fLt_i, fLe_i, fGe_i, fSub_i, fIAdd_i, fMod, fDiv, fAdd, fPow, fEq, fNe, fIsN, fNotN, isNon, bLen, bList, bTuple, bAbs, bInt, bMax2, bMin2, dPutL, listSlot, isL, mutL, fPut, dIxL, dMut1, fApp, List.getElem?_cons_zero, List.getElem?_cons_succ, List.set_cons_zero, List.set_cons_succ, List.map_cons, List.map_nil, List.cons_append, List.nil_append, List.length_cons, List.length_nil, List.replicate, if_true, if_false, ite_true, ite_false, Bool.false_eq_true, reduceIte, decide_true, decide_false, Option.map_some, Option.bind_some]
    obtain ⟨qd, S1, o1, o2, o3⟩ := sp_of (n := n) (S := S) (b := b) (k := k + (s - (j + 1))) (d := .lst (((rng c).filter fun p => (mates (rest L0 Q) p).length == 1).map D.int)) hT hO (g6.mono (by omega)) (.lst _) (by
      rw [List.length_map]
      exact List.length_pos_of_mem (List.mem_filter.mpr ⟨mem_rng.mpr ⟨v1, v2⟩, by simpa using v3⟩)) (by
      rw [List.length_map]
      have := List.length_filter_le (fun p => (mates (rest L0 Q) p).length == 1) (rng c)
      rw [rng_len] at this
      omega)
    obtain ⟨q, hq, rfl⟩ := List.mem_map.mp o2
    obtain ⟨hq1, hq2⟩ := List.mem_filter.mp hq
    have hq2 : (mates (rest L0 Q) q).length = 1 := by simpa using hq2
    obtain ⟨e, he⟩ := one_of hq2
    have o1 : callN B (n + 2) 110 [.loc b, .lst (((rng c).filter fun p => (mates (rest L0 Q) p).length == 1).map D.int)] S = .ok (.v (.int q)) S1 := o1
    have m := sp_mates (n := n + 1) (S := S1) (p := q) hM (SeqD.lst ((rest L0 Q).map lkD)) (by omega)
    have m : callN B (n + 2) 90 [.lst ((rest L0 Q).map lkD), .int q] S1 = .ok (.o (.l [.int e])) S1 := by
      rw [show callN B (n + 2) 90 [.lst ((rest L0 Q).map lkD), .int q] S1 = _ from m, he]
      rfl
    have lastq : ixD (Q.map D.int ++ [.int q]) (-1) = some (.int q) := last_ix _ _
    generalize hsm : (((rng c).filter fun p => (mates (rest L0 Q) p).length == 1).map D.int) = smd at comp1 o1
    have comp2 : ∀ S, dComp (dSeq (dBVar 4)) [9] (.nm 9) (dB (fz (dOp fNotIn (fz (dOp fIx (dBVar 5) (fz (dUn fNeg (dC (.int 1)))))) (dBVar 9)))) (dVar 9)
        [.va (.loc b), .va (.tup [.int c, dL]), .va (.int s), .va (.int x), .va (.lst ((rest L0 Q).map lkD)), .ow (.l (Q.map D.int ++ [.int q])), .ow (.l (E.map D.int ++ [.int e])), .va (.lst smd), .no, .no] S = .ok (.o (.l ((cutL (rest L0 Q) q).map lkD))) S := fun S => by
      refine comp_pure (rest L0 Q) lkD (fun l => !touch q l) lkD ?_ (by omega) fun l hl => ⟨[.va (.loc b), .va (.tup [.int c, dL]), .va (.int s), .va (.int x), .va (.lst ((rest L0 Q).map lkD)), .ow (.l (Q.map D.int ++ [.int q])), .ow (.l (E.map D.int ++ [.int e])), .va (.lst smd), .no, .va (lkD l)], ?_, ?_, ?_⟩
      · simp [callF, startE, finO, dSeqS, dSet, slOf, dRet, dRetN, dIfS, dSkip, dVar, dBVar, dMv, dC, fz, rv, dOp, dUn, dNil, dCons, dTup, dLst, dB, dAndT, dOrT, dNotT, dAnd, dOr, dNot, dIf, dIfR, dCall, dBlt, dOp2, dSeq, itemsOf, dFrz, frzE, dPar, rCons, rNil, setSls, dAug, dUnp, bindTg, bindTgs, wipeE, dYes, dChain, Res.bind, Res.map, R.val, O.toD, fIx_tup, fIx_lst, fIx_loc, fIx_scr, ixD, fGt_i, fLt_i, fLe_i, fGe_i, fSub_i, fIAdd_i, fMod, fDiv, fAdd, fPow, fEq, fNe, fIsN, fNotN, isNon, bLen, bList, bTuple, bAbs, bInt, bMax2, bMin2, dPutL, listSlot, isL, mutL, fPut, dIxL, dMut1, fApp, List.getElem?_cons_zero, List.getElem?_cons_succ, List.set_cons_zero, List.set_cons_succ, List.map_cons, List.map_nil, List.cons_append, List.nil_append, List.length_cons, List.length_nil, List.replicate, if_true, if_false, ite_true, ite_false, Bool.false_eq_true, reduceIte, decide_true, decide_false, Option.map_some, Option.bind_some]
      · simp [callF, startE, finO, dSeqS, dSet, slOf, dRet, dRetN, dIfS, dSkip, dVar, dBVar, dMv, dC, fz, rv, dOp, dUn, dNil, dCons, dTup, dLst, dB, dAndT, dOrT, dNotT, dAnd, dOr, dNot, dIf, dIfR, dCall, dBlt, dOp2, dSeq, itemsOf, dFrz, frzE, dPar, rCons, rNil, setSls, dAug, dUnp, bindTg, bindTgs, wipeE, dYes, dChain, Res.bind, Res.map, R.val, O.toD, fIx_tup, fIx_lst, fIx_loc, fIx_scr, ixD, fGt_i, fLt_i, fLe_i, fGe_i, fSub_i, fIAdd_i, fMod, fDiv, fAdd, fPow, fEq, fNe, fIsN, fNotN, isNon, bLen, bList, bTuple, bAbs, bInt, bMax2, bMin2, dPutL, listSlot, isL, mutL, fPut, dIxL, dMut1, fApp, List.getElem?_cons_zero, List.getElem?_cons_succ, List.set_cons_zero, List.set_cons_succ, List.map_cons, List.map_nil, List.cons_append, List.nil_append, List.length_cons, List.length_nil, List.replicate, if_true, if_false, ite_true, ite_false, Bool.false_eq_true, reduceIte, decide_true, decide_false, Option.map_some, Option.bind_some]
      · have lastq' := lastq
        unfold ixD at lastq'
        simp only [dB, fz, dOp, dBVar, dUn, dC, fNeg, fIx, lastq, Res.bind, Res.map, R.val, List.getElem?_cons_succ, List.getElem?_cons_zero, O.toD]
        simp [fNotIn, din, fitN, deq, lkD, touch, R.val]
      · intro _
        simp [callF, startE, finO, dSeqS, dSet, slOf, dRet, dRetN, dIfS, dSkip, dVar, dBVar, dMv, dC, fz, rv, dOp, dUn, dNil, dCons, dTup, dLst, dB, dAndT, dOrT, dNotT, dAnd, dOr, dNot, dIf, dIfR, dCall, dBlt, dOp2, dSeq, itemsOf, dFrz, frzE, dPar, rCons, rNil, setSls, dAug, dUnp, bindTg, bindTgs, wipeE, dYes, dChain, Res.bind, Res.map, R.val, O.toD, fIx_tup, fIx_lst, fIx_loc, fIx_scr, ixD, fGt_i, fLt_i, fLe_i, fGe_i, fSub_i, fIAdd_i, fMod, fDiv, fAdd, fPow, fEq, fNe, fIsN, fNotN, isNon, bLen, bList, bTuple, bAbs, bInt, bMax2, bMin2, dPutL, listSlot, isL, mutL, fPut, dIxL, dMut1, fApp, List.getElem?_cons_zero, List.getElem?_cons_succ, List.set_cons_zero, List.set_cons_succ, List.map_cons, List.map_nil, List.cons_append, List.nil_append, List.length_cons, List.length_nil, List.replicate, if_true, if_false, ite_true, ite_false, Bool.false_eq_true, reduceIte, decide_true, decide_false, Option.map_some, Option.bind_some]
    have hq1 := mem_rng.mp hq1
    refine ⟨[.va (.loc b), .va (.tup [.int c, dL]), .va (.int s), .va (.int x), .ow (.l ((rest L0 Q).map lkD)), .ow (.l (Q.map D.int)), .ow (.l (E.map D.int)), sm, .no, .no], [.va (.loc b), .va (.tup [.int c, dL]), .va (.int s), .va (.int x), .ow (.l ((cutL (rest L0 Q) q).map lkD)), .ow (.l (Q.map D.int ++ [.int q])), .ow (.l (E.map D.int ++ [.int e])), .va (.lst smd), .no, .no], S1, ?_, ?_, Q ++ [q], E ++ [e], .va (.int x), .va (.lst smd), ?_, g2.snoc he, ?_, ?_, ?_, ?_⟩
    · simp [bindTg]
    · have hQl : Q.length ≤ 100000 := by omega
      have hEl : E.length ≤ 100000 := by rw [← g2.length]; omega
      simp only [dSeqS, dFrz, frzE, dSet, List.getElem?_cons_succ, List.getElem?_cons_zero, List.set_cons_succ, List.set_cons_zero, O.toD, comp1, slOf]
      simp only [dMut1, listSlot, mutL, fApp, fz, dCall, dCons, dNil, dVar, Res.bind, Res.map, R.val, List.getElem?_cons_succ, List.getElem?_cons_zero, List.set_cons_succ, List.set_cons_zero, o1, if_true, List.length_map, hQl, hEl, dOp, dBVar, dUn, dC, fNeg, fIx, lastq, m, O.toD]
      simp [ixD, comp2, hEl]
    · simp [rest_snoc]
    · simp [g3]
    · rw [rest_snoc, Nat.zero_add]
      have := cut_len hq2
      omega
    · intro z hz
      rcases List.mem_append.mp hz with hz | hz
      · exact g5 z hz
      · rw [List.mem_singleton.mp hz]
        exact hq1
    · rw [Nat.zero_add]
      exact o3
end MP

namespace MP
open PySem PySem.Spec
/-! ### notes -/
structure Note where
  t : Int
  k : Bool
  v : Int
deriving DecidableEq
def kd (k : Bool) : Str := if k = true then "closed" else "end"
def noteD (x : Note) : D := .tup [.int x.t, .str (kd x.k), .int x.v]
structure Told (Q E : List Int) (s : Nat) (N : List Note) : Prop where
  tr : ∀ x ∈ N, 0 ≤ x.t ∧ x.t < s ∧ (x.k = true → Q[x.t.toNat]? = some x.v) ∧ (x.k = false → E[x.t.toNat]? = some x.v)
  so : N.Pairwise fun x y => x.t < y.t ∨ (x.t = y.t ∧ x.k = true ∧ y.k = false)
  len : N.length ≤ 2 * s
theorem Told.nil (Q E : List Int) (s : Nat) : Told Q E s [] := ⟨fun x hx => (by cases hx), .nil, by simp⟩
theorem sp_notes {B : Tb} {n b k : Nat} {S : Sto} {Q E : List Int} (hT : B i__law_take = some q__law_take) (hN : B i__law_notes_v0 = some q__law_notes_v0) (hQE : Q.length = E.length) (hQ : Q.length ≤ 1000) (hb : Bx S b (k + 2 * Q.length + 1)) :
    ∃ (N : List Note) (S' : Sto), callN B (n + 2) i__law_notes_v0 [.loc b, .tup (Q.map D.int), .tup (E.map D.int)] S = .ok (.v (.tup (N.map noteD))) S' ∧ Told Q E Q.length N ∧ Bx S' b k := by
  obtain ⟨dn, S1, a1, a2, a3, a4⟩ := sp_take (n := n) (m := 4) (k := k + 2 * Q.length) hT hb (by decide) (by decide)
  have a1 : callN B (n + 1) 238 [.loc b, .int 4] S = .ok (.v (.int dn)) S1 := a1
  have loop := for_inv (t := .nm 3) (b := (dSeqS
  (dIfS (dB (fz (dOp fEq (fz (dCall (callN B (n + 1)) 238 (dCons (dVar 0) (dCons (dC (.int 8)) dNil)))) (dC (.int 0))))) (dMut1 4 fApp (dTup (dCons (dVar 3) (dCons (dC (.str "closed")) (dCons (fz (dOp fIx (dBVar 1) (dBVar 3))) dNil))))) dSkip)
  (dIfS (dB (fz (dOp fLt (fz (dCall (callN B (n + 1)) 238 (dCons (dVar 0) (dCons (dC (.int 5)) dNil)))) (dBVar 5)))) (dMut1 4 fApp (dTup (dCons (dVar 3) (dCons (dC (.str "end")) (dCons (fz (dOp fIx (dBVar 2) (dBVar 3))) dNil))))) dSkip)))
    (fun i : Int => D.int i) (fun i env S => ∃ (N : List Note) (pc : Sl), env = [.va (.loc b), .va (.tup (Q.map D.int)), .va (.tup (E.map D.int)), pc, .ow (.l (N.map noteD)), .va (.int (1 + dn))] ∧ Told Q E i N ∧ Bx S b (k + 2 * (Q.length - i))) (rng Q.length) 0
    [.va (.loc b), .va (.tup (Q.map D.int)), .va (.tup (E.map D.int)), .no, .ow (.l []), .va (.int (1 + dn))] S1 ⟨[], .no, rfl, Told.nil _ _ _, by simpa using a4⟩ ?_
  · obtain ⟨e, S3, g1, N, pc, rfl, g2, g3⟩ := loop
    rw [rng_len, Nat.zero_add] at g2 g3
    refine ⟨N, S3, ?_, g2, g3.mono (by omega)⟩
    have hr : rangeD 0 (Q.length : Int) = (rng Q.length).map fun i : Int => D.int i := rangeD_rng _
    have b0 : (Q.length : Int) ≤ 100000 ∧ -100000 ≤ (Q.length : Int) := by omega
    rw [callN_eq hN]
    simp [q__law_notes_v0, b__law_notes_v0, callF, startE, finO, dSeqS, dSet, slOf, dRet, dRetN, dIfS, dSkip, dVar, dBVar, dMv, dC, fz, rv, dOp, dUn, dNil, dCons, dTup, dLst, dB, dAndT, dOrT, dNotT, dAnd, dOr, dNot, dIf, dIfR, dCall, dBlt, dOp2, dSeq, itemsOf, dFrz, frzE, dPar, rCons, rNil, setSls, dAug, dUnp, bindTg, bindTgs, wipeE, dYes, dChain, Res.bind, Res.map, R.val, O.toD, fIx_tup, fIx_lst, fIx_loc, fIx_scr, ixD, fGt_i, fLt_i, fLe_i, fGe_i, fSub_i, fIAdd_i, fMod, fDiv, fAdd, fPow, fEq, fNe, fIsN, fNotN, isNon, bLen, bList, bTuple, bAbs, bInt, bMax2, bMin2, dPutL, listSlot, isL, mutL, fPut, dIxL, dMut1, fApp, List.getElem?_cons_zero, List.getElem?_cons_succ, List.set_cons_zero, List.set_cons_succ, List.map_cons, List.map_nil, List.cons_append, List.nil_append, List.length_cons, List.length_nil, List.replicate, if_true, if_false, ite_true, ite_false, Bool.false_eq_true, reduceIte, decide_true, decide_false, Option.map_some, Option.bind_some, dRange1, dFor, b0, hr, a1, g1]
  · rintro j x env S hj ⟨N, pc, rfl, g2, g3⟩
    rw [Nat.zero_add] at g2 g3
    have hjl : j < Q.length := by
      have := (List.getElem?_eq_some_iff.mp hj).1
      rw [rng_len] at this
      exact this
    have ex : x = j := by
      unfold rng at hj
      rw [List.getElem?_map, List.getElem?_range hjl] at hj
      exact (Option.some.inj hj).symm
    subst ex
    obtain ⟨c1, S2, b1, b2, b3, b4⟩ := sp_take (n := n) (S := S) (m := 8) (k := k + 2 * (Q.length - (j + 1)) + 1) hT (g3.mono (by omega)) (by decide) (by decide)
    obtain ⟨c2, S3, d1, d2, d3, d4⟩ := sp_take (n := n) (S := S2) (m := 5) (k := k + 2 * (Q.length - (j + 1))) hT b4 (by decide) (by decide)
    have b1 : callN B (n + 1) 238 [.loc b, .int 8] S = .ok (.v (.int c1)) S2 := b1
    have d1 : callN B (n + 1) 238 [.loc b, .int 5] S2 = .ok (.v (.int c2)) S3 := d1
    have hq : Q[j]? = some Q[j] := List.getElem?_eq_getElem _
    have he : E[j]? = some (E[j]'(by omega)) := List.getElem?_eq_getElem _
    generalize Q[j] = q at hq
    generalize E[j]'(by omega) = e at he
    have l0 : N.length ≤ 100000 := by have := g2.len; omega
    have l1 : N.length + 1 ≤ 100000 := by have := g2.len; omega
    -- the notes with these two
    have N1 : ∀ (p r : Bool), Told Q E (j + 1) (N ++ ((if p = true then [(⟨j, true, q⟩ : Note)] else []) ++ (if r = true then [(⟨j, false, e⟩ : Note)] else []))) := fun p r => by
      refine ⟨fun y hy => ?_, ?_, ?_⟩
      · rcases List.mem_append.mp hy with hy | hy
        · obtain ⟨z1, z2, z3, z4⟩ := g2.tr y hy
          exact ⟨z1, by omega, z3, z4⟩
        · have : y = ⟨j, true, q⟩ ∨ y = ⟨j, false, e⟩ := by
            cases p <;> cases r <;> simp at hy <;> first | exact .inl hy | exact .inr hy | exact hy
          rcases this with rfl | rfl
          · exact ⟨by simp, by simp; omega, fun _ => by simpa using hq, by simp⟩
          · exact ⟨by simp, by simp; omega, by simp, fun _ => by simpa using he⟩
      · rw [List.pairwise_append]
        refine ⟨g2.so, by cases p <;> cases r <;> simp, fun y hy z hz => .inl ?_⟩
        have := (g2.tr y hy).2.1
        have : z.t = j := by
          cases p <;> cases r <;> simp at hz <;> first | (rw [hz]) | (rcases hz with rfl | rfl <;> rfl)
        omega
      · have := g2.len
        cases p <;> cases r <;> simp <;> omega
    refine ⟨[.va (.loc b), .va (.tup (Q.map D.int)), .va (.tup (E.map D.int)), .va (.int j), .ow (.l (N.map noteD)), .va (.int (1 + dn))],
      [.va (.loc b), .va (.tup (Q.map D.int)), .va (.tup (E.map D.int)), .va (.int j), .ow (.l ((N ++ ((if decide (c1 = 0) = true then [(⟨j, true, q⟩ : Note)] else []) ++ (if decide (c2 < 1 + dn) = true then [(⟨j, false, e⟩ : Note)] else []))).map noteD)), .va (.int (1 + dn))], S3, ?_, ?_, _, _, rfl, ?_, ?_⟩
    · simp [bindTg]
    · by_cases k1 : c1 = 0 <;> by_cases k2 : c2 < 1 + dn <;> simp [callF, startE, finO, dSeqS, dSet, slOf, dRet, dRetN, dIfS, dSkip, dVar, dBVar, dMv, dC, fz, rv, dOp, dUn, dNil, dCons, dTup, dLst, dB, dAndT, dOrT, dNotT, dAnd, dOr, dNot, dIf, dIfR, dCall, dBlt, dOp2, dSeq, itemsOf, dFrz, frzE, dPar, rCons, rNil, setSls, dAug, dUnp, bindTg, bindTgs, wipeE, dYes, dChain, Res.bind, Res.map, R.val, O.toD, fIx_tup, fIx_lst, fIx_loc, fIx_scr, ixD, fGt_i, fLt_i, fLe_i, fGe_i, fSub_i, fIAdd_i, fMod, fDiv, fAdd, fPow, fEq, fNe, fIsN, fNotN, isNon, bLen, bList, bTuple, bAbs, bInt, bMax2, bMin2, dPutL, listSlot, isL, mutL, fPut, dIxL, dMut1, fApp, List.getElem?_cons_zero, List.getElem?_cons_succ, List.set_cons_zero, List.set_cons_succ, List.map_cons, List.map_nil, List.cons_append, List.nil_append, List.length_cons, List.length_nil, List.replicate, if_true, if_false, ite_true, ite_false, Bool.false_eq_true, reduceIte, decide_true, decide_false, Option.map_some, Option.bind_some, b1, d1, fitN, deq_ii, k1, k2, hq, he, l0, l1, noteD, kd]
    · rw [Nat.zero_add]
      exact N1 _ _
    · rw [Nat.zero_add]
      exact d4
/-! ### _law_story -/
structure Story (c s : Nat) (L : List Lk) (Q E : List Int) (N : List Note) : Prop where
  wood : Wood c L
  len : L.length = c - 1
  c1 : 1 ≤ c
  sc : s ≤ c - 1
  shut : Shut L Q E
  ql : Q.length = s
  qr : ∀ q ∈ Q, 0 ≤ q ∧ q < c
  told : Told Q E s N
theorem sp_story {B : Tb} {n b k m : Nat} {S : Sto} (hT : B i__law_take = some q__law_take) (hO : B i__law_of = some q__law_of) (hM : B i__law_mates = some q__law_mates) (hS : B i__law_strewn = some q__law_strewn) (hW : B i__law_wood_v0 = some q__law_wood_v0) (hH : B i__law_shut_v1 = some q__law_shut_v1)
    (hN : B i__law_notes_v0 = some q__law_notes_v0) (hY : B i__law_story_v0 = some q__law_story_v0) (hm : 1 ≤ m) (hm2 : m ≤ 900) (hb : Bx S b (k + 10000)) :
    ∃ (c s : Nat) (L : List Lk) (Q E : List Int) (N : List Note) (S' : Sto), callN B (n + 4) i__law_story_v0 [.loc b, .int m] S = .ok (.v (.tup [.tup (Q.map D.int), .tup (E.map D.int), .tup [.int c, .int s, .tup (N.map noteD)]])) S' ∧ c ≤ m ∧ Story c s L Q E N ∧ Bx S' b k := by
  obtain ⟨r, S1, a1, a2, a3, a4⟩ := sp_take (n := n + 2) (m := m) (k := k + 9999) hT hb (by omega) (by omega)
  have a1 : callN B (n + 3) 238 [.loc b, .int m] S = .ok (.v (.int r)) S1 := a1
  obtain ⟨c, hc⟩ : ∃ c : Nat, (c : Int) = 1 + r := ⟨(1 + r).toNat, by omega⟩
  obtain ⟨r2, S2, b1, b2, b3, b4⟩ := sp_take (n := n + 2) (S := S1) (m := 2) (k := k + 9998) hT a4 (by decide) (by decide)
  have b1 : callN B (n + 3) 238 [.loc b, .int 2] S1 = .ok (.v (.int r2)) S2 := b1
  have size : ∃ (s : Nat) (S' : Sto), s ≤ c - 1 ∧ Bx S' b (k + 9997) ∧ dIfR (dB (fz (dOp fEq (fz (dCall (callN B (n + 3)) 238 (dCons (dVar 0) (dCons (dC (.int 2)) dNil)))) (dC (.int 0))))) (dOp fSub (dBVar 2) (dC (.int 1))) (dCall (callN B (n + 3)) 238 (dCons (dVar 0) (dCons (dVar 2) dNil)))
      [.va (.loc b), .va (.int m), .va (.int (1 + r)), .no, .no, .no] S1 = .ok (.v (.int s)) S' := by
    by_cases c0 : r2 = 0
    · refine ⟨c - 1, S2, Nat.le_refl _, b4.mono (by omega), ?_⟩
      have e : ((c - 1 : Nat) : Int) = r := by omega
      rw [e]
      have e2 : 1 + r - 1 = r := by omega
      simp [callF, startE, finO, dSeqS, dSet, slOf, dRet, dRetN, dIfS, dSkip, dVar, dBVar, dMv, dC, fz, rv, dOp, dUn, dNil, dCons, dTup, dLst, dB, dAndT, dOrT, dNotT, dAnd, dOr, dNot, dIf, dIfR, dCall, dBlt, dOp2, dSeq, itemsOf, dFrz, frzE, dPar, rCons, rNil, setSls, dAug, dUnp, bindTg, bindTgs, wipeE, dYes, dChain, Res.bind, Res.map, R.val, O.toD, fIx_tup, fIx_lst, fIx_loc, fIx_scr, ixD, fGt_i, fLt_i, fLe_i, fGe_i, fSub_i, fIAdd_i, fMod, fDiv, fAdd, fPow, fEq, fNe, fIsN, fNotN, isNon, bLen, bList, bTuple, bAbs, bInt, bMax2, bMin2, dPutL, listSlot, isL, mutL, fPut, dIxL, dMut1, fApp, List.getElem?_cons_zero, List.getElem?_cons_succ, List.set_cons_zero, List.set_cons_succ, List.map_cons, List.map_nil, List.cons_append, List.nil_append, List.length_cons, List.length_nil, List.replicate, if_true, if_false, ite_true, ite_false, Bool.false_eq_true, reduceIte, decide_true, decide_false, Option.map_some, Option.bind_some, b1, fitN, deq_ii, c0, e2]
    · obtain ⟨s, S3, d1, d2, d3, d4⟩ := sp_take (n := n + 2) (S := S2) (m := 1 + r) (k := k + 9997) hT b4 (by omega) (by omega)
      have d1 : callN B (n + 3) 238 [.loc b, .int (1 + r)] S2 = .ok (.v (.int s)) S3 := d1
      refine ⟨s.toNat, S3, by omega, d4, ?_⟩
      have e : (s.toNat : Int) = s := by omega
      rw [e]
      simp [callF, startE, finO, dSeqS, dSet, slOf, dRet, dRetN, dIfS, dSkip, dVar, dBVar, dMv, dC, fz, rv, dOp, dUn, dNil, dCons, dTup, dLst, dB, dAndT, dOrT, dNotT, dAnd, dOr, dNot, dIf, dIfR, dCall, dBlt, dOp2, dSeq, itemsOf, dFrz, frzE, dPar, rCons, rNil, setSls, dAug, dUnp, bindTg, bindTgs, wipeE, dYes, dChain, Res.bind, Res.map, R.val, O.toD, fIx_tup, fIx_lst, fIx_loc, fIx_scr, ixD, fGt_i, fLt_i, fLe_i, fGe_i, fSub_i, fIAdd_i, fMod, fDiv, fAdd, fPow, fEq, fNe, fIsN, fNotN, isNon, bLen, bList, bTuple, bAbs, bInt, bMax2, bMin2, dPutL, listSlot, isL, mutL, fPut, dIxL, dMut1, fApp, List.getElem?_cons_zero, List.getElem?_cons_succ, List.set_cons_zero, List.set_cons_succ, List.map_cons, List.map_nil, List.cons_append, List.nil_append, List.length_cons, List.length_nil, List.replicate, if_true, if_false, ite_true, ite_false, Bool.false_eq_true, reduceIte, decide_true, decide_false, Option.map_some, Option.bind_some, b1, fitN, deq_ii, c0, d1]
  obtain ⟨s, S3, hs, d4, d1⟩ := size
  obtain ⟨L, S4, e1, e2, e3, e4⟩ := sp_wood (n := n) (S := S3) (b := b) (c := c) (k := k + 5000) hT hS hW (by omega) (by omega) (d4.mono (by omega))
  have e1 : callN B (n + 3) 274 [.loc b, .int (1 + r)] S3 = .ok (.v (.tup [.int (1 + r), .tup (L.map lkD)])) S4 := by rw [← hc]; exact e1
  obtain ⟨Q, E, S5, f1, f2, f3, f4, f5⟩ := sp_shut (n := n) (S := S4) (b := b) (c := c) (s := s) (k := k + 4000) hT hO hM hH e2 (.tup _) (by omega) (by omega) (by omega) (e4.mono (by omega))
  have f1 : callN B (n + 3) 218 [.loc b, .tup [.int (1 + r), .tup (L.map lkD)], .int s] S4 = .ok (.v (.tup [.tup (Q.map D.int), .tup (E.map D.int)])) S5 := by rw [← hc]; exact f1
  obtain ⟨N, S6, g1, g2, g3⟩ := sp_notes (n := n + 1) (S := S5) (b := b) (k := k) (Q := Q) (E := E) hT hN f2.length (by omega) (f5.mono (by omega))
  have g1 : callN B (n + 3) 107 [.loc b, .tup (Q.map D.int), .tup (E.map D.int)] S5 = .ok (.v (.tup (N.map noteD))) S6 := g1
  refine ⟨c, s, L, Q, E, N, S6, ?_, by omega, ⟨e2, e3, by omega, hs, f2, f3, f4, f3 ▸ g2⟩, g3⟩
  have x0 : dOp fAdd (dC (.int 1)) (fz (dCall (callN B (n + 3)) 238 (dCons (dVar 0) (dCons (dVar 1) dNil)))) [.va (.loc b), .va (.int m), .no, .no, .no, .no] S = .ok (.v (.int (1 + r))) S1 := by simp [callF, startE, finO, dSeqS, dSet, slOf, dRet, dRetN, dIfS, dSkip, dVar, dBVar, dMv, dC, fz, rv, dOp, dUn, dNil, dCons, dTup, dLst, dB, dAndT, dOrT, dNotT, dAnd, dOr, dNot, dIf, dIfR, dCall, dBlt, dOp2, dSeq, itemsOf, dFrz, frzE, dPar, rCons, rNil, setSls, dAug, dUnp, bindTg, bindTgs, wipeE, dYes, dChain, Res.bind, Res.map, R.val, O.toD, fIx_tup, fIx_lst, fIx_loc, fIx_scr, ixD, fGt_i, fLt_i, fLe_i, fGe_i, fSub_i, fIAdd_i, fMod, fDiv, fAdd, fPow, fEq, fNe, fIsN, fNotN, isNon, bLen, bList, bTuple, bAbs, bInt, bMax2, bMin2, dPutL, listSlot, isL, mutL, fPut, dIxL, dMut1, fApp, List.getElem?_cons_zero, List.getElem?_cons_succ, List.set_cons_zero, List.set_cons_succ, List.map_cons, List.map_nil, List.cons_append, List.nil_append, List.length_cons, List.length_nil, List.replicate, if_true, if_false, ite_true, ite_false, Bool.false_eq_true, reduceIte, decide_true, decide_false, Option.map_some, Option.bind_some, a1]
  have x1 : fz (dCall (callN B (n + 3)) 218 (dCons (dVar 0) (dCons (fz (dCall (callN B (n + 3)) 274 (dCons (dVar 0) (dCons (dVar 2) dNil)))) (dCons (dVar 3) dNil)))) [.va (.loc b), .va (.int m), .va (.int (1 + r)), .va (.int s), .no, .no] S3 = .ok (.tup [.tup (Q.map D.int), .tup (E.map D.int)]) S5 := by simp [callF, startE, finO, dSeqS, dSet, slOf, dRet, dRetN, dIfS, dSkip, dVar, dBVar, dMv, dC, fz, rv, dOp, dUn, dNil, dCons, dTup, dLst, dB, dAndT, dOrT, dNotT, dAnd, dOr, dNot, dIf, dIfR, dCall, dBlt, dOp2, dSeq, itemsOf, dFrz, frzE, dPar, rCons, rNil, setSls, dAug, dUnp, bindTg, bindTgs, wipeE, dYes, dChain, Res.bind, Res.map, R.val, O.toD, fIx_tup, fIx_lst, fIx_loc, fIx_scr, ixD, fGt_i, fLt_i, fLe_i, fGe_i, fSub_i, fIAdd_i, fMod, fDiv, fAdd, fPow, fEq, fNe, fIsN, fNotN, isNon, bLen, bList, bTuple, bAbs, bInt, bMax2, bMin2, dPutL, listSlot, isL, mutL, fPut, dIxL, dMut1, fApp, List.getElem?_cons_zero, List.getElem?_cons_succ, List.set_cons_zero, List.set_cons_succ, List.map_cons, List.map_nil, List.cons_append, List.nil_append, List.length_cons, List.length_nil, List.replicate, if_true, if_false, ite_true, ite_false, Bool.false_eq_true, reduceIte, decide_true, decide_false, Option.map_some, Option.bind_some, e1, f1]
  have x2 : rv (dTup (dCons (dVar 4) (dCons (dVar 5) (dCons (dTup (dCons (dVar 2) (dCons (dVar 3) (dCons (fz (dCall (callN B (n + 3)) 107 (dCons (dVar 0) (dCons (dVar 4) (dCons (dVar 5) dNil))))) dNil)))) dNil)))) [.va (.loc b), .va (.int m), .va (.int (1 + r)), .va (.int s), .va (.tup (Q.map D.int)), .va (.tup (E.map D.int))] S5
      = .ok (.v (.tup [.tup (Q.map D.int), .tup (E.map D.int), .tup [.int (1 + r), .int s, .tup (N.map noteD)]])) S6 := by simp [callF, startE, finO, dSeqS, dSet, slOf, dRet, dRetN, dIfS, dSkip, dVar, dBVar, dMv, dC, fz, rv, dOp, dUn, dNil, dCons, dTup, dLst, dB, dAndT, dOrT, dNotT, dAnd, dOr, dNot, dIf, dIfR, dCall, dBlt, dOp2, dSeq, itemsOf, dFrz, frzE, dPar, rCons, rNil, setSls, dAug, dUnp, bindTg, bindTgs, wipeE, dYes, dChain, Res.bind, Res.map, R.val, O.toD, fIx_tup, fIx_lst, fIx_loc, fIx_scr, ixD, fGt_i, fLt_i, fLe_i, fGe_i, fSub_i, fIAdd_i, fMod, fDiv, fAdd, fPow, fEq, fNe, fIsN, fNotN, isNon, bLen, bList, bTuple, bAbs, bInt, bMax2, bMin2, dPutL, listSlot, isL, mutL, fPut, dIxL, dMut1, fApp, List.getElem?_cons_zero, List.getElem?_cons_succ, List.set_cons_zero, List.set_cons_succ, List.map_cons, List.map_nil, List.cons_append, List.nil_append, List.length_cons, List.length_nil, List.replicate, if_true, if_false, ite_true, ite_false, Bool.false_eq_true, reduceIte, decide_true, decide_false, Option.map_some, Option.bind_some, g1]
  rw [callN_eq hY, hc]
  simp only [q__law_story_v0, b__law_story_v0, callF, startE, List.length_cons, List.length_nil, List.map_cons, List.map_nil, List.replicate, List.cons_append, List.nil_append, if_true, dSeqS, dSet, x0, slOf, List.set_cons_succ, List.set_cons_zero, d1, dUnp, x1, bindTg, bindTgs, dRet, x2, finO]
end MP

namespace MP
open PySem PySem.Spec
/-! ### journals -/
structure J where
  n : Int
  m : Int
  N : List Note
/-- the journal's notes are of its towns and times, at most one of a kind at a time -/
structure JW (j : J) : Prop where
  n0 : 0 ≤ j.n
  n1 : j.n ≤ 60
  m0 : 0 ≤ j.m
  m1 : j.m ≤ 60
  inr : ∀ x ∈ j.N, 0 ≤ x.t ∧ x.t < j.m ∧ 0 ≤ x.v ∧ x.v < j.n
  so : j.N.Pairwise fun x y => ¬ (x.t = y.t ∧ x.k = y.k)
def NoteR (x : Note) (d : D) : Prop := SeqD d [.int x.t, .str (kd x.k), .int x.v]
structure JR (d : D) (j : J) : Prop where
  w : JW j
  len : j.N.length ≤ 10000
  ex : ∃ d3 ds, SeqD d [.int j.n, .int j.m, d3] ∧ SeqD d3 ds ∧ All2 NoteR j.N ds
theorem compL_rel {α : Type} {R : α → D → Prop} {tg : Tg} {dc : DT} {de : DE} {env : Envm} {S : Sto} (p : α → Bool) (g : α → D) : ∀ {xs : List α} {ds : List D}, All2 R xs ds → (∀ x d, x ∈ xs → R x d → ∃ e, bindTg tg d env = some e ∧ dc e S = .ok (p x) S ∧ (p x = true → de e S = .ok (g x) S)) →
    compL tg dc de env ds S = .ok ((xs.filter p).map g) S
  | _, _, .nil, _ => rfl
  | _, _, @All2.cons _ _ _ x d xs ds r t, h => by
    obtain ⟨e, h1, h2, h3⟩ := h x d List.mem_cons_self r
    have ih := compL_rel p g t fun y d' hy => h y d' (List.mem_cons_of_mem _ hy)
    unfold compL
    rw [h1]
    show (dc e S).bind _ = _
    rw [h2]
    show (if p x = true then _ else _) = _
    by_cases c : p x = true
    · rw [if_pos c, h3 c]
      show (compL tg dc de env ds S).map _ = _
      rw [ih, List.filter_cons_of_pos c]
      rfl
    · rw [if_neg c, List.filter_cons_of_neg c]
      exact ih
theorem comp_rel {α : Type} {R : α → D → Prop} {di : DA} {own : List Nat} {tg : Tg} {dc : DT} {de : DE} {env : Envm} {S S1 : Sto} {xs : List α} {ds : List D} (p : α → Bool) (g : α → D) (a : All2 R xs ds) (hi : di env S = .ok ds S1) (hl : xs.length ≤ 100000)
    (h : ∀ x d, x ∈ xs → R x d → ∃ e, bindTg tg d (wipeE env own) = some e ∧ dc e S1 = .ok (p x) S1 ∧ (p x = true → de e S1 = .ok (g x) S1)) : dComp di own tg dc de env S = .ok (.o (.l ((xs.filter p).map g))) S1 := by
  unfold dComp
  rw [hi]
  show (if ds.length ≤ 100000 then _ else _) = _
  rw [if_pos (by rw [← a.length]; exact hl), compL_rel p g a h]
  rfl
theorem kd_ok (k : Bool) : PyData.strOk (kd k) = true := by cases k <;> decide +kernel
theorem kd_ne : (("closed" : Str) == ("end" : Str)) = false ∧ (("end" : Str) == ("closed" : Str)) = false := by decide +kernel
theorem kd_eq (a b : Bool) : (kd a == kd b) = (a == b) := by
  cases a <;> cases b <;> simp [kd, kd_ne]
def notedL (j : J) (k : Bool) : List Lk := (j.N.filter fun x => x.k == k).map fun x => (x.t, x.v)
theorem sp_noted {B : Tb} {n : Nat} {S : Sto} {d : D} {j : J} (k : Bool) (hN : B i_noted = some q_noted) (h : JR d j) : callN B (n + 1) i_noted [d, .str (kd k)] S = .ok (.o (.l ((notedL j k).map lkD))) S := by
  obtain ⟨d3, ds, h1, h2, h3⟩ := h.ex
  have key : ∀ S, dComp (dSeq (fz (dOp fIx (dBVar 0) (dC (.int 2))))) [2, 3, 4] (.tp [(.nm 2), (.nm 3), (.nm 4)]) (dB (fz (dOp fEq (dBVar 3) (dBVar 1)))) (dTup (dCons (dVar 2) (dCons (dVar 4) dNil))) [.va d, .va (.str (kd k)), .no, .no, .no] S = .ok (.o (.l ((j.N.filter fun x => x.k == k).map fun x => lkD (x.t, x.v)))) S := fun S => by
    refine comp_rel (R := NoteR) _ _ h3 ?_ (by have := h.len; omega) fun x dx _ hx => ⟨[.va d, .va (.str (kd k)), .va (.int x.t), .va (.str (kd x.k)), .va (.int x.v)], ?_, ?_, ?_⟩
    · cases h1 <;> cases h2 <;> simp [callF, startE, finO, dSeqS, dSet, slOf, dRet, dRetN, dIfS, dSkip, dVar, dBVar, dMv, dC, fz, rv, dOp, dUn, dNil, dCons, dTup, dLst, dB, dAndT, dOrT, dNotT, dAnd, dOr, dNot, dIf, dIfR, dCall, dBlt, dOp2, dSeq, itemsOf, dFrz, frzE, dPar, rCons, rNil, setSls, dAug, dUnp, bindTg, bindTgs, wipeE, dYes, dChain, Res.bind, Res.map, R.val, O.toD, fIx_tup, fIx_lst, fIx_loc, fIx_scr, ixD, fGt_i, fLt_i, fLe_i, fGe_i, fSub_i, fIAdd_i, fMod, fDiv, fAdd, fPow, fEq, fNe, fIsN, fNotN, isNon, bLen, bList, bTuple, bAbs, bInt, bMax2, bMin2, dPutL, listSlot, isL, mutL, fPut, dIxL, dMut1, fApp, List.getElem?_cons_zero, List.getElem?_cons_succ, List.set_cons_zero, List.set_cons_succ, List.map_cons, List.map_nil, List.cons_append, List.nil_append, List.length_cons, List.length_nil, List.replicate, if_true, if_false, ite_true, ite_false, Bool.false_eq_true, reduceIte, decide_true, decide_false, Option.map_some, Option.bind_some]
    · cases hx <;> simp [callF, startE, finO, dSeqS, dSet, slOf, dRet, dRetN, dIfS, dSkip, dVar, dBVar, dMv, dC, fz, rv, dOp, dUn, dNil, dCons, dTup, dLst, dB, dAndT, dOrT, dNotT, dAnd, dOr, dNot, dIf, dIfR, dCall, dBlt, dOp2, dSeq, itemsOf, dFrz, frzE, dPar, rCons, rNil, setSls, dAug, dUnp, bindTg, bindTgs, wipeE, dYes, dChain, Res.bind, Res.map, R.val, O.toD, fIx_tup, fIx_lst, fIx_loc, fIx_scr, ixD, fGt_i, fLt_i, fLe_i, fGe_i, fSub_i, fIAdd_i, fMod, fDiv, fAdd, fPow, fEq, fNe, fIsN, fNotN, isNon, bLen, bList, bTuple, bAbs, bInt, bMax2, bMin2, dPutL, listSlot, isL, mutL, fPut, dIxL, dMut1, fApp, List.getElem?_cons_zero, List.getElem?_cons_succ, List.set_cons_zero, List.set_cons_succ, List.map_cons, List.map_nil, List.cons_append, List.nil_append, List.length_cons, List.length_nil, List.replicate, if_true, if_false, ite_true, ite_false, Bool.false_eq_true, reduceIte, decide_true, decide_false, Option.map_some, Option.bind_some]
    · simp [callF, startE, finO, dSeqS, dSet, slOf, dRet, dRetN, dIfS, dSkip, dVar, dBVar, dMv, dC, fz, rv, dOp, dUn, dNil, dCons, dTup, dLst, dB, dAndT, dOrT, dNotT, dAnd, dOr, dNot, dIf, dIfR, dCall, dBlt, dOp2, dSeq, itemsOf, dFrz, frzE, dPar, rCons, rNil, setSls, dAug, dUnp, bindTg, bindTgs, wipeE, dYes, dChain, Res.bind, Res.map, R.val, O.toD, fIx_tup, fIx_lst, fIx_loc, fIx_scr, ixD, fGt_i, fLt_i, fLe_i, fGe_i, fSub_i, fIAdd_i, fMod, fDiv, fAdd, fPow, fEq, fNe, fIsN, fNotN, isNon, bLen, bList, bTuple, bAbs, bInt, bMax2, bMin2, dPutL, listSlot, isL, mutL, fPut, dIxL, dMut1, fApp, List.getElem?_cons_zero, List.getElem?_cons_succ, List.set_cons_zero, List.set_cons_succ, List.map_cons, List.map_nil, List.cons_append, List.nil_append, List.length_cons, List.length_nil, List.replicate, if_true, if_false, ite_true, ite_false, Bool.false_eq_true, reduceIte, decide_true, decide_false, Option.map_some, Option.bind_some, fitN, kd_ok, deq, kd_eq]
    · intro _
      simp [callF, startE, finO, dSeqS, dSet, slOf, dRet, dRetN, dIfS, dSkip, dVar, dBVar, dMv, dC, fz, rv, dOp, dUn, dNil, dCons, dTup, dLst, dB, dAndT, dOrT, dNotT, dAnd, dOr, dNot, dIf, dIfR, dCall, dBlt, dOp2, dSeq, itemsOf, dFrz, frzE, dPar, rCons, rNil, setSls, dAug, dUnp, bindTg, bindTgs, wipeE, dYes, dChain, Res.bind, Res.map, R.val, O.toD, fIx_tup, fIx_lst, fIx_loc, fIx_scr, ixD, fGt_i, fLt_i, fLe_i, fGe_i, fSub_i, fIAdd_i, fMod, fDiv, fAdd, fPow, fEq, fNe, fIsN, fNotN, isNon, bLen, bList, bTuple, bAbs, bInt, bMax2, bMin2, dPutL, listSlot, isL, mutL, fPut, dIxL, dMut1, fApp, List.getElem?_cons_zero, List.getElem?_cons_succ, List.set_cons_zero, List.set_cons_succ, List.map_cons, List.map_nil, List.cons_append, List.nil_append, List.length_cons, List.length_nil, List.replicate, if_true, if_false, ite_true, ite_false, Bool.false_eq_true, reduceIte, decide_true, decide_false, Option.map_some, Option.bind_some, lkD]
  rw [callN_eq hN]
  simp [q_noted, b_noted, callF, startE, finO, dRet, List.replicate, key, notedL, List.map_map]
theorem notedL_len {j : J} {k : Bool} : (notedL j k).length ≤ j.N.length := by
  unfold notedL
  rw [List.length_map]
  exact List.length_filter_le _ _
/-! ### span -/
def maxO (l : List Int) (z : Int) : Int := match l with
  | [] => z
  | x :: xs => maxL x xs
def minO (l : List Int) (z : Int) : Int := match l with
  | [] => z
  | x :: xs => minL x xs
def cameL (j : J) (p : Int) : List Int := ((notedL j true).filter fun l => l.2 == p).map (·.1)
def endL (j : J) (p : Int) : List Int := ((notedL j false).filter fun l => l.2 == p).map fun l => l.1 + 1
def spanF (j : J) (p : Int) : Lk := (maxO (endL j p ++ cameL j p) 0, minO (cameL j p) (j.m - 1))
theorem intsOf_map : ∀ l : List Int, intsOf (l.map D.int) = some l
  | [] => rfl
  | x :: l => by simp [intsOf, intsOf_map l]
theorem bMaxD_i (l : List Int) (z : Int) (S : Sto) : bMaxD (.lst (l.map D.int)) (.int z) S = .ok (.int (maxO l z)) S := by
  unfold bMaxD
  simp only [intsOf_map]
  cases l <;> rfl
theorem bMinD_i (l : List Int) (z : Int) (S : Sto) : bMinD (.lst (l.map D.int)) (.int z) S = .ok (.int (minO l z)) S := by
  unfold bMinD
  simp only [intsOf_map]
  cases l <;> rfl
theorem cameL_len {j : J} {p : Int} : (cameL j p).length ≤ j.N.length := by
  unfold cameL
  rw [List.length_map]
  exact Nat.le_trans (List.length_filter_le _ _) notedL_len
theorem endL_len {j : J} {p : Int} : (endL j p).length ≤ j.N.length := by
  unfold endL
  rw [List.length_map]
  exact Nat.le_trans (List.length_filter_le _ _) notedL_len
theorem JR.ix0 {d : D} {j : J} (h : JR d j) (S : Sto) : fIx d (.int 0) S = .ok (.v (.int j.n)) S := by
  obtain ⟨d3, ds, h1, h2, h3⟩ := h.ex
  cases h1 <;> simp [fIx, ixD]
theorem JR.ix1 {d : D} {j : J} (h : JR d j) (S : Sto) : fIx d (.int 1) S = .ok (.v (.int j.m)) S := by
  obtain ⟨d3, ds, h1, h2, h3⟩ := h.ex
  cases h1 <;> simp [fIx, ixD]
theorem sp_span {B : Tb} {n : Nat} {S : Sto} {d : D} {j : J} {p : Int} (hN : B i_noted = some q_noted) (hP : B i_span = some q_span) (h : JR d j) : callN B (n + 2) i_span [d, .int p] S = .ok (.v (lkD (spanF j p))) S := by
  have n1 : ∀ S, callN B (n + 1) 399 [d, .str "closed"] S = .ok (.o (.l ((notedL j true).map lkD))) S := fun S => sp_noted true hN h
  have n2 : ∀ S, callN B (n + 1) 399 [d, .str "end"] S = .ok (.o (.l ((notedL j false).map lkD))) S := fun S => sp_noted false hN h
  have hlen := h.len
  have l1 : (notedL j true).length ≤ 100000 := Nat.le_trans notedL_len (by omega)
  have l2 : (notedL j false).length ≤ 100000 := Nat.le_trans notedL_len (by omega)
  have key1 : ∀ S, dComp (dSeq (fz (dCall (callN B (n + 1)) 399 (dCons (dVar 0) (dCons (dC (.str "closed")) dNil))))) [4, 5] (.tp [(.nm 4), (.nm 5)]) (dB (fz (dOp fEq (dBVar 5) (dBVar 1)))) (dVar 4) [.va d, .va (.int p), .no, .no, .no, .no] S = .ok (.o (.l ((cameL j p).map D.int))) S := fun S => by
    have := comp_pure (own := [4, 5]) (tg := .tp [(.nm 4), (.nm 5)]) (dc := dB (fz (dOp fEq (dBVar 5) (dBVar 1)))) (de := dVar 4) (env := [.va d, .va (.int p), .no, .no, .no, .no]) (S := S) (S1 := S) (di := dSeq (fz (dCall (callN B (n + 1)) 399 (dCons (dVar 0) (dCons (dC (.str "closed")) dNil))))) (notedL j true) lkD (fun l => l.2 == p) (fun l => .int l.1) (by simp [callF, startE, finO, dSeqS, dSet, slOf, dRet, dRetN, dIfS, dSkip, dVar, dBVar, dMv, dC, fz, rv, dOp, dUn, dNil, dCons, dTup, dLst, dB, dAndT, dOrT, dNotT, dAnd, dOr, dNot, dIf, dIfR, dCall, dBlt, dOp2, dSeq, itemsOf, dFrz, frzE, dPar, rCons, rNil, setSls, dAug, dUnp, bindTg, bindTgs, wipeE, dYes, dChain, Res.bind, Res.map, R.val, O.toD, fIx_tup, fIx_lst, fIx_loc, fIx_scr, ixD, fGt_i, fLt_i, fLe_i, fGe_i, fSub_i, fIAdd_i, fMod, fDiv, fAdd, fPow, fEq, fNe, fIsN, fNotN, isNon, bLen, bList, bTuple, bAbs, bInt, bMax2, bMin2, dPutL, listSlot, isL, mutL, fPut, dIxL, dMut1, fApp, List.getElem?_cons_zero, List.getElem?_cons_succ, List.set_cons_zero, List.set_cons_succ, List.map_cons, List.map_nil, List.cons_append, List.nil_append, List.length_cons, List.length_nil, List.replicate, if_true, if_false, ite_true, ite_false, Bool.false_eq_true, reduceIte, decide_true, decide_false, Option.map_some, Option.bind_some, n1]) l1 fun l _ => ⟨[.va d, .va (.int p), .no, .no, .va (.int l.1), .va (.int l.2)], by simp [callF, startE, finO, dSeqS, dSet, slOf, dRet, dRetN, dIfS, dSkip, dVar, dBVar, dMv, dC, fz, rv, dOp, dUn, dNil, dCons, dTup, dLst, dB, dAndT, dOrT, dNotT, dAnd, dOr, dNot, dIf, dIfR, dCall, dBlt, dOp2, dSeq, itemsOf, dFrz, frzE, dPar, rCons, rNil, setSls, dAug, dUnp, bindTg, bindTgs, wipeE, dYes, dChain, Res.bind, Res.map, R.val, O.toD, fIx_tup, fIx_lst, fIx_loc, fIx_scr, ixD, fGt_i, fLt_i, fLe_i, fGe_i, fSub_i, fIAdd_i, fMod, fDiv, fAdd, fPow, fEq, fNe, fIsN, fNotN, isNon, bLen, bList, bTuple, bAbs, bInt, bMax2, bMin2, dPutL, listSlot, isL, mutL, fPut, dIxL, dMut1, fApp, List.getElem?_cons_zero, List.getElem?_cons_succ, List.set_cons_zero, List.set_cons_succ, List.map_cons, List.map_nil, List.cons_append, List.nil_append, List.length_cons, List.length_nil, List.replicate, if_true, if_false, ite_true, ite_false, Bool.false_eq_true, reduceIte, decide_true, decide_false, Option.map_some, Option.bind_some, lkD], by simp [callF, startE, finO, dSeqS, dSet, slOf, dRet, dRetN, dIfS, dSkip, dVar, dBVar, dMv, dC, fz, rv, dOp, dUn, dNil, dCons, dTup, dLst, dB, dAndT, dOrT, dNotT, dAnd, dOr, dNot, dIf, dIfR, dCall, dBlt, dOp2, dSeq, itemsOf, dFrz, frzE, dPar, rCons, rNil, setSls, dAug, dUnp, bindTg, bindTgs, wipeE, dYes, dChain, Res.bind, Res.map, R.val, O.toD, fIx_tup, fIx_lst, fIx_loc, fIx_scr, ixD, fGt_i, fLt_i, fLe_i, fGe_i, fSub_i, fIAdd_i, fMod, fDiv, fAdd, fPow, fEq, fNe, fIsN, fNotN, isNon, bLen, bList, bTuple, bAbs, bInt, bMax2, bMin2, dPutL, listSlot, isL, mutL, fPut, dIxL, dMut1, fApp, List.getElem?_cons_zero, List.getElem?_cons_succ, List.set_cons_zero, List.set_cons_succ, List.map_cons, List.map_nil, List.cons_append, List.nil_append, List.length_cons, List.length_nil, List.replicate, if_true, if_false, ite_true, ite_false, Bool.false_eq_true, reduceIte, decide_true, decide_false, Option.map_some, Option.bind_some, fitN, deq], fun _ => by simp [callF, startE, finO, dSeqS, dSet, slOf, dRet, dRetN, dIfS, dSkip, dVar, dBVar, dMv, dC, fz, rv, dOp, dUn, dNil, dCons, dTup, dLst, dB, dAndT, dOrT, dNotT, dAnd, dOr, dNot, dIf, dIfR, dCall, dBlt, dOp2, dSeq, itemsOf, dFrz, frzE, dPar, rCons, rNil, setSls, dAug, dUnp, bindTg, bindTgs, wipeE, dYes, dChain, Res.bind, Res.map, R.val, O.toD, fIx_tup, fIx_lst, fIx_loc, fIx_scr, ixD, fGt_i, fLt_i, fLe_i, fGe_i, fSub_i, fIAdd_i, fMod, fDiv, fAdd, fPow, fEq, fNe, fIsN, fNotN, isNon, bLen, bList, bTuple, bAbs, bInt, bMax2, bMin2, dPutL, listSlot, isL, mutL, fPut, dIxL, dMut1, fApp, List.getElem?_cons_zero, List.getElem?_cons_succ, List.set_cons_zero, List.set_cons_succ, List.map_cons, List.map_nil, List.cons_append, List.nil_append, List.length_cons, List.length_nil, List.replicate, if_true, if_false, ite_true, ite_false, Bool.false_eq_true, reduceIte, decide_true, decide_false, Option.map_some, Option.bind_some]⟩
    rw [this]
    simp [cameL, List.map_map]
  have key2 : ∀ S (o : Sl), dComp (dSeq (fz (dCall (callN B (n + 1)) 399 (dCons (dVar 0) (dCons (dC (.str "end")) dNil))))) [4, 5] (.tp [(.nm 4), (.nm 5)]) (dB (fz (dOp fEq (dBVar 5) (dBVar 1)))) (fz (dOp fAdd (dBVar 4) (dC (.int 1)))) [.va d, .va (.int p), o, .no, .no, .no] S = .ok (.o (.l ((endL j p).map D.int))) S := fun S o => by
    have := comp_pure (own := [4, 5]) (tg := .tp [(.nm 4), (.nm 5)]) (dc := dB (fz (dOp fEq (dBVar 5) (dBVar 1)))) (de := fz (dOp fAdd (dBVar 4) (dC (.int 1)))) (env := [.va d, .va (.int p), o, .no, .no, .no]) (S := S) (S1 := S) (di := dSeq (fz (dCall (callN B (n + 1)) 399 (dCons (dVar 0) (dCons (dC (.str "end")) dNil))))) (notedL j false) lkD (fun l => l.2 == p) (fun l => .int (l.1 + 1)) (by simp [callF, startE, finO, dSeqS, dSet, slOf, dRet, dRetN, dIfS, dSkip, dVar, dBVar, dMv, dC, fz, rv, dOp, dUn, dNil, dCons, dTup, dLst, dB, dAndT, dOrT, dNotT, dAnd, dOr, dNot, dIf, dIfR, dCall, dBlt, dOp2, dSeq, itemsOf, dFrz, frzE, dPar, rCons, rNil, setSls, dAug, dUnp, bindTg, bindTgs, wipeE, dYes, dChain, Res.bind, Res.map, R.val, O.toD, fIx_tup, fIx_lst, fIx_loc, fIx_scr, ixD, fGt_i, fLt_i, fLe_i, fGe_i, fSub_i, fIAdd_i, fMod, fDiv, fAdd, fPow, fEq, fNe, fIsN, fNotN, isNon, bLen, bList, bTuple, bAbs, bInt, bMax2, bMin2, dPutL, listSlot, isL, mutL, fPut, dIxL, dMut1, fApp, List.getElem?_cons_zero, List.getElem?_cons_succ, List.set_cons_zero, List.set_cons_succ, List.map_cons, List.map_nil, List.cons_append, List.nil_append, List.length_cons, List.length_nil, List.replicate, if_true, if_false, ite_true, ite_false, Bool.false_eq_true, reduceIte, decide_true, decide_false, Option.map_some, Option.bind_some, n2]) l2 fun l _ => ⟨[.va d, .va (.int p), o, .no, .va (.int l.1), .va (.int l.2)], by simp [callF, startE, finO, dSeqS, dSet, slOf, dRet, dRetN, dIfS, dSkip, dVar, dBVar, dMv, dC, fz, rv, dOp, dUn, dNil, dCons, dTup, dLst, dB, dAndT, dOrT, dNotT, dAnd, dOr, dNot, dIf, dIfR, dCall, dBlt, dOp2, dSeq, itemsOf, dFrz, frzE, dPar, rCons, rNil, setSls, dAug, dUnp, bindTg, bindTgs, wipeE, dYes, dChain, Res.bind, Res.map, R.val, O.toD, fIx_tup, fIx_lst, fIx_loc, fIx_scr, ixD, fGt_i, fLt_i, fLe_i, fGe_i, fSub_i, fIAdd_i, fMod, fDiv, fAdd, fPow, fEq, fNe, fIsN, fNotN, isNon, bLen, bList, bTuple, bAbs, bInt, bMax2, bMin2, dPutL, listSlot, isL, mutL, fPut, dIxL, dMut1, fApp, List.getElem?_cons_zero, List.getElem?_cons_succ, List.set_cons_zero, List.set_cons_succ, List.map_cons, List.map_nil, List.cons_append, List.nil_append, List.length_cons, List.length_nil, List.replicate, if_true, if_false, ite_true, ite_false, Bool.false_eq_true, reduceIte, decide_true, decide_false, Option.map_some, Option.bind_some, lkD], by simp [callF, startE, finO, dSeqS, dSet, slOf, dRet, dRetN, dIfS, dSkip, dVar, dBVar, dMv, dC, fz, rv, dOp, dUn, dNil, dCons, dTup, dLst, dB, dAndT, dOrT, dNotT, dAnd, dOr, dNot, dIf, dIfR, dCall, dBlt, dOp2, dSeq, itemsOf, dFrz, frzE, dPar, rCons, rNil, setSls, dAug, dUnp, bindTg, bindTgs, wipeE, dYes, dChain, Res.bind, Res.map, R.val, O.toD, fIx_tup, fIx_lst, fIx_loc, fIx_scr, ixD, fGt_i, fLt_i, fLe_i, fGe_i, fSub_i, fIAdd_i, fMod, fDiv, fAdd, fPow, fEq, fNe, fIsN, fNotN, isNon, bLen, bList, bTuple, bAbs, bInt, bMax2, bMin2, dPutL, listSlot, isL, mutL, fPut, dIxL, dMut1, fApp, List.getElem?_cons_zero, List.getElem?_cons_succ, List.set_cons_zero, List.set_cons_succ, List.map_cons, List.map_nil, List.cons_append, List.nil_append, List.length_cons, List.length_nil, List.replicate, if_true, if_false, ite_true, ite_false, Bool.false_eq_true, reduceIte, decide_true, decide_false, Option.map_some, Option.bind_some, fitN, deq], fun _ => by simp [callF, startE, finO, dSeqS, dSet, slOf, dRet, dRetN, dIfS, dSkip, dVar, dBVar, dMv, dC, fz, rv, dOp, dUn, dNil, dCons, dTup, dLst, dB, dAndT, dOrT, dNotT, dAnd, dOr, dNot, dIf, dIfR, dCall, dBlt, dOp2, dSeq, itemsOf, dFrz, frzE, dPar, rCons, rNil, setSls, dAug, dUnp, bindTg, bindTgs, wipeE, dYes, dChain, Res.bind, Res.map, R.val, O.toD, fIx_tup, fIx_lst, fIx_loc, fIx_scr, ixD, fGt_i, fLt_i, fLe_i, fGe_i, fSub_i, fIAdd_i, fMod, fDiv, fAdd, fPow, fEq, fNe, fIsN, fNotN, isNon, bLen, bList, bTuple, bAbs, bInt, bMax2, bMin2, dPutL, listSlot, isL, mutL, fPut, dIxL, dMut1, fApp, List.getElem?_cons_zero, List.getElem?_cons_succ, List.set_cons_zero, List.set_cons_succ, List.map_cons, List.map_nil, List.cons_append, List.nil_append, List.length_cons, List.length_nil, List.replicate, if_true, if_false, ite_true, ite_false, Bool.false_eq_true, reduceIte, decide_true, decide_false, Option.map_some, Option.bind_some]⟩
    rw [this]
    simp [endL, List.map_map]
  have l3 : (endL j p).length + (cameL j p).length ≤ 100000 := by
    have := endL_len (j := j) (p := p)
    have := cameL_len (j := j) (p := p)
    omega
  have ap : (endL j p).map D.int ++ (cameL j p).map D.int = (endL j p ++ cameL j p).map D.int := by simp
  rw [callN_eq hP]
  simp only [q_span, b_span, callF, startE, List.length_cons, List.length_nil, List.map_cons, List.map_nil, List.replicate, List.cons_append, List.nil_append, if_true, dSeqS, dSet, key1, slOf, List.set_cons_succ, List.set_cons_zero]
  simp only [rv, dOp2, fz, dOp, key2, Res.bind, Res.map, R.val, O.toD, dBVar, List.getElem?_cons_succ, List.getElem?_cons_zero, fAdd, List.length_map, l3, if_true, ap, dC, bMaxD_i, slOf, List.set_cons_succ, List.set_cons_zero]
  simp [callF, startE, finO, dSeqS, dSet, slOf, dRet, dRetN, dIfS, dSkip, dVar, dBVar, dMv, dC, fz, rv, dOp, dUn, dNil, dCons, dTup, dLst, dB, dAndT, dOrT, dNotT, dAnd, dOr, dNot, dIf, dIfR, dCall, dBlt, dOp2, dSeq, itemsOf, dFrz, frzE, dPar, rCons, rNil, setSls, dAug, dUnp, bindTg, bindTgs, wipeE, dYes, dChain, Res.bind, Res.map, R.val, O.toD, fIx_tup, fIx_lst, fIx_loc, fIx_scr, ixD, fGt_i, fLt_i, fLe_i, fGe_i, fSub_i, fIAdd_i, fMod, fDiv, fAdd, fPow, fEq, fNe, fIsN, fNotN, isNon, bLen, bList, bTuple, bAbs, bInt, bMax2, bMin2, dPutL, listSlot, isL, mutL, fPut, dIxL, dMut1, fApp, List.getElem?_cons_zero, List.getElem?_cons_succ, List.set_cons_zero, List.set_cons_succ, List.map_cons, List.map_nil, List.cons_append, List.nil_append, List.length_cons, List.length_nil, List.replicate, if_true, if_false, ite_true, ite_false, Bool.false_eq_true, reduceIte, decide_true, decide_false, Option.map_some, Option.bind_some, bMinD_i, h.ix1, lkD, spanF]
end MP

namespace MP
open PySem PySem.Spec
/-! ### in -/
theorem any_ints (p : Int) : ∀ l : List Int, ((l.map D.int).any fun z => deq z (.int p)) = decide (p ∈ l)
  | [] => by simp
  | x :: l => by
    rw [List.map_cons, List.any_cons, any_ints p l, deq_ii]
    by_cases c : x = p
    · simp [c]
    · have c' : ¬ p = x := fun z => c z.symm
      simp [c, c']
theorem din_lst (p : Int) (l : List Int) : din (.int p) (.lst (l.map D.int)) = some (decide (p ∈ l)) := by
  unfold din
  simp only [any_ints]
  rw [if_pos ⟨rfl, fit_ints _ _⟩]
theorem din_tup (p : Int) (l : List Int) : din (.int p) (.tup (l.map D.int)) = some (decide (p ∈ l)) := by
  unfold din
  simp only [any_ints]
  rw [if_pos ⟨rfl, fit_ints _ _⟩]
theorem fNotIn_lst (p : Int) (l : List Int) (S : Sto) : fNotIn (.int p) (.lst (l.map D.int)) S = .ok (.v (.bl (!decide (p ∈ l)))) S := by
  unfold fNotIn
  rw [din_lst]
theorem fNotIn_tup (p : Int) (l : List Int) (S : Sto) : fNotIn (.int p) (.tup (l.map D.int)) S = .ok (.v (.bl (!decide (p ∈ l)))) S := by
  unfold fNotIn
  rw [din_tup]
theorem fIn_lst (p : Int) (l : List Int) (S : Sto) : fIn (.int p) (.lst (l.map D.int)) S = .ok (.v (.bl (decide (p ∈ l)))) S := by
  unfold fIn
  rw [din_lst]
theorem fIn_tup (p : Int) (l : List Int) (S : Sto) : fIn (.int p) (.tup (l.map D.int)) S = .ok (.v (.bl (decide (p ∈ l)))) S := by
  unfold fIn
  rw [din_tup]
/-! ### dicts of ints -/
def keysI (l : List Int) : List L2.Key := l.map Sum.inl
theorem mem_keysI {k : Int} {l : List Int} : (Sum.inl k : L2.Key) ∈ keysI l ↔ k ∈ l := by
  unfold keysI
  simp
theorem look_iff : ∀ {ks : List L2.Key} {ds : List D} {q : L2.Key}, ks.length = ds.length → ((lookK ks ds q).isSome = true ↔ q ∈ ks)
  | [], [], q, _ => by simp [lookK]
  | k :: ks, d :: ds, q, h => by
    unfold lookK
    have ih := look_iff (ks := ks) (ds := ds) (q := q) (by simpa using h)
    by_cases c : k = q
    · rw [if_pos c]
      simp [c]
    · rw [if_neg c, ih]
      have c' : ¬ q = k := fun z => c z.symm
      simp [c']
theorem fNotIn_dk {ks : List Int} {ds : List D} (p : Int) (S : Sto) (h : ks.length = ds.length) : fNotIn (.int p) (.dk (keysI ks) ds) S = .ok (.v (.bl (!decide (p ∈ ks)))) S := by
  have e : (lookK (keysI ks) ds (Sum.inl p)).isSome = decide (p ∈ ks) := by
    rw [Bool.eq_iff_iff, look_iff (by simp [keysI, h]), mem_keysI]
    simp
  unfold fNotIn din dlook
  simp only [MP.keyOf, Option.map_some, e]
theorem pairs_lk : ∀ l : List Lk, pairsOf (l.map lkD) = some (l.map fun x => ((Sum.inl x.1 : L2.Key), D.int x.2))
  | [] => rfl
  | x :: l => by
    simp only [List.map_cons, lkD, pairsOf, MP.keyOf]
    rw [pairs_lk l]
theorem putAll_new : ∀ (ps : List (L2.Key × D)) (ks : List L2.Key) (ds : List D), (ps.map (·.1)).Nodup → (∀ k ∈ ps.map (·.1), k ∉ ks) → putAll ps ks ds = (ks ++ ps.map (·.1), ds ++ ps.map (·.2))
  | [], ks, ds, _, _ => by simp [putAll]
  | (k, v) :: r, ks, ds, nd, h => by
    have hk : k ∉ ks := h k (by simp)
    rw [List.map_cons, List.nodup_cons] at nd
    unfold putAll putKs putDs
    rw [if_neg hk, if_neg hk, putAll_new r (ks ++ [k]) (ds ++ [v]) nd.2 fun q hq => ?_]
    · simp
    · intro z
      rcases List.mem_append.mp z with z | z
      · exact h q (by simp only [List.map_cons]; exact List.mem_cons_of_mem _ hq) z
      · have : q = k := by simpa using z
        exact nd.1 (this ▸ hq)
theorem bDict_lk {l : List Lk} (S : Sto) (nd : (l.map (·.1)).Nodup) : bDict [.lst (l.map lkD)] S = .ok (.o (.k (keysI (l.map (·.1))) (l.map fun x => .int x.2))) S := by
  have nd2 : ((l.map fun x => ((Sum.inl x.1 : L2.Key), D.int x.2)).map (·.1)).Nodup := by
    have e : ((l.map fun x => ((Sum.inl x.1 : L2.Key), D.int x.2)).map (·.1)) = keysI (l.map (·.1)) := by simp [keysI]
    rw [e]
    unfold keysI List.Nodup
    rw [List.pairwise_map]
    exact nd.imp fun h e => h (Sum.inl.inj e)
  unfold bDict
  simp only [pairs_lk]
  rw [putAll_new _ [] [] nd2 (by simp)]
  simp [keysI]
theorem notedL_nodup {j : J} (h : JW j) (k : Bool) : ((notedL j k).map (·.1)).Nodup := by
  unfold notedL List.Nodup
  rw [List.map_map, List.pairwise_map]
  have := h.so.sublist (List.filter_sublist (p := fun x => x.k == k) (l := j.N))
  rw [List.pairwise_iff_forall_sublist] at this ⊢
  intro a b hab
  have e1 : a ∈ j.N.filter fun x => x.k == k := hab.subset (by simp)
  have e2 : b ∈ j.N.filter fun x => x.k == k := hab.subset (by simp)
  have h1 := (List.mem_filter.mp e1).2
  have h2 := (List.mem_filter.mp e2).2
  simp at h1 h2
  intro e
  exact this hab ⟨e, h1.trans h2.symm⟩
/-! ### is_sound -/
def soundF (j : J) : Bool := (notedL j true).all fun x => decide (spanF j x.2 = (x.1, x.1))
theorem deq_lk (a b : Lk) : deq (lkD a) (lkD b) = decide (a = b) := by
  obtain ⟨a1, a2⟩ := a
  obtain ⟨b1, b2⟩ := b
  simp only [lkD, deq, deqs, Bool.and_true]
  by_cases c1 : a1 = b1 <;> by_cases c2 : a2 = b2 <;> simp [c1, c2]
theorem fEq_lk (a b : Lk) (S : Sto) : fEq (lkD a) (lkD b) S = .ok (.v (.bl (decide (a = b)))) S := by
  unfold fEq
  rw [if_pos ⟨fit_lk _ _, fit_lk _ _⟩, deq_lk]
theorem bls_map : ∀ l : List Bool, blsOf (l.map D.bl) = some l
  | [] => rfl
  | x :: l => by simp [blsOf, bls_map l]
theorem bAll_map {α : Type} (l : List α) (p : α → Bool) (S : Sto) : bAll [.lst (l.map fun x => D.bl (p x))] S = .ok (.v (.bl (l.all p))) S := by
  have e : (l.map fun x => D.bl (p x)) = (l.map p).map D.bl := by simp
  unfold bAll
  simp only [e, bls_map]
  simp
theorem sp_sound {B : Tb} {n : Nat} {S : Sto} {d : D} {j : J} (hN : B i_noted = some q_noted) (hP : B i_span = some q_span) (hS : B i_is_sound = some q_is_sound) (h : JR d j) : callN B (n + 3) i_is_sound [d] S = .ok (.v (.bl (soundF j))) S := by
  have n1 : ∀ S, callN B (n + 2) 399 [d, .str "closed"] S = .ok (.o (.l ((notedL j true).map lkD))) S := fun S => sp_noted true hN h
  have hlen := h.len
  have l1 : (notedL j true).length ≤ 100000 := Nat.le_trans notedL_len (by omega)
  have key : ∀ S, dComp (dSeq (fz (dCall (callN B (n + 2)) 399 (dCons (dVar 0) (dCons (dC (.str "closed")) dNil))))) [1, 2] (.tp [(.nm 1), (.nm 2)]) dYes (fz (dOp fEq (fz (dCall (callN B (n + 2)) 422 (dCons (dVar 0) (dCons (dVar 2) dNil)))) (dTup (dCons (dVar 1) (dCons (dVar 1) dNil))))) [.va d, .no, .no] S
      = .ok (.o (.l ((notedL j true).map fun x => .bl (decide (spanF j x.2 = (x.1, x.1)))))) S := fun S => by
    refine comp_all (notedL j true) lkD _ (by simp [callF, startE, finO, dSeqS, dSet, slOf, dRet, dRetN, dIfS, dSkip, dVar, dBVar, dMv, dC, fz, rv, dOp, dUn, dNil, dCons, dTup, dLst, dB, dAndT, dOrT, dNotT, dAnd, dOr, dNot, dIf, dIfR, dCall, dBlt, dOp2, dSeq, itemsOf, dFrz, frzE, dPar, rCons, rNil, setSls, dAug, dUnp, bindTg, bindTgs, wipeE, dYes, dChain, Res.bind, Res.map, R.val, O.toD, fIx_tup, fIx_lst, fIx_loc, fIx_scr, ixD, fGt_i, fLt_i, fLe_i, fGe_i, fSub_i, fIAdd_i, fMod, fDiv, fAdd, fPow, fEq, fNe, fIsN, fNotN, isNon, bLen, bList, bTuple, bAbs, bInt, bMax2, bMin2, dPutL, listSlot, isL, mutL, fPut, dIxL, dMut1, fApp, List.getElem?_cons_zero, List.getElem?_cons_succ, List.set_cons_zero, List.set_cons_succ, List.map_cons, List.map_nil, List.cons_append, List.nil_append, List.length_cons, List.length_nil, List.replicate, if_true, if_false, ite_true, ite_false, Bool.false_eq_true, reduceIte, decide_true, decide_false, Option.map_some, Option.bind_some, n1]) l1 fun l _ => ⟨[.va d, .va (.int l.1), .va (.int l.2)], by simp [callF, startE, finO, dSeqS, dSet, slOf, dRet, dRetN, dIfS, dSkip, dVar, dBVar, dMv, dC, fz, rv, dOp, dUn, dNil, dCons, dTup, dLst, dB, dAndT, dOrT, dNotT, dAnd, dOr, dNot, dIf, dIfR, dCall, dBlt, dOp2, dSeq, itemsOf, dFrz, frzE, dPar, rCons, rNil, setSls, dAug, dUnp, bindTg, bindTgs, wipeE, dYes, dChain, Res.bind, Res.map, R.val, O.toD, fIx_tup, fIx_lst, fIx_loc, fIx_scr, ixD, fGt_i, fLt_i, fLe_i, fGe_i, fSub_i, fIAdd_i, fMod, fDiv, fAdd, fPow, fEq, fNe, fIsN, fNotN, isNon, bLen, bList, bTuple, bAbs, bInt, bMax2, bMin2, dPutL, listSlot, isL, mutL, fPut, dIxL, dMut1, fApp, List.getElem?_cons_zero, List.getElem?_cons_succ, List.set_cons_zero, List.set_cons_succ, List.map_cons, List.map_nil, List.cons_append, List.nil_append, List.length_cons, List.length_nil, List.replicate, if_true, if_false, ite_true, ite_false, Bool.false_eq_true, reduceIte, decide_true, decide_false, Option.map_some, Option.bind_some, lkD], ?_⟩
    have sp : callN B (n + 2) 422 [d, .int l.2] S = .ok (.v (lkD (spanF j l.2))) S := sp_span hN hP h
    have fe := fEq_lk (spanF j l.2) (l.1, l.1) S
    unfold lkD at fe sp
    simp only [callF, startE, finO, dSeqS, dSet, slOf, dRet, dRetN, dIfS, dSkip, dVar, dBVar, dMv, dC, fz, rv, dOp, dUn, dNil, dCons, dTup, dLst, dB, dAndT, dOrT, dNotT, dAnd, dOr, dNot, dIf, dIfR, dCall, dBlt, dOp2, dSeq, itemsOf, dFrz, frzE, dPar, rCons, rNil, setSls, dAug, dUnp, bindTg, bindTgs, wipeE, dYes, dChain, Res.bind, Res.map, R.val, O.toD, fIx_tup, fIx_lst, fIx_loc, fIx_scr, ixD, fGt_i, fLt_i, fLe_i, fGe_i, fSub_i, fIAdd_i, fMod, fDiv, fAdd, fPow, fEq, fNe, fIsN, fNotN, isNon, bLen, bList, bTuple, bAbs, bInt, bMax2, bMin2, dPutL, listSlot, isL, mutL, fPut, dIxL, dMut1, fApp, List.getElem?_cons_zero, List.getElem?_cons_succ, List.set_cons_zero, List.set_cons_succ, List.map_cons, List.map_nil, List.cons_append, List.nil_append, List.length_cons, List.length_nil, List.replicate, if_true, if_false, ite_true, ite_false, Bool.false_eq_true, reduceIte, decide_true, decide_false, Option.map_some, Option.bind_some, sp]
    unfold fEq at fe
    simp at fe
    simp [fe]
  rw [callN_eq hS]
  simp only [q_is_sound, b_is_sound, callF, startE, List.length_cons, List.length_nil, List.map_cons, List.map_nil, List.replicate, List.cons_append, List.nil_append, if_true, dRet, dBlt, dCons, fz, key, Res.bind, Res.map, R.val, O.toD, dNil, bAll_map, finO]
  rfl
end MP

namespace MP
open PySem PySem.Spec
/-! ### count_orders -/
def timesF (j : J) (k : Bool) : List Int := (notedL j k).map (·.1)
def townsF (j : J) : List Int := (notedL j true).map (·.2)
def startsF (j : J) : List Int := ((rng j.n.toNat).filter fun p => !decide (p ∈ townsF j)).map fun p => (spanF j p).1
def pos0 (x : Int) : Int := if x > 0 then x else 0
def cntStep (tk st : List Int) (a : Int × Int) (t : Int) : Int × Int := if t ∈ tk then a else (a.1 * pos0 (((st.filter fun x => decide (x ≤ t)).length : Int) - a.2), a.2 + 1)
def countF (j : J) : Int := if soundF j = true then ((rng j.m.toNat).foldl (cntStep (timesF j true) (startsF j)) (1, 0)).1 else 0
theorem startsF_len {j : J} (h : JW j) : (startsF j).length ≤ 60 := by
  unfold startsF
  rw [List.length_map]
  refine Nat.le_trans (List.length_filter_le _ _) ?_
  rw [rng_len]
  have := h.n1
  omega
theorem rng_succ_get {n i : Nat} {x : Int} (h : (rng n)[i]? = some x) : i < n ∧ x = i := by
  have hi := (List.getElem?_eq_some_iff.mp h).1
  rw [rng_len] at hi
  unfold rng at h
  rw [List.getElem?_map, List.getElem?_range hi] at h
  exact ⟨hi, (Option.some.inj h).symm⟩
theorem take_foldl {α β : Type} (f : β → α → β) (l : List α) (b : β) {i : Nat} {x : α} (h : l[i]? = some x) : (l.take (i + 1)).foldl f b = f ((l.take i).foldl f b) x := by
  rw [List.take_add_one, h, List.foldl_append]
  rfl
theorem sp_count {B : Tb} {n : Nat} {S : Sto} {d : D} {j : J} (hN : B i_noted = some q_noted) (hP : B i_span = some q_span) (hS : B i_is_sound = some q_is_sound) (hC : B i_count_orders = some q_count_orders) (h : JR d j) : callN B (n + 4) i_count_orders [d] S = .ok (.v (.int (countF j))) S := by
  have w := h.w
  have wn0 := w.n0
  have wn1 := w.n1
  have wm0 := w.m0
  have wm1 := w.m1
  obtain ⟨nn, en⟩ : ∃ a : Nat, j.n = a := ⟨j.n.toNat, by omega⟩
  obtain ⟨mm, em⟩ : ∃ a : Nat, j.m = a := ⟨j.m.toNat, by omega⟩
  have sd : callN B (n + 3) 317 [d] S = .ok (.v (.bl (soundF j))) S := sp_sound hN hP hS h
  unfold countF
  cases hs : soundF j with
  | false =>
    rw [hs] at sd
    rw [callN_eq hC]
    simp [q_count_orders, b_count_orders, callF, startE, finO, dSeqS, dSet, slOf, dRet, dRetN, dIfS, dSkip, dVar, dBVar, dMv, dC, fz, rv, dOp, dUn, dNil, dCons, dTup, dLst, dB, dAndT, dOrT, dNotT, dAnd, dOr, dNot, dIf, dIfR, dCall, dBlt, dOp2, dSeq, itemsOf, dFrz, frzE, dPar, rCons, rNil, setSls, dAug, dUnp, bindTg, bindTgs, wipeE, dYes, dChain, Res.bind, Res.map, R.val, O.toD, fIx_tup, fIx_lst, fIx_loc, fIx_scr, ixD, fGt_i, fLt_i, fLe_i, fGe_i, fSub_i, fIAdd_i, fMod, fDiv, fAdd, fPow, fEq, fNe, fIsN, fNotN, isNon, bLen, bList, bTuple, bAbs, bInt, bMax2, bMin2, dPutL, listSlot, isL, mutL, fPut, dIxL, dMut1, fApp, List.getElem?_cons_zero, List.getElem?_cons_succ, List.set_cons_zero, List.set_cons_succ, List.map_cons, List.map_nil, List.cons_append, List.nil_append, List.length_cons, List.length_nil, List.replicate, if_true, if_false, ite_true, ite_false, Bool.false_eq_true, reduceIte, decide_true, decide_false, Option.map_some, Option.bind_some, sd]
  | true =>
    rw [hs] at sd
    have n1 : callN B (n + 3) 399 [d, .str "closed"] S = .ok (.o (.l ((notedL j true).map lkD))) S := sp_noted true hN h
    have nd := notedL_nodup w true
    have dict := bDict_lk S nd
    have i0 := h.ix0 S
    have i1 := h.ix1 S
    have en2 : (j.n).toNat = nn := by omega
    have em2 : (j.m).toNat = mm := by omega
    have vals : (notedL j true).map (fun x => D.int x.2) = (townsF j).map D.int := by simp [townsF]
    have b0 : (nn : Int) ≤ 100000 ∧ -100000 ≤ (nn : Int) := by omega
    have b1 : (mm : Int) ≤ 100000 ∧ -100000 ≤ (mm : Int) := by omega
    have comp1 : dComp (dRange1 (fz (dOp fIx (dBVar 0) (dC (.int 0))))) [7] (.nm 7) (dB (fz (dOp fNotIn (dBVar 7) (dBVar 2)))) (fz (dOp fIx (fz (dCall (callN B (n + 3)) 422 (dCons (dVar 0) (dCons (dVar 7) dNil)))) (dC (.int 0))))
        [.va d, .ow (.k (keysI (timesF j true)) ((notedL j true).map fun x => D.int x.2)), .ow (.l ((townsF j).map D.int)), .no, .no, .no, .no, .no, .no] S = .ok (.o (.l ((startsF j).map D.int))) S := by
      have := comp_pure (own := [7]) (tg := .nm 7) (dc := dB (fz (dOp fNotIn (dBVar 7) (dBVar 2)))) (de := fz (dOp fIx (fz (dCall (callN B (n + 3)) 422 (dCons (dVar 0) (dCons (dVar 7) dNil)))) (dC (.int 0)))) (env := [.va d, .ow (.k (keysI (timesF j true)) ((notedL j true).map fun x => D.int x.2)), .ow (.l ((townsF j).map D.int)), .no, .no, .no, .no, .no, .no]) (S := S) (S1 := S) (di := dRange1 (fz (dOp fIx (dBVar 0) (dC (.int 0))))) (rng nn) D.int (fun p => !decide (p ∈ townsF j)) (fun p => .int (spanF j p).1)
        (by simp [callF, startE, finO, dSeqS, dSet, slOf, dRet, dRetN, dIfS, dSkip, dVar, dBVar, dMv, dC, fz, rv, dOp, dUn, dNil, dCons, dTup, dLst, dB, dAndT, dOrT, dNotT, dAnd, dOr, dNot, dIf, dIfR, dCall, dBlt, dOp2, dSeq, itemsOf, dFrz, frzE, dPar, rCons, rNil, setSls, dAug, dUnp, bindTg, bindTgs, wipeE, dYes, dChain, Res.bind, Res.map, R.val, O.toD, fIx_tup, fIx_lst, fIx_loc, fIx_scr, ixD, fGt_i, fLt_i, fLe_i, fGe_i, fSub_i, fIAdd_i, fMod, fDiv, fAdd, fPow, fEq, fNe, fIsN, fNotN, isNon, bLen, bList, bTuple, bAbs, bInt, bMax2, bMin2, dPutL, listSlot, isL, mutL, fPut, dIxL, dMut1, fApp, List.getElem?_cons_zero, List.getElem?_cons_succ, List.set_cons_zero, List.set_cons_succ, List.map_cons, List.map_nil, List.cons_append, List.nil_append, List.length_cons, List.length_nil, List.replicate, if_true, if_false, ite_true, ite_false, Bool.false_eq_true, reduceIte, decide_true, decide_false, Option.map_some, Option.bind_some, i0, en, dRange1, b0, rangeD_rng]) (by rw [rng_len]; omega) fun p _ => ⟨[.va d, .ow (.k (keysI (timesF j true)) ((notedL j true).map fun x => D.int x.2)), .ow (.l ((townsF j).map D.int)), .no, .no, .no, .no, .va (.int p), .no], by simp [callF, startE, finO, dSeqS, dSet, slOf, dRet, dRetN, dIfS, dSkip, dVar, dBVar, dMv, dC, fz, rv, dOp, dUn, dNil, dCons, dTup, dLst, dB, dAndT, dOrT, dNotT, dAnd, dOr, dNot, dIf, dIfR, dCall, dBlt, dOp2, dSeq, itemsOf, dFrz, frzE, dPar, rCons, rNil, setSls, dAug, dUnp, bindTg, bindTgs, wipeE, dYes, dChain, Res.bind, Res.map, R.val, O.toD, fIx_tup, fIx_lst, fIx_loc, fIx_scr, ixD, fGt_i, fLt_i, fLe_i, fGe_i, fSub_i, fIAdd_i, fMod, fDiv, fAdd, fPow, fEq, fNe, fIsN, fNotN, isNon, bLen, bList, bTuple, bAbs, bInt, bMax2, bMin2, dPutL, listSlot, isL, mutL, fPut, dIxL, dMut1, fApp, List.getElem?_cons_zero, List.getElem?_cons_succ, List.set_cons_zero, List.set_cons_succ, List.map_cons, List.map_nil, List.cons_append, List.nil_append, List.length_cons, List.length_nil, List.replicate, if_true, if_false, ite_true, ite_false, Bool.false_eq_true, reduceIte, decide_true, decide_false, Option.map_some, Option.bind_some], by simp [callF, startE, finO, dSeqS, dSet, slOf, dRet, dRetN, dIfS, dSkip, dVar, dBVar, dMv, dC, fz, rv, dOp, dUn, dNil, dCons, dTup, dLst, dB, dAndT, dOrT, dNotT, dAnd, dOr, dNot, dIf, dIfR, dCall, dBlt, dOp2, dSeq, itemsOf, dFrz, frzE, dPar, rCons, rNil, setSls, dAug, dUnp, bindTg, bindTgs, wipeE, dYes, dChain, Res.bind, Res.map, R.val, O.toD, fIx_tup, fIx_lst, fIx_loc, fIx_scr, ixD, fGt_i, fLt_i, fLe_i, fGe_i, fSub_i, fIAdd_i, fMod, fDiv, fAdd, fPow, fEq, fNe, fIsN, fNotN, isNon, bLen, bList, bTuple, bAbs, bInt, bMax2, bMin2, dPutL, listSlot, isL, mutL, fPut, dIxL, dMut1, fApp, List.getElem?_cons_zero, List.getElem?_cons_succ, List.set_cons_zero, List.set_cons_succ, List.map_cons, List.map_nil, List.cons_append, List.nil_append, List.length_cons, List.length_nil, List.replicate, if_true, if_false, ite_true, ite_false, Bool.false_eq_true, reduceIte, decide_true, decide_false, Option.map_some, Option.bind_some, fNotIn_lst], fun _ => by
          have sp : callN B (n + 3) 422 [d, .int p] S = .ok (.v (lkD (spanF j p))) S := sp_span hN hP h
          simp [callF, startE, finO, dSeqS, dSet, slOf, dRet, dRetN, dIfS, dSkip, dVar, dBVar, dMv, dC, fz, rv, dOp, dUn, dNil, dCons, dTup, dLst, dB, dAndT, dOrT, dNotT, dAnd, dOr, dNot, dIf, dIfR, dCall, dBlt, dOp2, dSeq, itemsOf, dFrz, frzE, dPar, rCons, rNil, setSls, dAug, dUnp, bindTg, bindTgs, wipeE, dYes, dChain, Res.bind, Res.map, R.val, O.toD, fIx_tup, fIx_lst, fIx_loc, fIx_scr, ixD, fGt_i, fLt_i, fLe_i, fGe_i, fSub_i, fIAdd_i, fMod, fDiv, fAdd, fPow, fEq, fNe, fIsN, fNotN, isNon, bLen, bList, bTuple, bAbs, bInt, bMax2, bMin2, dPutL, listSlot, isL, mutL, fPut, dIxL, dMut1, fApp, List.getElem?_cons_zero, List.getElem?_cons_succ, List.set_cons_zero, List.set_cons_succ, List.map_cons, List.map_nil, List.cons_append, List.nil_append, List.length_cons, List.length_nil, List.replicate, if_true, if_false, ite_true, ite_false, Bool.false_eq_true, reduceIte, decide_true, decide_false, Option.map_some, Option.bind_some, sp, lkD]⟩
      rw [this]
      simp [startsF, en2, List.map_map]
    have hst := startsF_len w
    have loop := for_inv (t := .nm 4) (b := (dIfS (dB (fz (dOp fNotIn (dBVar 4) (dBVar 1)))) (dSeqS
  (dAug 5 fIMul (fz (dBlt bMax2 (dCons (dC (.int 0)) (dCons (fz (dOp fSub (fz (dBlt bLen (dCons (fz (dComp (dSeq (dBVar 3)) [8] (.nm 8) (dB (fz (dOp fLe (dBVar 8) (dBVar 4)))) (dVar 8))) dNil))) (dBVar 6))) dNil)))))
  (dAug 6 (pureO (gI fun i j => i + j)) (dC (.int 1)))) dSkip))
      (fun i : Int => D.int i) (fun i env S' => ∃ (a : Int × Int) (pc : Sl), S' = S ∧ a = ((rng mm).take i).foldl (cntStep (timesF j true) (startsF j)) (1, 0) ∧ 0 ≤ a.2 ∧ a.2 ≤ i ∧ env = [.va d, .ow (.k (keysI (timesF j true)) ((notedL j true).map fun x => D.int x.2)), .ow (.l ((townsF j).map D.int)), .ow (.l ((startsF j).map D.int)), pc, .va (.int a.1), .va (.int a.2), .no, .no]) (rng mm) 0
      [.va d, .ow (.k (keysI (timesF j true)) ((notedL j true).map fun x => D.int x.2)), .ow (.l ((townsF j).map D.int)), .ow (.l ((startsF j).map D.int)), .no, .va (.int 1), .va (.int 0), .no, .no] S ⟨(1, 0), .no, rfl, rfl, by decide, by decide, rfl⟩ ?_
    · obtain ⟨e, S3, g1, a, pc, hS3, g2, _, _, rfl⟩ := loop
      rw [hS3] at g1
      rw [rng_len, Nat.zero_add, List.take_of_length_le (by rw [rng_len]; exact Nat.le_refl _)] at g2
      have hr : rangeD 0 (mm : Int) = (rng mm).map fun i : Int => D.int i := rangeD_rng _
      refine fcall (hC.trans rfl) rfl ?_
      show finO (b_count_orders (callN B (n + 3)) [.va d, .no, .no, .no, .no, .no, .no, .no, .no] S) = _
      unfold b_count_orders
      refine fseq (e := [.va d, .no, .no, .no, .no, .no, .no, .no, .no]) (S1 := S) (by simp [callF, startE, finO, dSeqS, dSet, slOf, dRet, dRetN, dIfS, dSkip, dVar, dBVar, dMv, dC, fz, rv, dOp, dUn, dNil, dCons, dTup, dLst, dB, dAndT, dOrT, dNotT, dAnd, dOr, dNot, dIf, dIfR, dCall, dBlt, dOp2, dSeq, itemsOf, dFrz, frzE, dPar, rCons, rNil, setSls, dAug, dUnp, bindTg, bindTgs, wipeE, dYes, dChain, Res.bind, Res.map, R.val, O.toD, fIx_tup, fIx_lst, fIx_loc, fIx_scr, ixD, fGt_i, fLt_i, fLe_i, fGe_i, fSub_i, fIAdd_i, fMod, fDiv, fAdd, fPow, fEq, fNe, fIsN, fNotN, isNon, bLen, bList, bTuple, bAbs, bInt, bMax2, bMin2, dPutL, listSlot, isL, mutL, fPut, dIxL, dMut1, fApp, List.getElem?_cons_zero, List.getElem?_cons_succ, List.set_cons_zero, List.set_cons_succ, List.map_cons, List.map_nil, List.cons_append, List.nil_append, List.length_cons, List.length_nil, List.replicate, if_true, if_false, ite_true, ite_false, Bool.false_eq_true, reduceIte, decide_true, decide_false, Option.map_some, Option.bind_some, sd]) ?_
      refine fseq (nset (r := .o (.k (keysI (timesF j true)) ((notedL j true).map fun x => D.int x.2))) (S1 := S) (by simp only [dBlt, fz, dCall, dCons, dVar, dNil, dC, Res.bind, Res.map, R.val, List.getElem?_cons_zero, n1, O.toD, dict]; rfl)) ?_
      refine fseq (nset (r := .o (.l ((townsF j).map D.int))) (S1 := S) (by simp [callF, startE, finO, dSeqS, dSet, slOf, dRet, dRetN, dIfS, dSkip, dVar, dBVar, dMv, dC, fz, rv, dOp, dUn, dNil, dCons, dTup, dLst, dB, dAndT, dOrT, dNotT, dAnd, dOr, dNot, dIf, dIfR, dCall, dBlt, dOp2, dSeq, itemsOf, dFrz, frzE, dPar, rCons, rNil, setSls, dAug, dUnp, bindTg, bindTgs, wipeE, dYes, dChain, Res.bind, Res.map, R.val, O.toD, fIx_tup, fIx_lst, fIx_loc, fIx_scr, ixD, fGt_i, fLt_i, fLe_i, fGe_i, fSub_i, fIAdd_i, fMod, fDiv, fAdd, fPow, fEq, fNe, fIsN, fNotN, isNon, bLen, bList, bTuple, bAbs, bInt, bMax2, bMin2, dPutL, listSlot, isL, mutL, fPut, dIxL, dMut1, fApp, List.getElem?_cons_zero, List.getElem?_cons_succ, List.set_cons_zero, List.set_cons_succ, List.map_cons, List.map_nil, List.cons_append, List.nil_append, List.length_cons, List.length_nil, List.replicate, if_true, if_false, ite_true, ite_false, Bool.false_eq_true, reduceIte, decide_true, decide_false, Option.map_some, Option.bind_some, dVals, vals])) ?_
      refine fseq (nset comp1) ?_
      refine fseq (e := [.va d, .ow (.k (keysI (timesF j true)) ((notedL j true).map fun x => D.int x.2)), .ow (.l ((townsF j).map D.int)), .ow (.l ((startsF j).map D.int)), .no, .va (.int 1), .va (.int 0), .no, .no]) (S1 := S) (by simp [callF, startE, finO, dSeqS, dSet, slOf, dRet, dRetN, dIfS, dSkip, dVar, dBVar, dMv, dC, fz, rv, dOp, dUn, dNil, dCons, dTup, dLst, dB, dAndT, dOrT, dNotT, dAnd, dOr, dNot, dIf, dIfR, dCall, dBlt, dOp2, dSeq, itemsOf, dFrz, frzE, dPar, rCons, rNil, setSls, dAug, dUnp, bindTg, bindTgs, wipeE, dYes, dChain, Res.bind, Res.map, R.val, O.toD, fIx_tup, fIx_lst, fIx_loc, fIx_scr, ixD, fGt_i, fLt_i, fLe_i, fGe_i, fSub_i, fIAdd_i, fMod, fDiv, fAdd, fPow, fEq, fNe, fIsN, fNotN, isNon, bLen, bList, bTuple, bAbs, bInt, bMax2, bMin2, dPutL, listSlot, isL, mutL, fPut, dIxL, dMut1, fApp, List.getElem?_cons_zero, List.getElem?_cons_succ, List.set_cons_zero, List.set_cons_succ, List.map_cons, List.map_nil, List.cons_append, List.nil_append, List.length_cons, List.length_nil, List.replicate, if_true, if_false, ite_true, ite_false, Bool.false_eq_true, reduceIte, decide_true, decide_false, Option.map_some, Option.bind_some]) ?_
      refine fseq (nfor (ds := (rng mm).map D.int) (S1 := S) (by simp [callF, startE, finO, dSeqS, dSet, slOf, dRet, dRetN, dIfS, dSkip, dVar, dBVar, dMv, dC, fz, rv, dOp, dUn, dNil, dCons, dTup, dLst, dB, dAndT, dOrT, dNotT, dAnd, dOr, dNot, dIf, dIfR, dCall, dBlt, dOp2, dSeq, itemsOf, dFrz, frzE, dPar, rCons, rNil, setSls, dAug, dUnp, bindTg, bindTgs, wipeE, dYes, dChain, Res.bind, Res.map, R.val, O.toD, fIx_tup, fIx_lst, fIx_loc, fIx_scr, ixD, fGt_i, fLt_i, fLe_i, fGe_i, fSub_i, fIAdd_i, fMod, fDiv, fAdd, fPow, fEq, fNe, fIsN, fNotN, isNon, bLen, bList, bTuple, bAbs, bInt, bMax2, bMin2, dPutL, listSlot, isL, mutL, fPut, dIxL, dMut1, fApp, List.getElem?_cons_zero, List.getElem?_cons_succ, List.set_cons_zero, List.set_cons_succ, List.map_cons, List.map_nil, List.cons_append, List.nil_append, List.length_cons, List.length_nil, List.replicate, if_true, if_false, ite_true, ite_false, Bool.false_eq_true, reduceIte, decide_true, decide_false, Option.map_some, Option.bind_some, i1, em, dRange1, b1, rangeD_rng]) g1) ?_
      refine fret ?_
      simp [callF, startE, finO, dSeqS, dSet, slOf, dRet, dRetN, dIfS, dSkip, dVar, dBVar, dMv, dC, fz, rv, dOp, dUn, dNil, dCons, dTup, dLst, dB, dAndT, dOrT, dNotT, dAnd, dOr, dNot, dIf, dIfR, dCall, dBlt, dOp2, dSeq, itemsOf, dFrz, frzE, dPar, rCons, rNil, setSls, dAug, dUnp, bindTg, bindTgs, wipeE, dYes, dChain, Res.bind, Res.map, R.val, O.toD, fIx_tup, fIx_lst, fIx_loc, fIx_scr, ixD, fGt_i, fLt_i, fLe_i, fGe_i, fSub_i, fIAdd_i, fMod, fDiv, fAdd, fPow, fEq, fNe, fIsN, fNotN, isNon, bLen, bList, bTuple, bAbs, bInt, bMax2, bMin2, dPutL, listSlot, isL, mutL, fPut, dIxL, dMut1, fApp, List.getElem?_cons_zero, List.getElem?_cons_succ, List.set_cons_zero, List.set_cons_succ, List.map_cons, List.map_nil, List.cons_append, List.nil_append, List.length_cons, List.length_nil, List.replicate, if_true, if_false, ite_true, ite_false, Bool.false_eq_true, reduceIte, decide_true, decide_false, Option.map_some, Option.bind_some, em2, g2]
    · rintro i x env S' hx ⟨a, pc, rfl, ha, h0, h1, rfl⟩
      obtain ⟨hi, rfl⟩ := rng_succ_get hx
      rw [Nat.zero_add] at ha h1 ⊢
      have tf := take_foldl (cntStep (timesF j true) (startsF j)) (rng mm) (1, 0) hx
      rw [← ha] at tf
      refine ⟨[.va d, .ow (.k (keysI (timesF j true)) ((notedL j true).map fun x => D.int x.2)), .ow (.l ((townsF j).map D.int)), .ow (.l ((startsF j).map D.int)), .va (.int i), .va (.int a.1), .va (.int a.2), .no, .no],
        [.va d, .ow (.k (keysI (timesF j true)) ((notedL j true).map fun x => D.int x.2)), .ow (.l ((townsF j).map D.int)), .ow (.l ((startsF j).map D.int)), .va (.int i), .va (.int (cntStep (timesF j true) (startsF j) a i).1), .va (.int (cntStep (timesF j true) (startsF j) a i).2), .no, .no], S', by simp [bindTg], ?_, _, _, rfl, tf.symm, ?_, ?_, rfl⟩
      · have nin := fNotIn_dk (ks := timesF j true) (ds := (notedL j true).map fun x => D.int x.2) (i : Int) S' (by simp [timesF])
        by_cases c : (i : Int) ∈ timesF j true
        · refine ifF (S1 := S') (by simp [callF, startE, finO, dSeqS, dSet, slOf, dRet, dRetN, dIfS, dSkip, dVar, dBVar, dMv, dC, fz, rv, dOp, dUn, dNil, dCons, dTup, dLst, dB, dAndT, dOrT, dNotT, dAnd, dOr, dNot, dIf, dIfR, dCall, dBlt, dOp2, dSeq, itemsOf, dFrz, frzE, dPar, rCons, rNil, setSls, dAug, dUnp, bindTg, bindTgs, wipeE, dYes, dChain, Res.bind, Res.map, R.val, O.toD, fIx_tup, fIx_lst, fIx_loc, fIx_scr, ixD, fGt_i, fLt_i, fLe_i, fGe_i, fSub_i, fIAdd_i, fMod, fDiv, fAdd, fPow, fEq, fNe, fIsN, fNotN, isNon, bLen, bList, bTuple, bAbs, bInt, bMax2, bMin2, dPutL, listSlot, isL, mutL, fPut, dIxL, dMut1, fApp, List.getElem?_cons_zero, List.getElem?_cons_succ, List.set_cons_zero, List.set_cons_succ, List.map_cons, List.map_nil, List.cons_append, List.nil_append, List.length_cons, List.length_nil, List.replicate, if_true, if_false, ite_true, ite_false, Bool.false_eq_true, reduceIte, decide_true, decide_false, Option.map_some, Option.bind_some, nin, c]) ?_
          simp [dSkip, cntStep, c]
        · refine ifT (S1 := S') (by simp [callF, startE, finO, dSeqS, dSet, slOf, dRet, dRetN, dIfS, dSkip, dVar, dBVar, dMv, dC, fz, rv, dOp, dUn, dNil, dCons, dTup, dLst, dB, dAndT, dOrT, dNotT, dAnd, dOr, dNot, dIf, dIfR, dCall, dBlt, dOp2, dSeq, itemsOf, dFrz, frzE, dPar, rCons, rNil, setSls, dAug, dUnp, bindTg, bindTgs, wipeE, dYes, dChain, Res.bind, Res.map, R.val, O.toD, fIx_tup, fIx_lst, fIx_loc, fIx_scr, ixD, fGt_i, fLt_i, fLe_i, fGe_i, fSub_i, fIAdd_i, fMod, fDiv, fAdd, fPow, fEq, fNe, fIsN, fNotN, isNon, bLen, bList, bTuple, bAbs, bInt, bMax2, bMin2, dPutL, listSlot, isL, mutL, fPut, dIxL, dMut1, fApp, List.getElem?_cons_zero, List.getElem?_cons_succ, List.set_cons_zero, List.set_cons_succ, List.map_cons, List.map_nil, List.cons_append, List.nil_append, List.length_cons, List.length_nil, List.replicate, if_true, if_false, ite_true, ite_false, Bool.false_eq_true, reduceIte, decide_true, decide_false, Option.map_some, Option.bind_some, nin, c]) ?_
          have comp2 : dComp (dSeq (dBVar 3)) [8] (.nm 8) (dB (fz (dOp fLe (dBVar 8) (dBVar 4)))) (dVar 8) [.va d, .ow (.k (keysI (timesF j true)) ((notedL j true).map fun x => D.int x.2)), .ow (.l ((townsF j).map D.int)), .ow (.l ((startsF j).map D.int)), .va (.int i), .va (.int a.1), .va (.int a.2), .no, .no] S' = .ok (.o (.l (((startsF j).filter fun x => decide (x ≤ (i : Int))).map D.int))) S' :=
            comp_pure (startsF j) D.int _ D.int (by simp [callF, startE, finO, dSeqS, dSet, slOf, dRet, dRetN, dIfS, dSkip, dVar, dBVar, dMv, dC, fz, rv, dOp, dUn, dNil, dCons, dTup, dLst, dB, dAndT, dOrT, dNotT, dAnd, dOr, dNot, dIf, dIfR, dCall, dBlt, dOp2, dSeq, itemsOf, dFrz, frzE, dPar, rCons, rNil, setSls, dAug, dUnp, bindTg, bindTgs, wipeE, dYes, dChain, Res.bind, Res.map, R.val, O.toD, fIx_tup, fIx_lst, fIx_loc, fIx_scr, ixD, fGt_i, fLt_i, fLe_i, fGe_i, fSub_i, fIAdd_i, fMod, fDiv, fAdd, fPow, fEq, fNe, fIsN, fNotN, isNon, bLen, bList, bTuple, bAbs, bInt, bMax2, bMin2, dPutL, listSlot, isL, mutL, fPut, dIxL, dMut1, fApp, List.getElem?_cons_zero, List.getElem?_cons_succ, List.set_cons_zero, List.set_cons_succ, List.map_cons, List.map_nil, List.cons_append, List.nil_append, List.length_cons, List.length_nil, List.replicate, if_true, if_false, ite_true, ite_false, Bool.false_eq_true, reduceIte, decide_true, decide_false, Option.map_some, Option.bind_some]) (by omega) fun y _ => ⟨[.va d, .ow (.k (keysI (timesF j true)) ((notedL j true).map fun x => D.int x.2)), .ow (.l ((townsF j).map D.int)), .ow (.l ((startsF j).map D.int)), .va (.int i), .va (.int a.1), .va (.int a.2), .no, .va (.int y)], by simp [callF, startE, finO, dSeqS, dSet, slOf, dRet, dRetN, dIfS, dSkip, dVar, dBVar, dMv, dC, fz, rv, dOp, dUn, dNil, dCons, dTup, dLst, dB, dAndT, dOrT, dNotT, dAnd, dOr, dNot, dIf, dIfR, dCall, dBlt, dOp2, dSeq, itemsOf, dFrz, frzE, dPar, rCons, rNil, setSls, dAug, dUnp, bindTg, bindTgs, wipeE, dYes, dChain, Res.bind, Res.map, R.val, O.toD, fIx_tup, fIx_lst, fIx_loc, fIx_scr, ixD, fGt_i, fLt_i, fLe_i, fGe_i, fSub_i, fIAdd_i, fMod, fDiv, fAdd, fPow, fEq, fNe, fIsN, fNotN, isNon, bLen, bList, bTuple, bAbs, bInt, bMax2, bMin2, dPutL, listSlot, isL, mutL, fPut, dIxL, dMut1, fApp, List.getElem?_cons_zero, List.getElem?_cons_succ, List.set_cons_zero, List.set_cons_succ, List.map_cons, List.map_nil, List.cons_append, List.nil_append, List.length_cons, List.length_nil, List.replicate, if_true, if_false, ite_true, ite_false, Bool.false_eq_true, reduceIte, decide_true, decide_false, Option.map_some, Option.bind_some], by simp [callF, startE, finO, dSeqS, dSet, slOf, dRet, dRetN, dIfS, dSkip, dVar, dBVar, dMv, dC, fz, rv, dOp, dUn, dNil, dCons, dTup, dLst, dB, dAndT, dOrT, dNotT, dAnd, dOr, dNot, dIf, dIfR, dCall, dBlt, dOp2, dSeq, itemsOf, dFrz, frzE, dPar, rCons, rNil, setSls, dAug, dUnp, bindTg, bindTgs, wipeE, dYes, dChain, Res.bind, Res.map, R.val, O.toD, fIx_tup, fIx_lst, fIx_loc, fIx_scr, ixD, fGt_i, fLt_i, fLe_i, fGe_i, fSub_i, fIAdd_i, fMod, fDiv, fAdd, fPow, fEq, fNe, fIsN, fNotN, isNon, bLen, bList, bTuple, bAbs, bInt, bMax2, bMin2, dPutL, listSlot, isL, mutL, fPut, dIxL, dMut1, fApp, List.getElem?_cons_zero, List.getElem?_cons_succ, List.set_cons_zero, List.set_cons_succ, List.map_cons, List.map_nil, List.cons_append, List.nil_append, List.length_cons, List.length_nil, List.replicate, if_true, if_false, ite_true, ite_false, Bool.false_eq_true, reduceIte, decide_true, decide_false, Option.map_some, Option.bind_some], fun _ => by simp [callF, startE, finO, dSeqS, dSet, slOf, dRet, dRetN, dIfS, dSkip, dVar, dBVar, dMv, dC, fz, rv, dOp, dUn, dNil, dCons, dTup, dLst, dB, dAndT, dOrT, dNotT, dAnd, dOr, dNot, dIf, dIfR, dCall, dBlt, dOp2, dSeq, itemsOf, dFrz, frzE, dPar, rCons, rNil, setSls, dAug, dUnp, bindTg, bindTgs, wipeE, dYes, dChain, Res.bind, Res.map, R.val, O.toD, fIx_tup, fIx_lst, fIx_loc, fIx_scr, ixD, fGt_i, fLt_i, fLe_i, fGe_i, fSub_i, fIAdd_i, fMod, fDiv, fAdd, fPow, fEq, fNe, fIsN, fNotN, isNon, bLen, bList, bTuple, bAbs, bInt, bMax2, bMin2, dPutL, listSlot, isL, mutL, fPut, dIxL, dMut1, fApp, List.getElem?_cons_zero, List.getElem?_cons_succ, List.set_cons_zero, List.set_cons_succ, List.map_cons, List.map_nil, List.cons_append, List.nil_append, List.length_cons, List.length_nil, List.replicate, if_true, if_false, ite_true, ite_false, Bool.false_eq_true, reduceIte, decide_true, decide_false, Option.map_some, Option.bind_some]⟩
          have lf := List.length_filter_le (fun x => decide (x ≤ (i : Int))) (startsF j)
          have mo : mulOk a.1 (pos0 (((startsF j).filter fun x => decide (x ≤ (i : Int))).length - a.2)) = true := mulOk_small (by unfold pos0; split <;> omega)
          refine nseq (e := [.va d, .ow (.k (keysI (timesF j true)) ((notedL j true).map fun x => D.int x.2)), .ow (.l ((townsF j).map D.int)), .ow (.l ((startsF j).map D.int)), .va (.int i), .va (.int (a.1 * pos0 (((startsF j).filter fun x => decide (x ≤ (i : Int))).length - a.2))), .va (.int a.2), .no, .no]) (S1 := S') ?_ ?_
          · simp only [dAug, fz, dBlt, dCons, dC, dOp, dNil, dBVar, Res.bind, Res.map, R.val, O.toD, comp2, List.getElem?_cons_succ, List.getElem?_cons_zero, bLen, List.length_map, fSub_i, bMax2]
            show (match fIMul (.int a.1) (.int (pos0 (((startsF j).filter fun x => decide (x ≤ (i : Int))).length - a.2))) S' with
              | .ok r S2 => Out.nx _ S2
              | .xn c x S1 => .xn c x S1
              | .bad => .bad) = _
            rw [fIMul_i S' mo]
            rfl
          · simp [callF, startE, finO, dSeqS, dSet, slOf, dRet, dRetN, dIfS, dSkip, dVar, dBVar, dMv, dC, fz, rv, dOp, dUn, dNil, dCons, dTup, dLst, dB, dAndT, dOrT, dNotT, dAnd, dOr, dNot, dIf, dIfR, dCall, dBlt, dOp2, dSeq, itemsOf, dFrz, frzE, dPar, rCons, rNil, setSls, dAug, dUnp, bindTg, bindTgs, wipeE, dYes, dChain, Res.bind, Res.map, R.val, O.toD, fIx_tup, fIx_lst, fIx_loc, fIx_scr, ixD, fGt_i, fLt_i, fLe_i, fGe_i, fSub_i, fIAdd_i, fMod, fDiv, fAdd, fPow, fEq, fNe, fIsN, fNotN, isNon, bLen, bList, bTuple, bAbs, bInt, bMax2, bMin2, dPutL, listSlot, isL, mutL, fPut, dIxL, dMut1, fApp, List.getElem?_cons_zero, List.getElem?_cons_succ, List.set_cons_zero, List.set_cons_succ, List.map_cons, List.map_nil, List.cons_append, List.nil_append, List.length_cons, List.length_nil, List.replicate, if_true, if_false, ite_true, ite_false, Bool.false_eq_true, reduceIte, decide_true, decide_false, Option.map_some, Option.bind_some, cntStep, c]
      · unfold cntStep
        split
        · exact h0
        · show 0 ≤ a.2 + 1
          omega
      · unfold cntStep
        split
        · omega
        · show a.2 + 1 ≤ _
          omega
end MP

namespace MP
open PySem PySem.Spec
/-! ### lost_ways, count_stories -/
def lostF (j : J) : Int := (rng j.m.toNat).foldl (fun a t => if t ∈ timesF j false then a else a * (j.n - 1 - t)) 1
theorem sp_lost {B : Tb} {n : Nat} {S : Sto} {d : D} {j : J} (hN : B i_noted = some q_noted) (hL : B i_lost_ways = some q_lost_ways) (h : JR d j) : callN B (n + 2) i_lost_ways [d] S = .ok (.v (.int (lostF j))) S := by
  have w := h.w
  have wn0 := w.n0
  have wn1 := w.n1
  have wm0 := w.m0
  have wm1 := w.m1
  obtain ⟨mm, em⟩ : ∃ a : Nat, j.m = a := ⟨j.m.toNat, by omega⟩
  have em2 : (j.m).toNat = mm := by omega
  have n1 : callN B (n + 1) 399 [d, .str "end"] S = .ok (.o (.l ((notedL j false).map lkD))) S := sp_noted false hN h
  have dict := bDict_lk S (notedL_nodup w false)
  have b1 : (mm : Int) ≤ 100000 ∧ -100000 ≤ (mm : Int) := by omega
  have i1 := h.ix1 S
  have loop := for_inv (t := .nm 1) (b := (dIfS (dB (fz (dOp fNotIn (dBVar 1) (dBVar 2)))) (dAug 3 fIMul (fz (dOp fSub (fz (dOp fSub (fz (dOp fIx (dBVar 0) (dC (.int 0)))) (dC (.int 1)))) (dBVar 1)))) dSkip))
      (fun i : Int => D.int i) (fun i env S' => ∃ (a : Int) (pc : Sl), S' = S ∧ a = ((rng mm).take i).foldl (fun a t => if t ∈ timesF j false then a else a * (j.n - 1 - t)) 1 ∧ env = [.va d, pc, .ow (.k (keysI (timesF j false)) ((notedL j false).map fun x => D.int x.2)), .va (.int a)]) (rng mm) 0
      [.va d, .no, .ow (.k (keysI (timesF j false)) ((notedL j false).map fun x => D.int x.2)), .va (.int 1)] S ⟨1, .no, rfl, rfl, rfl⟩ ?_
  · obtain ⟨e, S3, g1, a, pc, hS3, g2, rfl⟩ := loop
    rw [hS3] at g1
    rw [rng_len, Nat.zero_add, List.take_of_length_le (by rw [rng_len]; exact Nat.le_refl _)] at g2
    refine fcall (hL.trans rfl) rfl ?_
    show finO (b_lost_ways (callN B (n + 1)) [.va d, .no, .no, .no] S) = _
    unfold b_lost_ways
    refine fseq (e := [.va d, .no, .ow (.k (keysI (timesF j false)) ((notedL j false).map fun x => D.int x.2)), .va (.int 1)]) (S1 := S) ?_ ?_
    · simp only [dPar, rCons, rNil, dBlt, fz, dCall, dCons, dVar, dNil, dC, rv, Res.bind, Res.map, R.val, List.getElem?_cons_zero, n1, O.toD, dict, setSls, slOf, List.set_cons_zero, List.set_cons_succ]
      rfl
    refine fseq (nfor (ds := (rng mm).map D.int) (S1 := S) (by simp [callF, startE, finO, dSeqS, dSet, slOf, dRet, dRetN, dIfS, dSkip, dVar, dBVar, dMv, dC, fz, rv, dOp, dUn, dNil, dCons, dTup, dLst, dB, dAndT, dOrT, dNotT, dAnd, dOr, dNot, dIf, dIfR, dCall, dBlt, dOp2, dSeq, itemsOf, dFrz, frzE, dPar, rCons, rNil, setSls, dAug, dUnp, bindTg, bindTgs, wipeE, dYes, dChain, Res.bind, Res.map, R.val, O.toD, fIx_tup, fIx_lst, fIx_loc, fIx_scr, ixD, fGt_i, fLt_i, fLe_i, fGe_i, fSub_i, fIAdd_i, fMod, fDiv, fAdd, fPow, fEq, fNe, fIsN, fNotN, isNon, bLen, bList, bTuple, bAbs, bInt, bMax2, bMin2, dPutL, listSlot, isL, mutL, fPut, dIxL, dMut1, fApp, List.getElem?_cons_zero, List.getElem?_cons_succ, List.set_cons_zero, List.set_cons_succ, List.map_cons, List.map_nil, List.cons_append, List.nil_append, List.length_cons, List.length_nil, List.replicate, if_true, if_false, ite_true, ite_false, Bool.false_eq_true, reduceIte, decide_true, decide_false, Option.map_some, Option.bind_some, i1, em, dRange1, b1, rangeD_rng]) g1) ?_
    refine fret ?_
    simp [callF, startE, finO, dSeqS, dSet, slOf, dRet, dRetN, dIfS, dSkip, dVar, dBVar, dMv, dC, fz, rv, dOp, dUn, dNil, dCons, dTup, dLst, dB, dAndT, dOrT, dNotT, dAnd, dOr, dNot, dIf, dIfR, dCall, dBlt, dOp2, dSeq, itemsOf, dFrz, frzE, dPar, rCons, rNil, setSls, dAug, dUnp, bindTg, bindTgs, wipeE, dYes, dChain, Res.bind, Res.map, R.val, O.toD, fIx_tup, fIx_lst, fIx_loc, fIx_scr, ixD, fGt_i, fLt_i, fLe_i, fGe_i, fSub_i, fIAdd_i, fMod, fDiv, fAdd, fPow, fEq, fNe, fIsN, fNotN, isNon, bLen, bList, bTuple, bAbs, bInt, bMax2, bMin2, dPutL, listSlot, isL, mutL, fPut, dIxL, dMut1, fApp, List.getElem?_cons_zero, List.getElem?_cons_succ, List.set_cons_zero, List.set_cons_succ, List.map_cons, List.map_nil, List.cons_append, List.nil_append, List.length_cons, List.length_nil, List.replicate, if_true, if_false, ite_true, ite_false, Bool.false_eq_true, reduceIte, decide_true, decide_false, Option.map_some, Option.bind_some, em2, g2, lostF]
  · rintro i x env S' hx ⟨a, pc, hS', ha, rfl⟩
    subst hS'
    obtain ⟨hi, rfl⟩ := rng_succ_get hx
    rw [Nat.zero_add] at ha ⊢
    have tf := take_foldl (fun a t => if t ∈ timesF j false then a else a * (j.n - 1 - t)) (rng mm) 1 hx
    rw [← ha] at tf
    have nin := fNotIn_dk (ks := timesF j false) (ds := (notedL j false).map fun x => D.int x.2) (i : Int) S' (by simp [timesF])
    have i0 := h.ix0 S'
    refine ⟨[.va d, .va (.int i), .ow (.k (keysI (timesF j false)) ((notedL j false).map fun x => D.int x.2)), .va (.int a)], [.va d, .va (.int i), .ow (.k (keysI (timesF j false)) ((notedL j false).map fun x => D.int x.2)), .va (.int (if (i : Int) ∈ timesF j false then a else a * (j.n - 1 - i)))], S', by simp [bindTg], ?_, _, _, rfl, tf.symm, rfl⟩
    by_cases c : (i : Int) ∈ timesF j false
    · refine ifF (S1 := S') (by simp [callF, startE, finO, dSeqS, dSet, slOf, dRet, dRetN, dIfS, dSkip, dVar, dBVar, dMv, dC, fz, rv, dOp, dUn, dNil, dCons, dTup, dLst, dB, dAndT, dOrT, dNotT, dAnd, dOr, dNot, dIf, dIfR, dCall, dBlt, dOp2, dSeq, itemsOf, dFrz, frzE, dPar, rCons, rNil, setSls, dAug, dUnp, bindTg, bindTgs, wipeE, dYes, dChain, Res.bind, Res.map, R.val, O.toD, fIx_tup, fIx_lst, fIx_loc, fIx_scr, ixD, fGt_i, fLt_i, fLe_i, fGe_i, fSub_i, fIAdd_i, fMod, fDiv, fAdd, fPow, fEq, fNe, fIsN, fNotN, isNon, bLen, bList, bTuple, bAbs, bInt, bMax2, bMin2, dPutL, listSlot, isL, mutL, fPut, dIxL, dMut1, fApp, List.getElem?_cons_zero, List.getElem?_cons_succ, List.set_cons_zero, List.set_cons_succ, List.map_cons, List.map_nil, List.cons_append, List.nil_append, List.length_cons, List.length_nil, List.replicate, if_true, if_false, ite_true, ite_false, Bool.false_eq_true, reduceIte, decide_true, decide_false, Option.map_some, Option.bind_some, nin, c]) ?_
      simp [dSkip, c]
    · refine ifT (S1 := S') (by simp [callF, startE, finO, dSeqS, dSet, slOf, dRet, dRetN, dIfS, dSkip, dVar, dBVar, dMv, dC, fz, rv, dOp, dUn, dNil, dCons, dTup, dLst, dB, dAndT, dOrT, dNotT, dAnd, dOr, dNot, dIf, dIfR, dCall, dBlt, dOp2, dSeq, itemsOf, dFrz, frzE, dPar, rCons, rNil, setSls, dAug, dUnp, bindTg, bindTgs, wipeE, dYes, dChain, Res.bind, Res.map, R.val, O.toD, fIx_tup, fIx_lst, fIx_loc, fIx_scr, ixD, fGt_i, fLt_i, fLe_i, fGe_i, fSub_i, fIAdd_i, fMod, fDiv, fAdd, fPow, fEq, fNe, fIsN, fNotN, isNon, bLen, bList, bTuple, bAbs, bInt, bMax2, bMin2, dPutL, listSlot, isL, mutL, fPut, dIxL, dMut1, fApp, List.getElem?_cons_zero, List.getElem?_cons_succ, List.set_cons_zero, List.set_cons_succ, List.map_cons, List.map_nil, List.cons_append, List.nil_append, List.length_cons, List.length_nil, List.replicate, if_true, if_false, ite_true, ite_false, Bool.false_eq_true, reduceIte, decide_true, decide_false, Option.map_some, Option.bind_some, nin, c]) ?_
      have mo : mulOk a (j.n - 1 - i) = true := mulOk_small (by omega)
      simp [callF, startE, finO, dSeqS, dSet, slOf, dRet, dRetN, dIfS, dSkip, dVar, dBVar, dMv, dC, fz, rv, dOp, dUn, dNil, dCons, dTup, dLst, dB, dAndT, dOrT, dNotT, dAnd, dOr, dNot, dIf, dIfR, dCall, dBlt, dOp2, dSeq, itemsOf, dFrz, frzE, dPar, rCons, rNil, setSls, dAug, dUnp, bindTg, bindTgs, wipeE, dYes, dChain, Res.bind, Res.map, R.val, O.toD, fIx_tup, fIx_lst, fIx_loc, fIx_scr, ixD, fGt_i, fLt_i, fLe_i, fGe_i, fSub_i, fIAdd_i, fMod, fDiv, fAdd, fPow, fEq, fNe, fIsN, fNotN, isNon, bLen, bList, bTuple, bAbs, bInt, bMax2, bMin2, dPutL, listSlot, isL, mutL, fPut, dIxL, dMut1, fApp, List.getElem?_cons_zero, List.getElem?_cons_succ, List.set_cons_zero, List.set_cons_succ, List.map_cons, List.map_nil, List.cons_append, List.nil_append, List.length_cons, List.length_nil, List.replicate, if_true, if_false, ite_true, ite_false, Bool.false_eq_true, reduceIte, decide_true, decide_false, Option.map_some, Option.bind_some, i0, fIMul_i S' mo, c]
theorem sp_stories {B : Tb} {n : Nat} {S : Sto} {d : D} {j : J} (hN : B i_noted = some q_noted) (hP : B i_span = some q_span) (hS : B i_is_sound = some q_is_sound) (hC : B i_count_orders = some q_count_orders) (hL : B i_lost_ways = some q_lost_ways) (hT : B i_count_stories = some q_count_stories) (h : JR d j) (hm : mulOk (countF j) (lostF j) = true) :
    callN B (n + 5) i_count_stories [d] S = .ok (.v (.int (countF j * lostF j))) S := by
  have c1 : callN B (n + 4) 295 [d] S = .ok (.v (.int (countF j))) S := sp_count hN hP hS hC h
  have c2 : callN B (n + 4) 393 [d] S = .ok (.v (.int (lostF j))) S := sp_lost (n := n + 2) hN hL h
  rw [callN_eq hT]
  simp [q_count_stories, b_count_stories, callF, startE, finO, dSeqS, dSet, slOf, dRet, dRetN, dIfS, dSkip, dVar, dBVar, dMv, dC, fz, rv, dOp, dUn, dNil, dCons, dTup, dLst, dB, dAndT, dOrT, dNotT, dAnd, dOr, dNot, dIf, dIfR, dCall, dBlt, dOp2, dSeq, itemsOf, dFrz, frzE, dPar, rCons, rNil, setSls, dAug, dUnp, bindTg, bindTgs, wipeE, dYes, dChain, Res.bind, Res.map, R.val, O.toD, fIx_tup, fIx_lst, fIx_loc, fIx_scr, ixD, fGt_i, fLt_i, fLe_i, fGe_i, fSub_i, fIAdd_i, fMod, fDiv, fAdd, fPow, fEq, fNe, fIsN, fNotN, isNon, bLen, bList, bTuple, bAbs, bInt, bMax2, bMin2, dPutL, listSlot, isL, mutL, fPut, dIxL, dMut1, fApp, List.getElem?_cons_zero, List.getElem?_cons_succ, List.set_cons_zero, List.set_cons_succ, List.map_cons, List.map_nil, List.cons_append, List.nil_append, List.length_cons, List.length_nil, List.replicate, if_true, if_false, ite_true, ite_false, Bool.false_eq_true, reduceIte, decide_true, decide_false, Option.map_some, Option.bind_some, c1, c2, fMul_i S hm]
theorem sp_possible {B : Tb} {n : Nat} {S : Sto} {d : D} {j : J} (hN : B i_noted = some q_noted) (hP : B i_span = some q_span) (hS : B i_is_sound = some q_is_sound) (hC : B i_count_orders = some q_count_orders) (hT : B i_is_possible = some q_is_possible) (h : JR d j) :
    callN B (n + 5) i_is_possible [d] S = .ok (.v (.bl (decide (0 < countF j)))) S := by
  have c1 : callN B (n + 4) 295 [d] S = .ok (.v (.int (countF j))) S := sp_count hN hP hS hC h
  rw [callN_eq hT]
  simp [q_is_possible, b_is_possible, callF, startE, finO, dSeqS, dSet, slOf, dRet, dRetN, dIfS, dSkip, dVar, dBVar, dMv, dC, fz, rv, dOp, dUn, dNil, dCons, dTup, dLst, dB, dAndT, dOrT, dNotT, dAnd, dOr, dNot, dIf, dIfR, dCall, dBlt, dOp2, dSeq, itemsOf, dFrz, frzE, dPar, rCons, rNil, setSls, dAug, dUnp, bindTg, bindTgs, wipeE, dYes, dChain, Res.bind, Res.map, R.val, O.toD, fIx_tup, fIx_lst, fIx_loc, fIx_scr, ixD, fGt_i, fLt_i, fLe_i, fGe_i, fSub_i, fIAdd_i, fMod, fDiv, fAdd, fPow, fEq, fNe, fIsN, fNotN, isNon, bLen, bList, bTuple, bAbs, bInt, bMax2, bMin2, dPutL, listSlot, isL, mutL, fPut, dIxL, dMut1, fApp, List.getElem?_cons_zero, List.getElem?_cons_succ, List.set_cons_zero, List.set_cons_succ, List.map_cons, List.map_nil, List.cons_append, List.nil_append, List.length_cons, List.length_nil, List.replicate, if_true, if_false, ite_true, ite_false, Bool.false_eq_true, reduceIte, decide_true, decide_false, Option.map_some, Option.bind_some, c1]
/-! ### windows, evidence -/
def windF (j : J) : List Lk := (rng j.n.toNat).map (spanF j)
theorem sp_windows {B : Tb} {n : Nat} {S : Sto} {d : D} {j : J} (hN : B i_noted = some q_noted) (hP : B i_span = some q_span) (hW : B i_windows = some q_windows) (h : JR d j) : callN B (n + 3) i_windows [d] S = .ok (.o (.l ((windF j).map lkD))) S := by
  have w := h.w
  have wn0 := w.n0
  have wn1 := w.n1
  obtain ⟨nn, en⟩ : ∃ a : Nat, j.n = a := ⟨j.n.toNat, by omega⟩
  have en2 : (j.n).toNat = nn := by omega
  have b0 : (nn : Int) ≤ 100000 ∧ -100000 ≤ (nn : Int) := by omega
  have i0 := h.ix0 S
  refine fcall (hW.trans rfl) rfl ?_
  show finO (b_windows (callN B (n + 2)) [.va d, .no] S) = _
  unfold b_windows
  refine fret ?_
  have := comp_all (own := [1]) (tg := .nm 1) (de := fz (dCall (callN B (n + 2)) 422 (dCons (dVar 0) (dCons (dVar 1) dNil)))) (env := [.va d, .no]) (S := S) (S1 := S) (di := dRange1 (fz (dOp fIx (dBVar 0) (dC (.int 0))))) (rng nn) D.int (fun p => lkD (spanF j p)) (by simp [callF, startE, finO, dSeqS, dSet, slOf, dRet, dRetN, dIfS, dSkip, dVar, dBVar, dMv, dC, fz, rv, dOp, dUn, dNil, dCons, dTup, dLst, dB, dAndT, dOrT, dNotT, dAnd, dOr, dNot, dIf, dIfR, dCall, dBlt, dOp2, dSeq, itemsOf, dFrz, frzE, dPar, rCons, rNil, setSls, dAug, dUnp, bindTg, bindTgs, wipeE, dYes, dChain, Res.bind, Res.map, R.val, O.toD, fIx_tup, fIx_lst, fIx_loc, fIx_scr, ixD, fGt_i, fLt_i, fLe_i, fGe_i, fSub_i, fIAdd_i, fMod, fDiv, fAdd, fPow, fEq, fNe, fIsN, fNotN, isNon, bLen, bList, bTuple, bAbs, bInt, bMax2, bMin2, dPutL, listSlot, isL, mutL, fPut, dIxL, dMut1, fApp, List.getElem?_cons_zero, List.getElem?_cons_succ, List.set_cons_zero, List.set_cons_succ, List.map_cons, List.map_nil, List.cons_append, List.nil_append, List.length_cons, List.length_nil, List.replicate, if_true, if_false, ite_true, ite_false, Bool.false_eq_true, reduceIte, decide_true, decide_false, Option.map_some, Option.bind_some, i0, en, dRange1, b0, rangeD_rng]) (by rw [rng_len]; omega) fun p _ => ⟨[.va d, .va (.int p)], by simp [callF, startE, finO, dSeqS, dSet, slOf, dRet, dRetN, dIfS, dSkip, dVar, dBVar, dMv, dC, fz, rv, dOp, dUn, dNil, dCons, dTup, dLst, dB, dAndT, dOrT, dNotT, dAnd, dOr, dNot, dIf, dIfR, dCall, dBlt, dOp2, dSeq, itemsOf, dFrz, frzE, dPar, rCons, rNil, setSls, dAug, dUnp, bindTg, bindTgs, wipeE, dYes, dChain, Res.bind, Res.map, R.val, O.toD, fIx_tup, fIx_lst, fIx_loc, fIx_scr, ixD, fGt_i, fLt_i, fLe_i, fGe_i, fSub_i, fIAdd_i, fMod, fDiv, fAdd, fPow, fEq, fNe, fIsN, fNotN, isNon, bLen, bList, bTuple, bAbs, bInt, bMax2, bMin2, dPutL, listSlot, isL, mutL, fPut, dIxL, dMut1, fApp, List.getElem?_cons_zero, List.getElem?_cons_succ, List.set_cons_zero, List.set_cons_succ, List.map_cons, List.map_nil, List.cons_append, List.nil_append, List.length_cons, List.length_nil, List.replicate, if_true, if_false, ite_true, ite_false, Bool.false_eq_true, reduceIte, decide_true, decide_false, Option.map_some, Option.bind_some], by
    have sp : callN B (n + 2) 422 [d, .int p] S = .ok (.v (lkD (spanF j p))) S := sp_span hN hP h
    simp [callF, startE, finO, dSeqS, dSet, slOf, dRet, dRetN, dIfS, dSkip, dVar, dBVar, dMv, dC, fz, rv, dOp, dUn, dNil, dCons, dTup, dLst, dB, dAndT, dOrT, dNotT, dAnd, dOr, dNot, dIf, dIfR, dCall, dBlt, dOp2, dSeq, itemsOf, dFrz, frzE, dPar, rCons, rNil, setSls, dAug, dUnp, bindTg, bindTgs, wipeE, dYes, dChain, Res.bind, Res.map, R.val, O.toD, fIx_tup, fIx_lst, fIx_loc, fIx_scr, ixD, fGt_i, fLt_i, fLe_i, fGe_i, fSub_i, fIAdd_i, fMod, fDiv, fAdd, fPow, fEq, fNe, fIsN, fNotN, isNon, bLen, bList, bTuple, bAbs, bInt, bMax2, bMin2, dPutL, listSlot, isL, mutL, fPut, dIxL, dMut1, fApp, List.getElem?_cons_zero, List.getElem?_cons_succ, List.set_cons_zero, List.set_cons_succ, List.map_cons, List.map_nil, List.cons_append, List.nil_append, List.length_cons, List.length_nil, List.replicate, if_true, if_false, ite_true, ite_false, Bool.false_eq_true, reduceIte, decide_true, decide_false, Option.map_some, Option.bind_some, sp]⟩
  rw [this]
  simp [windF, en2, List.map_map]
def lostT (j : J) : List Int := usort (((notedL j true).filter fun x => decide ((spanF j x.2).2 < (spanF j x.2).1)).map (·.2))
theorem sp_lostT {B : Tb} {n : Nat} {S : Sto} {d : D} {j : J} (hN : B i_noted = some q_noted) (hP : B i_span = some q_span) (hW : B i_lost_towns = some q_lost_towns) (h : JR d j) (hl : (((notedL j true).filter fun x => decide ((spanF j x.2).2 < (spanF j x.2).1)).map (·.2)).length ≤ 60) : callN B (n + 3) i_lost_towns [d] S = .ok (.o (.l ((lostT j).map D.int))) S := by
  have n1 : callN B (n + 2) 399 [d, .str "closed"] S = .ok (.o (.l ((notedL j true).map lkD))) S := sp_noted true hN h
  have hlen := h.len
  have l1 : (notedL j true).length ≤ 100000 := Nat.le_trans notedL_len (by omega)
  refine fcall (hW.trans rfl) rfl ?_
  show finO (b_lost_towns (callN B (n + 2)) [.va d, .no, .no, .no] S) = _
  unfold b_lost_towns
  have cp := comp_pure (own := [2, 3]) (tg := .tp [(.nm 2), (.nm 3)]) (dc := dB (fz (dOp fGt (fz (dOp fIx (fz (dCall (callN B (n + 2)) 422 (dCons (dVar 0) (dCons (dVar 3) dNil)))) (dC (.int 0)))) (fz (dOp fIx (fz (dCall (callN B (n + 2)) 422 (dCons (dVar 0) (dCons (dVar 3) dNil)))) (dC (.int 1)))))))
    (de := dVar 3) (env := [.va d, .no, .no, .no]) (S := S) (S1 := S) (di := dSeq (fz (dCall (callN B (n + 2)) 399 (dCons (dVar 0) (dCons (dC (.str "closed")) dNil))))) (notedL j true) lkD (fun x => decide ((spanF j x.2).2 < (spanF j x.2).1)) (fun x => .int x.2) (by simp [callF, startE, finO, dSeqS, dSet, slOf, dRet, dRetN, dIfS, dSkip, dVar, dBVar, dMv, dC, fz, rv, dOp, dUn, dNil, dCons, dTup, dLst, dB, dAndT, dOrT, dNotT, dAnd, dOr, dNot, dIf, dIfR, dCall, dBlt, dOp2, dSeq, itemsOf, dFrz, frzE, dPar, rCons, rNil, setSls, dAug, dUnp, bindTg, bindTgs, wipeE, dYes, dChain, Res.bind, Res.map, R.val, O.toD, fIx_tup, fIx_lst, fIx_loc, fIx_scr, ixD, fGt_i, fLt_i, fLe_i, fGe_i, fSub_i, fIAdd_i, fMod, fDiv, fAdd, fPow, fEq, fNe, fIsN, fNotN, isNon, bLen, bList, bTuple, bAbs, bInt, bMax2, bMin2, dPutL, listSlot, isL, mutL, fPut, dIxL, dMut1, fApp, List.getElem?_cons_zero, List.getElem?_cons_succ, List.set_cons_zero, List.set_cons_succ, List.map_cons, List.map_nil, List.cons_append, List.nil_append, List.length_cons, List.length_nil, List.replicate, if_true, if_false, ite_true, ite_false, Bool.false_eq_true, reduceIte, decide_true, decide_false, Option.map_some, Option.bind_some, n1]) l1 fun l _ => ⟨[.va d, .no, .va (.int l.1), .va (.int l.2)], by simp [callF, startE, finO, dSeqS, dSet, slOf, dRet, dRetN, dIfS, dSkip, dVar, dBVar, dMv, dC, fz, rv, dOp, dUn, dNil, dCons, dTup, dLst, dB, dAndT, dOrT, dNotT, dAnd, dOr, dNot, dIf, dIfR, dCall, dBlt, dOp2, dSeq, itemsOf, dFrz, frzE, dPar, rCons, rNil, setSls, dAug, dUnp, bindTg, bindTgs, wipeE, dYes, dChain, Res.bind, Res.map, R.val, O.toD, fIx_tup, fIx_lst, fIx_loc, fIx_scr, ixD, fGt_i, fLt_i, fLe_i, fGe_i, fSub_i, fIAdd_i, fMod, fDiv, fAdd, fPow, fEq, fNe, fIsN, fNotN, isNon, bLen, bList, bTuple, bAbs, bInt, bMax2, bMin2, dPutL, listSlot, isL, mutL, fPut, dIxL, dMut1, fApp, List.getElem?_cons_zero, List.getElem?_cons_succ, List.set_cons_zero, List.set_cons_succ, List.map_cons, List.map_nil, List.cons_append, List.nil_append, List.length_cons, List.length_nil, List.replicate, if_true, if_false, ite_true, ite_false, Bool.false_eq_true, reduceIte, decide_true, decide_false, Option.map_some, Option.bind_some, lkD], by
      have sp : callN B (n + 2) 422 [d, .int l.2] S = .ok (.v (lkD (spanF j l.2))) S := sp_span hN hP h
      simp [callF, startE, finO, dSeqS, dSet, slOf, dRet, dRetN, dIfS, dSkip, dVar, dBVar, dMv, dC, fz, rv, dOp, dUn, dNil, dCons, dTup, dLst, dB, dAndT, dOrT, dNotT, dAnd, dOr, dNot, dIf, dIfR, dCall, dBlt, dOp2, dSeq, itemsOf, dFrz, frzE, dPar, rCons, rNil, setSls, dAug, dUnp, bindTg, bindTgs, wipeE, dYes, dChain, Res.bind, Res.map, R.val, O.toD, fIx_tup, fIx_lst, fIx_loc, fIx_scr, ixD, fGt_i, fLt_i, fLe_i, fGe_i, fSub_i, fIAdd_i, fMod, fDiv, fAdd, fPow, fEq, fNe, fIsN, fNotN, isNon, bLen, bList, bTuple, bAbs, bInt, bMax2, bMin2, dPutL, listSlot, isL, mutL, fPut, dIxL, dMut1, fApp, List.getElem?_cons_zero, List.getElem?_cons_succ, List.set_cons_zero, List.set_cons_succ, List.map_cons, List.map_nil, List.cons_append, List.nil_append, List.length_cons, List.length_nil, List.replicate, if_true, if_false, ite_true, ite_false, Bool.false_eq_true, reduceIte, decide_true, decide_false, Option.map_some, Option.bind_some, sp, lkD], fun _ => by simp [callF, startE, finO, dSeqS, dSet, slOf, dRet, dRetN, dIfS, dSkip, dVar, dBVar, dMv, dC, fz, rv, dOp, dUn, dNil, dCons, dTup, dLst, dB, dAndT, dOrT, dNotT, dAnd, dOr, dNot, dIf, dIfR, dCall, dBlt, dOp2, dSeq, itemsOf, dFrz, frzE, dPar, rCons, rNil, setSls, dAug, dUnp, bindTg, bindTgs, wipeE, dYes, dChain, Res.bind, Res.map, R.val, O.toD, fIx_tup, fIx_lst, fIx_loc, fIx_scr, ixD, fGt_i, fLt_i, fLe_i, fGe_i, fSub_i, fIAdd_i, fMod, fDiv, fAdd, fPow, fEq, fNe, fIsN, fNotN, isNon, bLen, bList, bTuple, bAbs, bInt, bMax2, bMin2, dPutL, listSlot, isL, mutL, fPut, dIxL, dMut1, fApp, List.getElem?_cons_zero, List.getElem?_cons_succ, List.set_cons_zero, List.set_cons_succ, List.map_cons, List.map_nil, List.cons_append, List.nil_append, List.length_cons, List.length_nil, List.replicate, if_true, if_false, ite_true, ite_false, Bool.false_eq_true, reduceIte, decide_true, decide_false, Option.map_some, Option.bind_some]⟩
  refine fseq (nset cp) ?_
  refine fret ?_
  have e : ((notedL j true).filter fun x => decide ((spanF j x.2).2 < (spanF j x.2).1)).map (fun x => D.int x.2) = (((notedL j true).filter fun x => decide ((spanF j x.2).2 < (spanF j x.2).1)).map (·.2)).map D.int := by simp
  rw [e]
  simp only [dSortSet, dBVar, slOf, List.set_cons_succ, List.set_cons_zero, List.getElem?_cons_succ, List.getElem?_cons_zero, Res.bind, O.toD, seqInts, intsOf_map]
  rw [if_pos hl]
  rfl
def fewF (j : J) (t : Int) : Bool := decide ((((windF j).filter fun x => decide (x.1 ≤ x.2) && decide (x.1 ≤ t)).length : Int) ≤ t)
theorem sp_few {B : Tb} {n : Nat} {S : Sto} {d : D} {j : J} {t : Int} (hN : B i_noted = some q_noted) (hP : B i_span = some q_span) (hW : B i_windows = some q_windows) (hF : B i_are_few = some q_are_few) (h : JR d j) : callN B (n + 4) i_are_few [d, .int t] S = .ok (.v (.bl (fewF j t))) S := by
  have w1 : callN B (n + 3) 435 [d] S = .ok (.o (.l ((windF j).map lkD))) S := sp_windows hN hP hW h
  have l1 : (windF j).length ≤ 100000 := by
    unfold windF
    rw [List.length_map, rng_len]
    have := h.w.n1
    omega
  refine fcall (hF.trans rfl) rfl ?_
  show finO (b_are_few (callN B (n + 3)) [.va d, .va (.int t), .no, .no, .no] S) = _
  unfold b_are_few
  have cp := comp_pure (own := [3, 4]) (tg := .tp [(.nm 3), (.nm 4)]) (dc := dAndT (dB (fz (dOp fLe (dBVar 3) (dBVar 4)))) (dB (fz (dOp fLe (dBVar 3) (dBVar 1)))))
    (de := dVar 3) (env := [.va d, .va (.int t), .no, .no, .no]) (S := S) (S1 := S) (di := dSeq (fz (dCall (callN B (n + 3)) 435 (dCons (dVar 0) dNil)))) (windF j) lkD (fun x => decide (x.1 ≤ x.2) && decide (x.1 ≤ t)) (fun x => .int x.1) (by simp [callF, startE, finO, dSeqS, dSet, slOf, dRet, dRetN, dIfS, dSkip, dVar, dBVar, dMv, dC, fz, rv, dOp, dUn, dNil, dCons, dTup, dLst, dB, dAndT, dOrT, dNotT, dAnd, dOr, dNot, dIf, dIfR, dCall, dBlt, dOp2, dSeq, itemsOf, dFrz, frzE, dPar, rCons, rNil, setSls, dAug, dUnp, bindTg, bindTgs, wipeE, dYes, dChain, Res.bind, Res.map, R.val, O.toD, fIx_tup, fIx_lst, fIx_loc, fIx_scr, ixD, fGt_i, fLt_i, fLe_i, fGe_i, fSub_i, fIAdd_i, fMod, fDiv, fAdd, fPow, fEq, fNe, fIsN, fNotN, isNon, bLen, bList, bTuple, bAbs, bInt, bMax2, bMin2, dPutL, listSlot, isL, mutL, fPut, dIxL, dMut1, fApp, List.getElem?_cons_zero, List.getElem?_cons_succ, List.set_cons_zero, List.set_cons_succ, List.map_cons, List.map_nil, List.cons_append, List.nil_append, List.length_cons, List.length_nil, List.replicate, if_true, if_false, ite_true, ite_false, Bool.false_eq_true, reduceIte, decide_true, decide_false, Option.map_some, Option.bind_some, w1]) l1 fun l _ => ⟨[.va d, .va (.int t), .no, .va (.int l.1), .va (.int l.2)], by simp [callF, startE, finO, dSeqS, dSet, slOf, dRet, dRetN, dIfS, dSkip, dVar, dBVar, dMv, dC, fz, rv, dOp, dUn, dNil, dCons, dTup, dLst, dB, dAndT, dOrT, dNotT, dAnd, dOr, dNot, dIf, dIfR, dCall, dBlt, dOp2, dSeq, itemsOf, dFrz, frzE, dPar, rCons, rNil, setSls, dAug, dUnp, bindTg, bindTgs, wipeE, dYes, dChain, Res.bind, Res.map, R.val, O.toD, fIx_tup, fIx_lst, fIx_loc, fIx_scr, ixD, fGt_i, fLt_i, fLe_i, fGe_i, fSub_i, fIAdd_i, fMod, fDiv, fAdd, fPow, fEq, fNe, fIsN, fNotN, isNon, bLen, bList, bTuple, bAbs, bInt, bMax2, bMin2, dPutL, listSlot, isL, mutL, fPut, dIxL, dMut1, fApp, List.getElem?_cons_zero, List.getElem?_cons_succ, List.set_cons_zero, List.set_cons_succ, List.map_cons, List.map_nil, List.cons_append, List.nil_append, List.length_cons, List.length_nil, List.replicate, if_true, if_false, ite_true, ite_false, Bool.false_eq_true, reduceIte, decide_true, decide_false, Option.map_some, Option.bind_some, lkD], by
      by_cases c : l.1 ≤ l.2 <;> simp [callF, startE, finO, dSeqS, dSet, slOf, dRet, dRetN, dIfS, dSkip, dVar, dBVar, dMv, dC, fz, rv, dOp, dUn, dNil, dCons, dTup, dLst, dB, dAndT, dOrT, dNotT, dAnd, dOr, dNot, dIf, dIfR, dCall, dBlt, dOp2, dSeq, itemsOf, dFrz, frzE, dPar, rCons, rNil, setSls, dAug, dUnp, bindTg, bindTgs, wipeE, dYes, dChain, Res.bind, Res.map, R.val, O.toD, fIx_tup, fIx_lst, fIx_loc, fIx_scr, ixD, fGt_i, fLt_i, fLe_i, fGe_i, fSub_i, fIAdd_i, fMod, fDiv, fAdd, fPow, fEq, fNe, fIsN, fNotN, isNon, bLen, bList, bTuple, bAbs, bInt, bMax2, bMin2, dPutL, listSlot, isL, mutL, fPut, dIxL, dMut1, fApp, List.getElem?_cons_zero, List.getElem?_cons_succ, List.set_cons_zero, List.set_cons_succ, List.map_cons, List.map_nil, List.cons_append, List.nil_append, List.length_cons, List.length_nil, List.replicate, if_true, if_false, ite_true, ite_false, Bool.false_eq_true, reduceIte, decide_true, decide_false, Option.map_some, Option.bind_some, c], fun _ => by simp [callF, startE, finO, dSeqS, dSet, slOf, dRet, dRetN, dIfS, dSkip, dVar, dBVar, dMv, dC, fz, rv, dOp, dUn, dNil, dCons, dTup, dLst, dB, dAndT, dOrT, dNotT, dAnd, dOr, dNot, dIf, dIfR, dCall, dBlt, dOp2, dSeq, itemsOf, dFrz, frzE, dPar, rCons, rNil, setSls, dAug, dUnp, bindTg, bindTgs, wipeE, dYes, dChain, Res.bind, Res.map, R.val, O.toD, fIx_tup, fIx_lst, fIx_loc, fIx_scr, ixD, fGt_i, fLt_i, fLe_i, fGe_i, fSub_i, fIAdd_i, fMod, fDiv, fAdd, fPow, fEq, fNe, fIsN, fNotN, isNon, bLen, bList, bTuple, bAbs, bInt, bMax2, bMin2, dPutL, listSlot, isL, mutL, fPut, dIxL, dMut1, fApp, List.getElem?_cons_zero, List.getElem?_cons_succ, List.set_cons_zero, List.set_cons_succ, List.map_cons, List.map_nil, List.cons_append, List.nil_append, List.length_cons, List.length_nil, List.replicate, if_true, if_false, ite_true, ite_false, Bool.false_eq_true, reduceIte, decide_true, decide_false, Option.map_some, Option.bind_some]⟩
  refine fseq (nset cp) ?_
  refine fret ?_
  simp [callF, startE, finO, dSeqS, dSet, slOf, dRet, dRetN, dIfS, dSkip, dVar, dBVar, dMv, dC, fz, rv, dOp, dUn, dNil, dCons, dTup, dLst, dB, dAndT, dOrT, dNotT, dAnd, dOr, dNot, dIf, dIfR, dCall, dBlt, dOp2, dSeq, itemsOf, dFrz, frzE, dPar, rCons, rNil, setSls, dAug, dUnp, bindTg, bindTgs, wipeE, dYes, dChain, Res.bind, Res.map, R.val, O.toD, fIx_tup, fIx_lst, fIx_loc, fIx_scr, ixD, fGt_i, fLt_i, fLe_i, fGe_i, fSub_i, fIAdd_i, fMod, fDiv, fAdd, fPow, fEq, fNe, fIsN, fNotN, isNon, bLen, bList, bTuple, bAbs, bInt, bMax2, bMin2, dPutL, listSlot, isL, mutL, fPut, dIxL, dMut1, fApp, List.getElem?_cons_zero, List.getElem?_cons_succ, List.set_cons_zero, List.set_cons_succ, List.map_cons, List.map_nil, List.cons_append, List.nil_append, List.length_cons, List.length_nil, List.replicate, if_true, if_false, ite_true, ite_false, Bool.false_eq_true, reduceIte, decide_true, decide_false, Option.map_some, Option.bind_some, fewF]
def evidF (j : J) : D := if 0 < (lostT j).length then .tup [.str "never", .int ((lostT j).getD 0 0)] else
  if 0 < ((rng j.m.toNat).filter (fewF j)).length then .tup [.str "few", .int (((rng j.m.toNat).filter (fewF j)).getD 0 0)] else .non

theorem nodup_sub_len : ∀ {l m : List Int}, l.Nodup → (∀ x ∈ l, x ∈ m) → l.length ≤ m.length
  | [], _, _, _ => by simp
  | x :: l, m, nd, h => by
    obtain ⟨h1, h2⟩ := List.nodup_cons.mp nd
    have ih := nodup_sub_len (l := l) (m := m.erase x) h2 fun y hy => (List.mem_erase_of_ne (fun e => h1 (by rw [← e]; exact hy))).mpr (h y (List.mem_cons_of_mem _ hy))
    have hx := h x List.mem_cons_self
    rw [List.length_erase_of_mem hx] at ih
    have := List.length_pos_of_mem hx
    rw [List.length_cons]
    omega
theorem townsF_len {j : J} (h : JW j) : (notedL j true).length ≤ 60 := by
  have nd := notedL_nodup h true
  have sub : ∀ x ∈ (notedL j true).map (·.1), x ∈ rng 60 := fun x hx => by
    obtain ⟨l, hl, rfl⟩ := List.mem_map.mp hx
    unfold notedL at hl
    obtain ⟨y, hy, rfl⟩ := List.mem_map.mp hl
    have := h.inr y (List.mem_filter.mp hy).1
    have := h.m1
    exact mem_rng.mpr ⟨by omega, by show y.t < (60 : Nat); omega⟩
  have := nodup_sub_len nd sub
  rw [List.length_map, rng_len] at this
  exact this
theorem sp_evid {B : Tb} {n : Nat} {S : Sto} {d : D} {j : J} (hN : B i_noted = some q_noted) (hP : B i_span = some q_span) (hW : B i_windows = some q_windows) (hF : B i_are_few = some q_are_few) (hL : B i_lost_towns = some q_lost_towns) (hE : B i_evidence = some q_evidence) (h : JR d j) :
    callN B (n + 5) i_evidence [d] S = .ok (.v (evidF j)) S := by
  have w := h.w
  have wm0 := w.m0
  have wm1 := w.m1
  obtain ⟨mm, em⟩ : ∃ a : Nat, j.m = a := ⟨j.m.toNat, by omega⟩
  have em2 : (j.m).toNat = mm := by omega
  have b1 : (mm : Int) ≤ 100000 ∧ -100000 ≤ (mm : Int) := by omega
  have i1 := h.ix1 S
  have lt : callN B (n + 4) 392 [d] S = .ok (.o (.l ((lostT j).map D.int))) S := sp_lostT (n := n + 1) hN hP hL h (by
    rw [List.length_map]
    exact Nat.le_trans (List.length_filter_le _ _) (townsF_len w))
  refine fcall (hE.trans rfl) rfl ?_
  show finO (b_evidence (callN B (n + 4)) [.va d, .no, .no, .no] S) = _
  unfold b_evidence
  refine fseq (nset (r := .o (.l ((lostT j).map D.int))) (S1 := S) (by simp [callF, startE, finO, dSeqS, dSet, slOf, dRet, dRetN, dIfS, dSkip, dVar, dBVar, dMv, dC, fz, rv, dOp, dUn, dNil, dCons, dTup, dLst, dB, dAndT, dOrT, dNotT, dAnd, dOr, dNot, dIf, dIfR, dCall, dBlt, dOp2, dSeq, itemsOf, dFrz, frzE, dPar, rCons, rNil, setSls, dAug, dUnp, bindTg, bindTgs, wipeE, dYes, dChain, Res.bind, Res.map, R.val, O.toD, fIx_tup, fIx_lst, fIx_loc, fIx_scr, ixD, fGt_i, fLt_i, fLe_i, fGe_i, fSub_i, fIAdd_i, fMod, fDiv, fAdd, fPow, fEq, fNe, fIsN, fNotN, isNon, bLen, bList, bTuple, bAbs, bInt, bMax2, bMin2, dPutL, listSlot, isL, mutL, fPut, dIxL, dMut1, fApp, List.getElem?_cons_zero, List.getElem?_cons_succ, List.set_cons_zero, List.set_cons_succ, List.map_cons, List.map_nil, List.cons_append, List.nil_append, List.length_cons, List.length_nil, List.replicate, if_true, if_false, ite_true, ite_false, Bool.false_eq_true, reduceIte, decide_true, decide_false, Option.map_some, Option.bind_some, lt])) ?_
  unfold evidF
  by_cases c : 0 < (lostT j).length
  · rw [if_pos c]
    obtain ⟨x, l, e⟩ : ∃ x l, lostT j = x :: l := by
      cases hx : lostT j with
      | nil => rw [hx] at c; simp at c
      | cons x l => exact ⟨x, l, rfl⟩
    refine fseqR (r := .v (.tup [.str "never", .int ((lostT j).getD 0 0)])) (S1 := S) ?_
    refine ifT (S1 := S) ?_ (nret ?_)
    · rw [e]
      simp [callF, startE, finO, dSeqS, dSet, slOf, dRet, dRetN, dIfS, dSkip, dVar, dBVar, dMv, dC, fz, rv, dOp, dUn, dNil, dCons, dTup, dLst, dB, dAndT, dOrT, dNotT, dAnd, dOr, dNot, dIf, dIfR, dCall, dBlt, dOp2, dSeq, itemsOf, dFrz, frzE, dPar, rCons, rNil, setSls, dAug, dUnp, bindTg, bindTgs, wipeE, dYes, dChain, Res.bind, Res.map, R.val, O.toD, fIx_tup, fIx_lst, fIx_loc, fIx_scr, ixD, fGt_i, fLt_i, fLe_i, fGe_i, fSub_i, fIAdd_i, fMod, fDiv, fAdd, fPow, fEq, fNe, fIsN, fNotN, isNon, bLen, bList, bTuple, bAbs, bInt, bMax2, bMin2, dPutL, listSlot, isL, mutL, fPut, dIxL, dMut1, fApp, List.getElem?_cons_zero, List.getElem?_cons_succ, List.set_cons_zero, List.set_cons_succ, List.map_cons, List.map_nil, List.cons_append, List.nil_append, List.length_cons, List.length_nil, List.replicate, if_true, if_false, ite_true, ite_false, Bool.false_eq_true, reduceIte, decide_true, decide_false, Option.map_some, Option.bind_some]
    · rw [e]
      simp [callF, startE, finO, dSeqS, dSet, slOf, dRet, dRetN, dIfS, dSkip, dVar, dBVar, dMv, dC, fz, rv, dOp, dUn, dNil, dCons, dTup, dLst, dB, dAndT, dOrT, dNotT, dAnd, dOr, dNot, dIf, dIfR, dCall, dBlt, dOp2, dSeq, itemsOf, dFrz, frzE, dPar, rCons, rNil, setSls, dAug, dUnp, bindTg, bindTgs, wipeE, dYes, dChain, Res.bind, Res.map, R.val, O.toD, fIx_tup, fIx_lst, fIx_loc, fIx_scr, ixD, fGt_i, fLt_i, fLe_i, fGe_i, fSub_i, fIAdd_i, fMod, fDiv, fAdd, fPow, fEq, fNe, fIsN, fNotN, isNon, bLen, bList, bTuple, bAbs, bInt, bMax2, bMin2, dPutL, listSlot, isL, mutL, fPut, dIxL, dMut1, fApp, List.getElem?_cons_zero, List.getElem?_cons_succ, List.set_cons_zero, List.set_cons_succ, List.map_cons, List.map_nil, List.cons_append, List.nil_append, List.length_cons, List.length_nil, List.replicate, if_true, if_false, ite_true, ite_false, Bool.false_eq_true, reduceIte, decide_true, decide_false, Option.map_some, Option.bind_some]
  · rw [if_neg c]
    have e : lostT j = [] := by
      cases hx : lostT j with
      | nil => rfl
      | cons x l => rw [hx] at c; simp at c
    refine fseq (e := [.va d, .ow (.l []), .no, .no]) (S1 := S) ?_ ?_
    · rw [e]
      simp [callF, startE, finO, dSeqS, dSet, slOf, dRet, dRetN, dIfS, dSkip, dVar, dBVar, dMv, dC, fz, rv, dOp, dUn, dNil, dCons, dTup, dLst, dB, dAndT, dOrT, dNotT, dAnd, dOr, dNot, dIf, dIfR, dCall, dBlt, dOp2, dSeq, itemsOf, dFrz, frzE, dPar, rCons, rNil, setSls, dAug, dUnp, bindTg, bindTgs, wipeE, dYes, dChain, Res.bind, Res.map, R.val, O.toD, fIx_tup, fIx_lst, fIx_loc, fIx_scr, ixD, fGt_i, fLt_i, fLe_i, fGe_i, fSub_i, fIAdd_i, fMod, fDiv, fAdd, fPow, fEq, fNe, fIsN, fNotN, isNon, bLen, bList, bTuple, bAbs, bInt, bMax2, bMin2, dPutL, listSlot, isL, mutL, fPut, dIxL, dMut1, fApp, List.getElem?_cons_zero, List.getElem?_cons_succ, List.set_cons_zero, List.set_cons_succ, List.map_cons, List.map_nil, List.cons_append, List.nil_append, List.length_cons, List.length_nil, List.replicate, if_true, if_false, ite_true, ite_false, Bool.false_eq_true, reduceIte, decide_true, decide_false, Option.map_some, Option.bind_some]
    have cp := comp_pure (own := [3]) (tg := .nm 3) (dc := dB (fz (dCall (callN B (n + 4)) 284 (dCons (dVar 0) (dCons (dVar 3) dNil))))) (de := dVar 3) (env := [.va d, .ow (.l []), .no, .no]) (S := S) (S1 := S) (di := dRange1 (fz (dOp fIx (dBVar 0) (dC (.int 1))))) (rng mm) D.int (fewF j) D.int
      (by simp [callF, startE, finO, dSeqS, dSet, slOf, dRet, dRetN, dIfS, dSkip, dVar, dBVar, dMv, dC, fz, rv, dOp, dUn, dNil, dCons, dTup, dLst, dB, dAndT, dOrT, dNotT, dAnd, dOr, dNot, dIf, dIfR, dCall, dBlt, dOp2, dSeq, itemsOf, dFrz, frzE, dPar, rCons, rNil, setSls, dAug, dUnp, bindTg, bindTgs, wipeE, dYes, dChain, Res.bind, Res.map, R.val, O.toD, fIx_tup, fIx_lst, fIx_loc, fIx_scr, ixD, fGt_i, fLt_i, fLe_i, fGe_i, fSub_i, fIAdd_i, fMod, fDiv, fAdd, fPow, fEq, fNe, fIsN, fNotN, isNon, bLen, bList, bTuple, bAbs, bInt, bMax2, bMin2, dPutL, listSlot, isL, mutL, fPut, dIxL, dMut1, fApp, List.getElem?_cons_zero, List.getElem?_cons_succ, List.set_cons_zero, List.set_cons_succ, List.map_cons, List.map_nil, List.cons_append, List.nil_append, List.length_cons, List.length_nil, List.replicate, if_true, if_false, ite_true, ite_false, Bool.false_eq_true, reduceIte, decide_true, decide_false, Option.map_some, Option.bind_some, i1, em, dRange1, b1, rangeD_rng]) (by rw [rng_len]; omega) fun t _ => ⟨[.va d, .ow (.l []), .no, .va (.int t)], by simp [callF, startE, finO, dSeqS, dSet, slOf, dRet, dRetN, dIfS, dSkip, dVar, dBVar, dMv, dC, fz, rv, dOp, dUn, dNil, dCons, dTup, dLst, dB, dAndT, dOrT, dNotT, dAnd, dOr, dNot, dIf, dIfR, dCall, dBlt, dOp2, dSeq, itemsOf, dFrz, frzE, dPar, rCons, rNil, setSls, dAug, dUnp, bindTg, bindTgs, wipeE, dYes, dChain, Res.bind, Res.map, R.val, O.toD, fIx_tup, fIx_lst, fIx_loc, fIx_scr, ixD, fGt_i, fLt_i, fLe_i, fGe_i, fSub_i, fIAdd_i, fMod, fDiv, fAdd, fPow, fEq, fNe, fIsN, fNotN, isNon, bLen, bList, bTuple, bAbs, bInt, bMax2, bMin2, dPutL, listSlot, isL, mutL, fPut, dIxL, dMut1, fApp, List.getElem?_cons_zero, List.getElem?_cons_succ, List.set_cons_zero, List.set_cons_succ, List.map_cons, List.map_nil, List.cons_append, List.nil_append, List.length_cons, List.length_nil, List.replicate, if_true, if_false, ite_true, ite_false, Bool.false_eq_true, reduceIte, decide_true, decide_false, Option.map_some, Option.bind_some], by
        have fw : callN B (n + 4) 284 [d, .int t] S = .ok (.v (.bl (fewF j t))) S := sp_few hN hP hW hF h
        simp [callF, startE, finO, dSeqS, dSet, slOf, dRet, dRetN, dIfS, dSkip, dVar, dBVar, dMv, dC, fz, rv, dOp, dUn, dNil, dCons, dTup, dLst, dB, dAndT, dOrT, dNotT, dAnd, dOr, dNot, dIf, dIfR, dCall, dBlt, dOp2, dSeq, itemsOf, dFrz, frzE, dPar, rCons, rNil, setSls, dAug, dUnp, bindTg, bindTgs, wipeE, dYes, dChain, Res.bind, Res.map, R.val, O.toD, fIx_tup, fIx_lst, fIx_loc, fIx_scr, ixD, fGt_i, fLt_i, fLe_i, fGe_i, fSub_i, fIAdd_i, fMod, fDiv, fAdd, fPow, fEq, fNe, fIsN, fNotN, isNon, bLen, bList, bTuple, bAbs, bInt, bMax2, bMin2, dPutL, listSlot, isL, mutL, fPut, dIxL, dMut1, fApp, List.getElem?_cons_zero, List.getElem?_cons_succ, List.set_cons_zero, List.set_cons_succ, List.map_cons, List.map_nil, List.cons_append, List.nil_append, List.length_cons, List.length_nil, List.replicate, if_true, if_false, ite_true, ite_false, Bool.false_eq_true, reduceIte, decide_true, decide_false, Option.map_some, Option.bind_some, fw], fun _ => by simp [callF, startE, finO, dSeqS, dSet, slOf, dRet, dRetN, dIfS, dSkip, dVar, dBVar, dMv, dC, fz, rv, dOp, dUn, dNil, dCons, dTup, dLst, dB, dAndT, dOrT, dNotT, dAnd, dOr, dNot, dIf, dIfR, dCall, dBlt, dOp2, dSeq, itemsOf, dFrz, frzE, dPar, rCons, rNil, setSls, dAug, dUnp, bindTg, bindTgs, wipeE, dYes, dChain, Res.bind, Res.map, R.val, O.toD, fIx_tup, fIx_lst, fIx_loc, fIx_scr, ixD, fGt_i, fLt_i, fLe_i, fGe_i, fSub_i, fIAdd_i, fMod, fDiv, fAdd, fPow, fEq, fNe, fIsN, fNotN, isNon, bLen, bList, bTuple, bAbs, bInt, bMax2, bMin2, dPutL, listSlot, isL, mutL, fPut, dIxL, dMut1, fApp, List.getElem?_cons_zero, List.getElem?_cons_succ, List.set_cons_zero, List.set_cons_succ, List.map_cons, List.map_nil, List.cons_append, List.nil_append, List.length_cons, List.length_nil, List.replicate, if_true, if_false, ite_true, ite_false, Bool.false_eq_true, reduceIte, decide_true, decide_false, Option.map_some, Option.bind_some]⟩
    refine fseq (nset cp) ?_
    refine fret ?_
    rw [em2]
    cases hx : (rng mm).filter (fewF j) with
    | nil => simp [callF, startE, finO, dSeqS, dSet, slOf, dRet, dRetN, dIfS, dSkip, dVar, dBVar, dMv, dC, fz, rv, dOp, dUn, dNil, dCons, dTup, dLst, dB, dAndT, dOrT, dNotT, dAnd, dOr, dNot, dIf, dIfR, dCall, dBlt, dOp2, dSeq, itemsOf, dFrz, frzE, dPar, rCons, rNil, setSls, dAug, dUnp, bindTg, bindTgs, wipeE, dYes, dChain, Res.bind, Res.map, R.val, O.toD, fIx_tup, fIx_lst, fIx_loc, fIx_scr, ixD, fGt_i, fLt_i, fLe_i, fGe_i, fSub_i, fIAdd_i, fMod, fDiv, fAdd, fPow, fEq, fNe, fIsN, fNotN, isNon, bLen, bList, bTuple, bAbs, bInt, bMax2, bMin2, dPutL, listSlot, isL, mutL, fPut, dIxL, dMut1, fApp, List.getElem?_cons_zero, List.getElem?_cons_succ, List.set_cons_zero, List.set_cons_succ, List.map_cons, List.map_nil, List.cons_append, List.nil_append, List.length_cons, List.length_nil, List.replicate, if_true, if_false, ite_true, ite_false, Bool.false_eq_true, reduceIte, decide_true, decide_false, Option.map_some, Option.bind_some]
    | cons x l =>
      have : (0 : Int) < (l.length : Int) + 1 := by omega
      simp [callF, startE, finO, dSeqS, dSet, slOf, dRet, dRetN, dIfS, dSkip, dVar, dBVar, dMv, dC, fz, rv, dOp, dUn, dNil, dCons, dTup, dLst, dB, dAndT, dOrT, dNotT, dAnd, dOr, dNot, dIf, dIfR, dCall, dBlt, dOp2, dSeq, itemsOf, dFrz, frzE, dPar, rCons, rNil, setSls, dAug, dUnp, bindTg, bindTgs, wipeE, dYes, dChain, Res.bind, Res.map, R.val, O.toD, fIx_tup, fIx_lst, fIx_loc, fIx_scr, ixD, fGt_i, fLt_i, fLe_i, fGe_i, fSub_i, fIAdd_i, fMod, fDiv, fAdd, fPow, fEq, fNe, fIsN, fNotN, isNon, bLen, bList, bTuple, bAbs, bInt, bMax2, bMin2, dPutL, listSlot, isL, mutL, fPut, dIxL, dMut1, fApp, List.getElem?_cons_zero, List.getElem?_cons_succ, List.set_cons_zero, List.set_cons_succ, List.map_cons, List.map_nil, List.cons_append, List.nil_append, List.length_cons, List.length_nil, List.replicate, if_true, if_false, ite_true, ite_false, Bool.false_eq_true, reduceIte, decide_true, decide_false, Option.map_some, Option.bind_some, this]
/-! ### is_number, are_towns, is_order -/
theorem sp_number {B : Tb} {n : Nat} {S : Sto} {i : Int} (hB : B i_is_number = some q_is_number) : callN B (n + 1) i_is_number [.int i] S = .ok (.v (.bl true)) S := by
  rw [callN_eq hB]
  simp [q_is_number, b_is_number, callF, startE, finO, dSeqS, dSet, slOf, dRet, dRetN, dIfS, dSkip, dVar, dBVar, dMv, dC, fz, rv, dOp, dUn, dNil, dCons, dTup, dLst, dB, dAndT, dOrT, dNotT, dAnd, dOr, dNot, dIf, dIfR, dCall, dBlt, dOp2, dSeq, itemsOf, dFrz, frzE, dPar, rCons, rNil, setSls, dAug, dUnp, bindTg, bindTgs, wipeE, dYes, dChain, Res.bind, Res.map, R.val, O.toD, fIx_tup, fIx_lst, fIx_loc, fIx_scr, ixD, fGt_i, fLt_i, fLe_i, fGe_i, fSub_i, fIAdd_i, fMod, fDiv, fAdd, fPow, fEq, fNe, fIsN, fNotN, isNon, bLen, bList, bTuple, bAbs, bInt, bMax2, bMin2, dPutL, listSlot, isL, mutL, fPut, dIxL, dMut1, fApp, List.getElem?_cons_zero, List.getElem?_cons_succ, List.set_cons_zero, List.set_cons_succ, List.map_cons, List.map_nil, List.cons_append, List.nil_append, List.length_cons, List.length_nil, List.replicate, if_true, if_false, ite_true, ite_false, Bool.false_eq_true, reduceIte, decide_true, decide_false, Option.map_some, Option.bind_some, bIsi, isi1, tyName, tyKnown, subTy]
theorem sp_towns {B : Tb} {n : Nat} {S : Sto} {l : List Int} {c m : Int} (hU : B i_is_number = some q_is_number) (hB : B i_are_towns = some q_are_towns) (hl : l.length ≤ 100000) :
    callN B (n + 2) i_are_towns [.tup (l.map D.int), .int c, .int m] S = .ok (.v (.bl (decide ((l.length : Int) = m) && l.all fun p => decide (0 ≤ p) && decide (p < c)))) S := by
  refine fcall (hB.trans rfl) rfl ?_
  show finO (b_are_towns (callN B (n + 1)) [.va (.tup (l.map D.int)), .va (.int c), .va (.int m), .no] S) = _
  unfold b_are_towns
  by_cases k : (l.length : Int) = m
  · refine fseq (e := [.va (.tup (l.map D.int)), .va (.int c), .va (.int m), .no]) (S1 := S) ?_ ?_
    · simp [callF, startE, finO, dSeqS, dSet, slOf, dRet, dRetN, dIfS, dSkip, dVar, dBVar, dMv, dC, fz, rv, dOp, dUn, dNil, dCons, dTup, dLst, dB, dAndT, dOrT, dNotT, dAnd, dOr, dNot, dIf, dIfR, dCall, dBlt, dOp2, dSeq, itemsOf, dFrz, frzE, dPar, rCons, rNil, setSls, dAug, dUnp, bindTg, bindTgs, wipeE, dYes, dChain, Res.bind, Res.map, R.val, O.toD, fIx_tup, fIx_lst, fIx_loc, fIx_scr, ixD, fGt_i, fLt_i, fLe_i, fGe_i, fSub_i, fIAdd_i, fMod, fDiv, fAdd, fPow, fEq, fNe, fIsN, fNotN, isNon, bLen, bList, bTuple, bAbs, bInt, bMax2, bMin2, dPutL, listSlot, isL, mutL, fPut, dIxL, dMut1, fApp, List.getElem?_cons_zero, List.getElem?_cons_succ, List.set_cons_zero, List.set_cons_succ, List.map_cons, List.map_nil, List.cons_append, List.nil_append, List.length_cons, List.length_nil, List.replicate, if_true, if_false, ite_true, ite_false, Bool.false_eq_true, reduceIte, decide_true, decide_false, Option.map_some, Option.bind_some, bIsi, isi1, tyName, tyKnown, subTy, fitN, deq_ii, k]
    refine fret ?_
    have cp := comp_all (own := [3]) (tg := .nm 3) (de := dAnd (fz (dCall (callN B (n + 1)) 312 (dCons (dVar 3) dNil))) (dChain fLe fLt (dC (.int 0)) (dBVar 3) (dBVar 1))) (env := [.va (.tup (l.map D.int)), .va (.int c), .va (.int m), .no]) (S := S) (S1 := S) (di := dSeq (dBVar 0)) l D.int (fun p => .bl (decide (0 ≤ p) && decide (p < c))) (by simp [callF, startE, finO, dSeqS, dSet, slOf, dRet, dRetN, dIfS, dSkip, dVar, dBVar, dMv, dC, fz, rv, dOp, dUn, dNil, dCons, dTup, dLst, dB, dAndT, dOrT, dNotT, dAnd, dOr, dNot, dIf, dIfR, dCall, dBlt, dOp2, dSeq, itemsOf, dFrz, frzE, dPar, rCons, rNil, setSls, dAug, dUnp, bindTg, bindTgs, wipeE, dYes, dChain, Res.bind, Res.map, R.val, O.toD, fIx_tup, fIx_lst, fIx_loc, fIx_scr, ixD, fGt_i, fLt_i, fLe_i, fGe_i, fSub_i, fIAdd_i, fMod, fDiv, fAdd, fPow, fEq, fNe, fIsN, fNotN, isNon, bLen, bList, bTuple, bAbs, bInt, bMax2, bMin2, dPutL, listSlot, isL, mutL, fPut, dIxL, dMut1, fApp, List.getElem?_cons_zero, List.getElem?_cons_succ, List.set_cons_zero, List.set_cons_succ, List.map_cons, List.map_nil, List.cons_append, List.nil_append, List.length_cons, List.length_nil, List.replicate, if_true, if_false, ite_true, ite_false, Bool.false_eq_true, reduceIte, decide_true, decide_false, Option.map_some, Option.bind_some]) hl fun p _ => ⟨[.va (.tup (l.map D.int)), .va (.int c), .va (.int m), .va (.int p)], by simp [callF, startE, finO, dSeqS, dSet, slOf, dRet, dRetN, dIfS, dSkip, dVar, dBVar, dMv, dC, fz, rv, dOp, dUn, dNil, dCons, dTup, dLst, dB, dAndT, dOrT, dNotT, dAnd, dOr, dNot, dIf, dIfR, dCall, dBlt, dOp2, dSeq, itemsOf, dFrz, frzE, dPar, rCons, rNil, setSls, dAug, dUnp, bindTg, bindTgs, wipeE, dYes, dChain, Res.bind, Res.map, R.val, O.toD, fIx_tup, fIx_lst, fIx_loc, fIx_scr, ixD, fGt_i, fLt_i, fLe_i, fGe_i, fSub_i, fIAdd_i, fMod, fDiv, fAdd, fPow, fEq, fNe, fIsN, fNotN, isNon, bLen, bList, bTuple, bAbs, bInt, bMax2, bMin2, dPutL, listSlot, isL, mutL, fPut, dIxL, dMut1, fApp, List.getElem?_cons_zero, List.getElem?_cons_succ, List.set_cons_zero, List.set_cons_succ, List.map_cons, List.map_nil, List.cons_append, List.nil_append, List.length_cons, List.length_nil, List.replicate, if_true, if_false, ite_true, ite_false, Bool.false_eq_true, reduceIte, decide_true, decide_false, Option.map_some, Option.bind_some], by
      have nb : callN B (n + 1) 312 [.int p] S = .ok (.v (.bl true)) S := sp_number hU
      by_cases z : 0 ≤ p <;> simp [callF, startE, finO, dSeqS, dSet, slOf, dRet, dRetN, dIfS, dSkip, dVar, dBVar, dMv, dC, fz, rv, dOp, dUn, dNil, dCons, dTup, dLst, dB, dAndT, dOrT, dNotT, dAnd, dOr, dNot, dIf, dIfR, dCall, dBlt, dOp2, dSeq, itemsOf, dFrz, frzE, dPar, rCons, rNil, setSls, dAug, dUnp, bindTg, bindTgs, wipeE, dYes, dChain, Res.bind, Res.map, R.val, O.toD, fIx_tup, fIx_lst, fIx_loc, fIx_scr, ixD, fGt_i, fLt_i, fLe_i, fGe_i, fSub_i, fIAdd_i, fMod, fDiv, fAdd, fPow, fEq, fNe, fIsN, fNotN, isNon, bLen, bList, bTuple, bAbs, bInt, bMax2, bMin2, dPutL, listSlot, isL, mutL, fPut, dIxL, dMut1, fApp, List.getElem?_cons_zero, List.getElem?_cons_succ, List.set_cons_zero, List.set_cons_succ, List.map_cons, List.map_nil, List.cons_append, List.nil_append, List.length_cons, List.length_nil, List.replicate, if_true, if_false, ite_true, ite_false, Bool.false_eq_true, reduceIte, decide_true, decide_false, Option.map_some, Option.bind_some, nb, z]⟩
    simp only [dBlt, dCons, fz, cp, Res.bind, Res.map, R.val, O.toD, dNil, bAll_map]
    simp [k]
  · refine fseqR (r := .v (.bl false)) (S1 := S) ?_ |>.trans ?_
    · simp [callF, startE, finO, dSeqS, dSet, slOf, dRet, dRetN, dIfS, dSkip, dVar, dBVar, dMv, dC, fz, rv, dOp, dUn, dNil, dCons, dTup, dLst, dB, dAndT, dOrT, dNotT, dAnd, dOr, dNot, dIf, dIfR, dCall, dBlt, dOp2, dSeq, itemsOf, dFrz, frzE, dPar, rCons, rNil, setSls, dAug, dUnp, bindTg, bindTgs, wipeE, dYes, dChain, Res.bind, Res.map, R.val, O.toD, fIx_tup, fIx_lst, fIx_loc, fIx_scr, ixD, fGt_i, fLt_i, fLe_i, fGe_i, fSub_i, fIAdd_i, fMod, fDiv, fAdd, fPow, fEq, fNe, fIsN, fNotN, isNon, bLen, bList, bTuple, bAbs, bInt, bMax2, bMin2, dPutL, listSlot, isL, mutL, fPut, dIxL, dMut1, fApp, List.getElem?_cons_zero, List.getElem?_cons_succ, List.set_cons_zero, List.set_cons_succ, List.map_cons, List.map_nil, List.cons_append, List.nil_append, List.length_cons, List.length_nil, List.replicate, if_true, if_false, ite_true, ite_false, Bool.false_eq_true, reduceIte, decide_true, decide_false, Option.map_some, Option.bind_some, bIsi, isi1, tyName, tyKnown, subTy, fitN, deq_ii, k]
    · simp [k]
def orderF (j : J) (l : List Int) : Bool := (decide ((l.length : Int) = j.m) && l.all fun p => decide (0 ≤ p) && decide (p < j.n)) && decide (((usort l).length : Int) = j.m) && ((notedL j true).all fun x => decide (l[x.1.toNat]? = some x.2)) && ((notedL j false).all fun x => !decide (x.2 ∈ l.take (x.1.toNat + 1)))
theorem cut_to (xs : List D) (t : Int) (h : 0 ≤ t) : cutD xs none (some (t + 1)) = xs.take (t.toNat + 1) := by
  have e : HT.sIx xs.length xs.length (some (t + 1)) = min (t.toNat + 1) xs.length := by
    show (if t + 1 < 0 then _ else min (t + 1).toNat xs.length) = _
    rw [if_neg (by omega)]
    congr 1
    omega
  unfold cutD
  rw [e]
  show (xs.drop 0).take (min (t.toNat + 1) xs.length - 0) = _
  rw [List.drop_zero, Nat.sub_zero, ← List.take_eq_take_min]
theorem sp_order {B : Tb} {n : Nat} {S : Sto} {d : D} {j : J} {l : List Int} (hU : B i_is_number = some q_is_number) (hA : B i_are_towns = some q_are_towns) (hN : B i_noted = some q_noted) (hO : B i_is_order = some q_is_order) (h : JR d j) (hl : l.length ≤ 1000) :
    callN B (n + 3) i_is_order [d, .tup (l.map D.int)] S = .ok (.v (.bl (orderF j l))) S := by
  have w := h.w
  have hlen := h.len
  have l1 : (notedL j true).length ≤ 100000 := Nat.le_trans notedL_len (by omega)
  have l2 : (notedL j false).length ≤ 100000 := Nat.le_trans notedL_len (by omega)
  have i0 := h.ix0 S
  have i1 := h.ix1 S
  have n1 : callN B (n + 2) 399 [d, .str "closed"] S = .ok (.o (.l ((notedL j true).map lkD))) S := sp_noted true hN h
  have n2 : callN B (n + 2) 399 [d, .str "end"] S = .ok (.o (.l ((notedL j false).map lkD))) S := sp_noted false hN h
  have tw : callN B (n + 2) 286 [.tup (l.map D.int), .int j.n, .int j.m] S = _ := sp_towns (n := n) (c := j.n) (m := j.m) (l := l) hU hA (by omega)
  refine fcall (hO.trans rfl) rfl ?_
  show finO (b_is_order (callN B (n + 2)) [.va d, .va (.tup (l.map D.int)), .no, .no, .no] S) = _
  unfold b_is_order orderF
  cases c1 : (decide ((l.length : Int) = j.m) && l.all fun p => decide (0 ≤ p) && decide (p < j.n)) with
  | false =>
    rw [c1] at tw
    refine fseqR (r := .v (.bl false)) (S1 := S) ?_
    simp [callF, startE, finO, dSeqS, dSet, slOf, dRet, dRetN, dIfS, dSkip, dVar, dBVar, dMv, dC, fz, rv, dOp, dUn, dNil, dCons, dTup, dLst, dB, dAndT, dOrT, dNotT, dAnd, dOr, dNot, dIf, dIfR, dCall, dBlt, dOp2, dSeq, itemsOf, dFrz, frzE, dPar, rCons, rNil, setSls, dAug, dUnp, bindTg, bindTgs, wipeE, dYes, dChain, Res.bind, Res.map, R.val, O.toD, fIx_tup, fIx_lst, fIx_loc, fIx_scr, ixD, fGt_i, fLt_i, fLe_i, fGe_i, fSub_i, fIAdd_i, fMod, fDiv, fAdd, fPow, fEq, fNe, fIsN, fNotN, isNon, bLen, bList, bTuple, bAbs, bInt, bMax2, bMin2, dPutL, listSlot, isL, mutL, fPut, dIxL, dMut1, fApp, List.getElem?_cons_zero, List.getElem?_cons_succ, List.set_cons_zero, List.set_cons_succ, List.map_cons, List.map_nil, List.cons_append, List.nil_append, List.length_cons, List.length_nil, List.replicate, if_true, if_false, ite_true, ite_false, Bool.false_eq_true, reduceIte, decide_true, decide_false, Option.map_some, Option.bind_some, i0, i1, tw]
  | true =>
    rw [c1] at tw
    have ll : l.length ≤ 1000 := hl
    by_cases c2 : ((usort l).length : Int) = j.m
    · refine fseq (e := [.va d, .va (.tup (l.map D.int)), .no, .no, .no]) (S1 := S) ?_ ?_
      · simp [callF, startE, finO, dSeqS, dSet, slOf, dRet, dRetN, dIfS, dSkip, dVar, dBVar, dMv, dC, fz, rv, dOp, dUn, dNil, dCons, dTup, dLst, dB, dAndT, dOrT, dNotT, dAnd, dOr, dNot, dIf, dIfR, dCall, dBlt, dOp2, dSeq, itemsOf, dFrz, frzE, dPar, rCons, rNil, setSls, dAug, dUnp, bindTg, bindTgs, wipeE, dYes, dChain, Res.bind, Res.map, R.val, O.toD, fIx_tup, fIx_lst, fIx_loc, fIx_scr, ixD, fGt_i, fLt_i, fLe_i, fGe_i, fSub_i, fIAdd_i, fMod, fDiv, fAdd, fPow, fEq, fNe, fIsN, fNotN, isNon, bLen, bList, bTuple, bAbs, bInt, bMax2, bMin2, dPutL, listSlot, isL, mutL, fPut, dIxL, dMut1, fApp, List.getElem?_cons_zero, List.getElem?_cons_succ, List.set_cons_zero, List.set_cons_succ, List.map_cons, List.map_nil, List.cons_append, List.nil_append, List.length_cons, List.length_nil, List.replicate, if_true, if_false, ite_true, ite_false, Bool.false_eq_true, reduceIte, decide_true, decide_false, Option.map_some, Option.bind_some, i0, i1, tw, dLenSet, seqInts, intsOf_map, ll, fitN, deq_ii, c2]
      have llen : (l.length : Int) = j.m := by
        rw [Bool.and_eq_true] at c1
        exact of_decide_eq_true c1.1
      have inr : ∀ (k : Bool), ∀ x ∈ notedL j k, 0 ≤ x.1 ∧ x.1 < j.m := fun k x hx => by
        unfold notedL at hx
        obtain ⟨y, hy, rfl⟩ := List.mem_map.mp hx
        have := w.inr y (List.mem_filter.mp hy).1
        exact ⟨this.1, this.2.1⟩
      have cp1 := comp_all (own := [2, 4]) (tg := .tp [(.nm 2), (.nm 4)]) (de := fz (dOp fEq (fz (dOp fIx (dBVar 1) (dBVar 2))) (dBVar 4))) (env := [.va d, .va (.tup (l.map D.int)), .no, .no, .no]) (S := S) (S1 := S) (di := dSeq (fz (dCall (callN B (n + 2)) 399 (dCons (dVar 0) (dCons (dC (.str "closed")) dNil))))) (notedL j true) lkD (fun x => .bl (decide (l[x.1.toNat]? = some x.2))) (by simp [callF, startE, finO, dSeqS, dSet, slOf, dRet, dRetN, dIfS, dSkip, dVar, dBVar, dMv, dC, fz, rv, dOp, dUn, dNil, dCons, dTup, dLst, dB, dAndT, dOrT, dNotT, dAnd, dOr, dNot, dIf, dIfR, dCall, dBlt, dOp2, dSeq, itemsOf, dFrz, frzE, dPar, rCons, rNil, setSls, dAug, dUnp, bindTg, bindTgs, wipeE, dYes, dChain, Res.bind, Res.map, R.val, O.toD, fIx_tup, fIx_lst, fIx_loc, fIx_scr, ixD, fGt_i, fLt_i, fLe_i, fGe_i, fSub_i, fIAdd_i, fMod, fDiv, fAdd, fPow, fEq, fNe, fIsN, fNotN, isNon, bLen, bList, bTuple, bAbs, bInt, bMax2, bMin2, dPutL, listSlot, isL, mutL, fPut, dIxL, dMut1, fApp, List.getElem?_cons_zero, List.getElem?_cons_succ, List.set_cons_zero, List.set_cons_succ, List.map_cons, List.map_nil, List.cons_append, List.nil_append, List.length_cons, List.length_nil, List.replicate, if_true, if_false, ite_true, ite_false, Bool.false_eq_true, reduceIte, decide_true, decide_false, Option.map_some, Option.bind_some, n1]) l1 fun x hx => ⟨[.va d, .va (.tup (l.map D.int)), .va (.int x.1), .no, .va (.int x.2)], by simp [callF, startE, finO, dSeqS, dSet, slOf, dRet, dRetN, dIfS, dSkip, dVar, dBVar, dMv, dC, fz, rv, dOp, dUn, dNil, dCons, dTup, dLst, dB, dAndT, dOrT, dNotT, dAnd, dOr, dNot, dIf, dIfR, dCall, dBlt, dOp2, dSeq, itemsOf, dFrz, frzE, dPar, rCons, rNil, setSls, dAug, dUnp, bindTg, bindTgs, wipeE, dYes, dChain, Res.bind, Res.map, R.val, O.toD, fIx_tup, fIx_lst, fIx_loc, fIx_scr, ixD, fGt_i, fLt_i, fLe_i, fGe_i, fSub_i, fIAdd_i, fMod, fDiv, fAdd, fPow, fEq, fNe, fIsN, fNotN, isNon, bLen, bList, bTuple, bAbs, bInt, bMax2, bMin2, dPutL, listSlot, isL, mutL, fPut, dIxL, dMut1, fApp, List.getElem?_cons_zero, List.getElem?_cons_succ, List.set_cons_zero, List.set_cons_succ, List.map_cons, List.map_nil, List.cons_append, List.nil_append, List.length_cons, List.length_nil, List.replicate, if_true, if_false, ite_true, ite_false, Bool.false_eq_true, reduceIte, decide_true, decide_false, Option.map_some, Option.bind_some, lkD], by
        have hx := inr true x hx
        have hi : x.1.toNat < l.length := by omega
        have e : l[x.1.toNat]? = some l[x.1.toNat] := List.getElem?_eq_getElem hi
        simp [callF, startE, finO, dSeqS, dSet, slOf, dRet, dRetN, dIfS, dSkip, dVar, dBVar, dMv, dC, fz, rv, dOp, dUn, dNil, dCons, dTup, dLst, dB, dAndT, dOrT, dNotT, dAnd, dOr, dNot, dIf, dIfR, dCall, dBlt, dOp2, dSeq, itemsOf, dFrz, frzE, dPar, rCons, rNil, setSls, dAug, dUnp, bindTg, bindTgs, wipeE, dYes, dChain, Res.bind, Res.map, R.val, O.toD, fIx_tup, fIx_lst, fIx_loc, fIx_scr, ixD, fGt_i, fLt_i, fLe_i, fGe_i, fSub_i, fIAdd_i, fMod, fDiv, fAdd, fPow, fEq, fNe, fIsN, fNotN, isNon, bLen, bList, bTuple, bAbs, bInt, bMax2, bMin2, dPutL, listSlot, isL, mutL, fPut, dIxL, dMut1, fApp, List.getElem?_cons_zero, List.getElem?_cons_succ, List.set_cons_zero, List.set_cons_succ, List.map_cons, List.map_nil, List.cons_append, List.nil_append, List.length_cons, List.length_nil, List.replicate, if_true, if_false, ite_true, ite_false, Bool.false_eq_true, reduceIte, decide_true, decide_false, Option.map_some, Option.bind_some, hx.1, e, fitN, deq_ii]⟩
      have cp2 := comp_all (own := [2, 3]) (tg := .tp [(.nm 2), (.nm 3)]) (de := fz (dOp fNotIn (dBVar 3) (fz (dSl (dBVar 1) oNone (oSome (fz (dOp fAdd (dBVar 2) (dC (.int 1))))))))) (env := [.va d, .va (.tup (l.map D.int)), .no, .no, .no]) (S := S) (S1 := S) (di := dSeq (fz (dCall (callN B (n + 2)) 399 (dCons (dVar 0) (dCons (dC (.str "end")) dNil))))) (notedL j false) lkD (fun x => .bl (!decide (x.2 ∈ l.take (x.1.toNat + 1)))) (by simp [callF, startE, finO, dSeqS, dSet, slOf, dRet, dRetN, dIfS, dSkip, dVar, dBVar, dMv, dC, fz, rv, dOp, dUn, dNil, dCons, dTup, dLst, dB, dAndT, dOrT, dNotT, dAnd, dOr, dNot, dIf, dIfR, dCall, dBlt, dOp2, dSeq, itemsOf, dFrz, frzE, dPar, rCons, rNil, setSls, dAug, dUnp, bindTg, bindTgs, wipeE, dYes, dChain, Res.bind, Res.map, R.val, O.toD, fIx_tup, fIx_lst, fIx_loc, fIx_scr, ixD, fGt_i, fLt_i, fLe_i, fGe_i, fSub_i, fIAdd_i, fMod, fDiv, fAdd, fPow, fEq, fNe, fIsN, fNotN, isNon, bLen, bList, bTuple, bAbs, bInt, bMax2, bMin2, dPutL, listSlot, isL, mutL, fPut, dIxL, dMut1, fApp, List.getElem?_cons_zero, List.getElem?_cons_succ, List.set_cons_zero, List.set_cons_succ, List.map_cons, List.map_nil, List.cons_append, List.nil_append, List.length_cons, List.length_nil, List.replicate, if_true, if_false, ite_true, ite_false, Bool.false_eq_true, reduceIte, decide_true, decide_false, Option.map_some, Option.bind_some, n2]) l2 fun x hx => ⟨[.va d, .va (.tup (l.map D.int)), .va (.int x.1), .va (.int x.2), .no], by simp [callF, startE, finO, dSeqS, dSet, slOf, dRet, dRetN, dIfS, dSkip, dVar, dBVar, dMv, dC, fz, rv, dOp, dUn, dNil, dCons, dTup, dLst, dB, dAndT, dOrT, dNotT, dAnd, dOr, dNot, dIf, dIfR, dCall, dBlt, dOp2, dSeq, itemsOf, dFrz, frzE, dPar, rCons, rNil, setSls, dAug, dUnp, bindTg, bindTgs, wipeE, dYes, dChain, Res.bind, Res.map, R.val, O.toD, fIx_tup, fIx_lst, fIx_loc, fIx_scr, ixD, fGt_i, fLt_i, fLe_i, fGe_i, fSub_i, fIAdd_i, fMod, fDiv, fAdd, fPow, fEq, fNe, fIsN, fNotN, isNon, bLen, bList, bTuple, bAbs, bInt, bMax2, bMin2, dPutL, listSlot, isL, mutL, fPut, dIxL, dMut1, fApp, List.getElem?_cons_zero, List.getElem?_cons_succ, List.set_cons_zero, List.set_cons_succ, List.map_cons, List.map_nil, List.cons_append, List.nil_append, List.length_cons, List.length_nil, List.replicate, if_true, if_false, ite_true, ite_false, Bool.false_eq_true, reduceIte, decide_true, decide_false, Option.map_some, Option.bind_some, lkD], by
        have hx := inr false x hx
        have ct := cut_to (l.map D.int) x.1 hx.1
        rw [← List.map_take] at ct
        have fi := fNotIn_tup x.2 (l.take (x.1.toNat + 1)) S
        simp only [fz, dOp, dSl, dBVar, oNone, oSome, dC, Res.bind, Res.map, R.val, List.getElem?_cons_succ, List.getElem?_cons_zero, fAdd, fSl, ct, fi]⟩
      by_cases c3 : ((notedL j true).all fun x => decide (l[x.1.toNat]? = some x.2)) = true
      · refine fseq (e := [.va d, .va (.tup (l.map D.int)), .no, .no, .no]) (S1 := S) ?_ ?_
        · refine ifF (S1 := S) ?_ rfl
          simp only [dNotT, dB, fz, dBlt, dCons, cp1, Res.bind, Res.map, R.val, O.toD, dNil, bAll_map, c3]
          rfl
        refine fret ?_
        simp only [fz, dBlt, dCons, cp2, Res.bind, Res.map, R.val, O.toD, dNil, bAll_map, c3]
        simp [c2]
      · refine fseqR (r := .v (.bl false)) (S1 := S) ?_ |>.trans ?_
        · refine ifT (S1 := S) ?_ (nret rfl)
          have c3' := Bool.not_eq_true _ ▸ c3
          simp only [dNotT, dB, fz, dBlt, dCons, cp1, Res.bind, Res.map, R.val, O.toD, dNil, bAll_map, c3']
          rfl
        · simp only [Bool.not_eq_true] at c3
          simp [c3]
    · refine fseqR (r := .v (.bl false)) (S1 := S) ?_ |>.trans ?_
      · simp [callF, startE, finO, dSeqS, dSet, slOf, dRet, dRetN, dIfS, dSkip, dVar, dBVar, dMv, dC, fz, rv, dOp, dUn, dNil, dCons, dTup, dLst, dB, dAndT, dOrT, dNotT, dAnd, dOr, dNot, dIf, dIfR, dCall, dBlt, dOp2, dSeq, itemsOf, dFrz, frzE, dPar, rCons, rNil, setSls, dAug, dUnp, bindTg, bindTgs, wipeE, dYes, dChain, Res.bind, Res.map, R.val, O.toD, fIx_tup, fIx_lst, fIx_loc, fIx_scr, ixD, fGt_i, fLt_i, fLe_i, fGe_i, fSub_i, fIAdd_i, fMod, fDiv, fAdd, fPow, fEq, fNe, fIsN, fNotN, isNon, bLen, bList, bTuple, bAbs, bInt, bMax2, bMin2, dPutL, listSlot, isL, mutL, fPut, dIxL, dMut1, fApp, List.getElem?_cons_zero, List.getElem?_cons_succ, List.set_cons_zero, List.set_cons_succ, List.map_cons, List.map_nil, List.cons_append, List.nil_append, List.length_cons, List.length_nil, List.replicate, if_true, if_false, ite_true, ite_false, Bool.false_eq_true, reduceIte, decide_true, decide_false, Option.map_some, Option.bind_some, i0, i1, tw, dLenSet, seqInts, intsOf_map, ll, fitN, deq_ii, c2]
      · simp [c2]
end MP

namespace MP
open PySem PySem.Spec
/-! ### what a closing of a wood is like -/
theorem mem_mates {L : List Lk} {p e : Int} (h : e ∈ mates L p) : ∃ l ∈ L, touch p l = true ∧ e = other p l := by
  unfold mates at h
  obtain ⟨l, hl, rfl⟩ := List.mem_map.mp h
  obtain ⟨h1, h2⟩ := List.mem_filter.mp hl
  exact ⟨l, h1, h2, rfl⟩
theorem touch_other {p : Int} {l : Lk} (h : touch p l = true) : touch (other p l) l = true := by
  unfold touch other at *
  simp only [Bool.or_eq_true, beq_iff_eq] at *
  split
  · exact .inr rfl
  · exact .inl rfl
theorem other_ne {p : Int} {l : Lk} (h : touch p l = true) (hl : l.1 ≠ l.2) : other p l ≠ p := by
  unfold touch other at *
  simp only [Bool.or_eq_true, beq_iff_eq] at h
  split
  · rename_i c
    exact fun z => hl (c.trans z.symm)
  · rename_i c
    exact c
theorem cut_mem {L : List Lk} {q : Int} {l : Lk} (h : l ∈ cutL L q) : l ∈ L ∧ touch q l = false := by
  unfold cutL at h
  obtain ⟨h1, h2⟩ := List.mem_filter.mp h
  exact ⟨h1, by simpa using h2⟩
theorem Shut.q_touch : ∀ {Q E : List Int} {L : List Lk}, Shut L Q E → ∀ q ∈ Q, ∃ l ∈ L, touch q l = true
  | _, _, _, .nil _, q, h => by cases h
  | _, _, L, .cons a b, q, h => by
    rcases List.mem_cons.mp h with rfl | h
    · obtain ⟨l, h1, h2, _⟩ := mem_mates (L := L) (p := q) (by rw [a]; exact List.mem_cons_self)
      exact ⟨l, h1, h2⟩
    · obtain ⟨l, h1, h2⟩ := b.q_touch q h
      exact ⟨l, (cut_mem h1).1, h2⟩
theorem Shut.e_touch : ∀ {Q E : List Int} {L : List Lk}, Shut L Q E → ∀ e ∈ E, ∃ l ∈ L, touch e l = true
  | _, _, _, .nil _, q, h => by cases h
  | _, _, L, @Shut.cons _ q0 e0 _ _ a b, e, h => by
    rcases List.mem_cons.mp h with rfl | h
    · obtain ⟨l, h1, h2, h3⟩ := mem_mates (L := L) (p := q0) (e := e) (by rw [a]; exact List.mem_cons_self)
      exact ⟨l, h1, by rw [h3]; exact touch_other h2⟩
    · obtain ⟨l, h1, h2⟩ := b.e_touch e h
      exact ⟨l, (cut_mem h1).1, h2⟩
theorem Shut.nodup : ∀ {Q E : List Int} {L : List Lk}, Shut L Q E → Q.Nodup
  | _, _, _, .nil _ => List.nodup_nil
  | _, _, L, .cons a b => by
    refine List.nodup_cons.mpr ⟨fun h => ?_, b.nodup⟩
    obtain ⟨l, h1, h2⟩ := b.q_touch _ h
    rw [(cut_mem h1).2] at h2
    cases h2
theorem Shut.open_ : ∀ {Q E : List Int} {L : List Lk}, Shut L Q E → (∀ l ∈ L, l.1 ≠ l.2) → ∀ (i : Nat) (e : Int), E[i]? = some e → e ∉ Q.take (i + 1)
  | _, _, _, .nil _, _, i, e, h => by simp at h
  | _, _, L, @Shut.cons _ q0 e0 Q E a b, hne, i, e, h => by
    obtain ⟨l, h1, h2, h3⟩ := mem_mates (L := L) (p := q0) (e := e0) (by rw [a]; exact List.mem_cons_self)
    rw [List.take_succ_cons]
    intro z
    cases i with
    | zero =>
      simp at h z
      exact other_ne h2 (hne l h1) (by rw [← h3, h, z])
    | succ i =>
      have h : E[i]? = some e := by simpa using h
      rcases List.mem_cons.mp z with z | z
      · obtain ⟨m, m1, m2⟩ := b.e_touch e (List.mem_of_getElem? h)
        rw [z, (cut_mem m1).2] at m2
        cases m2
      · exact b.open_ (fun l hl => hne l (cut_mem hl).1) i e h z
/-! ### a tale: an order and ends that fit -/
structure Tale (c s : Nat) (Q E : List Int) (N : List Note) : Prop where
  sc : s + 1 ≤ c
  ql : Q.length = s
  el : E.length = s
  qr : ∀ q ∈ Q, 0 ≤ q ∧ q < c
  er : ∀ e ∈ E, 0 ≤ e ∧ e < c
  nd : Q.Nodup
  op : ∀ (i : Nat) (e : Int), E[i]? = some e → e ∉ Q.take (i + 1)
  told : Told Q E s N
theorem Story.tale {c s : Nat} {L : List Lk} {Q E : List Int} {N : List Note} (h : Story c s L Q E N) : Tale c s Q E N := by
  have c1 := h.c1
  have sc := h.sc
  refine ⟨by omega, h.ql, by rw [← h.shut.length]; exact h.ql, h.qr, fun e he => ?_, h.shut.nodup, h.shut.open_ (fun l hl => ?_), h.told⟩
  · obtain ⟨l, h1, h2⟩ := h.shut.e_touch e he
    have r := h.wood.inr l h1
    unfold touch at h2
    simp only [Bool.or_eq_true, beq_iff_eq] at h2
    rcases h2 with z | z <;> omega
  · have := (h.wood.inr l hl).2.1
    omega
/-- the journal of a tale, with k towns more -/
def jk (c s : Nat) (N : List Note) (k : Nat) : J := ⟨(c : Int) + k, s, N⟩
section
variable {c s : Nat} {Q E : List Int} {N : List Note}
theorem Tale.jw (h : Tale c s Q E N) (hc : c ≤ 50) {k : Nat} (hk : k ≤ 10) : JW (jk c s N k) := by
  have sc := h.sc
  refine ⟨by show (0 : Int) ≤ c + k; omega, by show (c : Int) + k ≤ 60; omega, by show (0 : Int) ≤ s; omega, by show (s : Int) ≤ 60; omega, fun x hx => ?_, ?_⟩
  · obtain ⟨h1, h2, h3, h4⟩ := h.told.tr x hx
    have : 0 ≤ x.v ∧ x.v < c := by
      cases hxk : x.k with
      | true => exact h.qr _ (List.mem_of_getElem? (h3 hxk))
      | false => exact h.er _ (List.mem_of_getElem? (h4 hxk))
    exact ⟨h1, h2, this.1, by show x.v < (c : Int) + k; omega⟩
  · refine h.told.so.imp fun {x y} hxy => ?_
    rintro ⟨e1, e2⟩
    rcases hxy with z | ⟨_, z1, z2⟩
    · omega
    · rw [z1, z2] at e2
      cases e2
theorem mem_noted {j : J} {k : Bool} {l : Lk} : l ∈ notedL j k ↔ ∃ x ∈ j.N, x.k = k ∧ l = (x.t, x.v) := by
  unfold notedL
  simp only [List.mem_map, List.mem_filter, beq_iff_eq]
  constructor
  · rintro ⟨x, ⟨h1, h2⟩, rfl⟩
    exact ⟨x, h1, h2, rfl⟩
  · rintro ⟨x, h1, h2, rfl⟩
    exact ⟨x, ⟨h1, h2⟩, rfl⟩
/-- what the notes tell -/
theorem Tale.closed (h : Tale c s Q E N) {k : Nat} {l : Lk} (hl : l ∈ notedL (jk c s N k) true) : 0 ≤ l.1 ∧ l.1 < s ∧ Q[l.1.toNat]? = some l.2 := by
  obtain ⟨x, hx, hk, rfl⟩ := mem_noted.mp hl
  obtain ⟨h1, h2, h3, h4⟩ := h.told.tr x hx
  exact ⟨h1, h2, h3 hk⟩
theorem Tale.ended (h : Tale c s Q E N) {k : Nat} {l : Lk} (hl : l ∈ notedL (jk c s N k) false) : 0 ≤ l.1 ∧ l.1 < s ∧ E[l.1.toNat]? = some l.2 := by
  obtain ⟨x, hx, hk, rfl⟩ := mem_noted.mp hl
  obtain ⟨h1, h2, h3, h4⟩ := h.told.tr x hx
  exact ⟨h1, h2, h4 hk⟩
theorem noted_jk (k : Nat) (b : Bool) : notedL (jk c s N k) b = notedL (jk c s N 0) b := rfl
theorem span_jk (k : Nat) (p : Int) : spanF (jk c s N k) p = spanF (jk c s N 0) p := rfl
theorem mem_came {j : J} {p t : Int} : t ∈ cameL j p ↔ (t, p) ∈ notedL j true := by
  unfold cameL
  simp only [List.mem_map, List.mem_filter, beq_iff_eq]
  constructor
  · rintro ⟨l, ⟨h1, h2⟩, rfl⟩
    rw [← h2]
    exact h1
  · intro h
    exact ⟨(t, p), ⟨h, rfl⟩, rfl⟩
theorem mem_endL {j : J} {p t : Int} : t ∈ endL j p ↔ (t - 1, p) ∈ notedL j false := by
  unfold endL
  simp only [List.mem_map, List.mem_filter, beq_iff_eq]
  constructor
  · rintro ⟨l, ⟨h1, h2⟩, rfl⟩
    have : (l.1 + 1 - 1, p) = l := by rw [← h2]; ext <;> simp <;> omega
    rw [this]
    exact h1
  · intro h
    exact ⟨(t - 1, p), ⟨h, rfl⟩, by show t - 1 + 1 = t; omega⟩
theorem maxO_mem {l : List Int} {z : Int} : (l = [] ∧ maxO l z = z) ∨ (maxO l z ∈ l ∧ ∀ y ∈ l, y ≤ maxO l z) := by
  cases l with
  | nil => exact .inl ⟨rfl, rfl⟩
  | cons x l =>
    right
    obtain ⟨h1, h2, h3⟩ := maxL_spec l x
    refine ⟨?_, fun y hy => ?_⟩
    · show maxL x l ∈ _
      rcases h1 with h | h
      · rw [h]; exact List.mem_cons_self
      · exact List.mem_cons_of_mem _ h
    · rcases List.mem_cons.mp hy with rfl | hy
      · exact h2
      · exact h3 y hy
theorem minO_mem {l : List Int} {z : Int} : (l = [] ∧ minO l z = z) ∨ (minO l z ∈ l ∧ ∀ y ∈ l, minO l z ≤ y) := by
  cases l with
  | nil => exact .inl ⟨rfl, rfl⟩
  | cons x l =>
    right
    obtain ⟨h1, h2, h3⟩ := minL_spec l x
    refine ⟨?_, fun y hy => ?_⟩
    · show minL x l ∈ _
      rcases h1 with h | h
      · rw [h]; exact List.mem_cons_self
      · exact List.mem_cons_of_mem _ h
    · rcases List.mem_cons.mp hy with rfl | hy
      · exact h2
      · exact h3 y hy
/-- a town that the order closes at i: its window holds i; if that is noted, it is (i, i) -/
theorem Tale.span (h : Tale c s Q E N) {k i : Nat} {p : Int} (hp : Q[i]? = some p) : 0 ≤ (spanF (jk c s N k) p).1 ∧ (spanF (jk c s N k) p).1 ≤ i ∧ (i : Int) ≤ (spanF (jk c s N k) p).2 ∧ (((i : Int), p) ∈ notedL (jk c s N k) true → spanF (jk c s N k) p = ((i : Int), (i : Int))) := by
  have his : i < s := by
    have := (List.getElem?_eq_some_iff.mp hp).1
    rw [h.ql] at this
    exact this
  have uniq : ∀ t ∈ cameL (jk c s N k) p, t = i := fun t ht => by
    obtain ⟨h1, h2, h3⟩ := h.closed (mem_came.mp ht)
    have e : t.toNat = i := by
      obtain ⟨l1, g1⟩ := List.getElem?_eq_some_iff.mp h3
      obtain ⟨l2, g2⟩ := List.getElem?_eq_some_iff.mp hp
      exact (List.getElem_inj h.nd).mp (g1.trans g2.symm)
    have h1 : 0 ≤ t := h1
    omega
  have below : ∀ t ∈ endL (jk c s N k) p, 1 ≤ t ∧ t ≤ i := fun t ht => by
    obtain ⟨h1, h2, h3⟩ := h.ended (mem_endL.mp ht)
    have h1 : 0 ≤ t - 1 := h1
    have op := h.op _ _ h3
    have h3' : (t - 1).toNat + 1 ≤ i := by
      rcases Nat.lt_or_ge i ((t - 1).toNat + 1) with c | c
      · exact absurd (List.mem_of_getElem? (by rw [List.getElem?_take_of_lt c]; exact hp)) op
      · exact c
    omega
  have all : ∀ t ∈ endL (jk c s N k) p ++ cameL (jk c s N k) p, 0 ≤ t ∧ t ≤ i := fun t ht => by
    rcases List.mem_append.mp ht with ht | ht
    · have := below t ht
      omega
    · have := uniq t ht
      omega
  have f1 : 0 ≤ (spanF (jk c s N k) p).1 ∧ (spanF (jk c s N k) p).1 ≤ i := by
    rcases maxO_mem (l := endL (jk c s N k) p ++ cameL (jk c s N k) p) (z := 0) with ⟨_, e⟩ | ⟨e, _⟩
    · show 0 ≤ maxO _ 0 ∧ maxO _ 0 ≤ _
      rw [e]
      omega
    · exact all _ e
  have f2 : (i : Int) ≤ (spanF (jk c s N k) p).2 := by
    rcases minO_mem (l := cameL (jk c s N k) p) (z := (s : Int) - 1) with ⟨_, e⟩ | ⟨e, _⟩
    · show _ ≤ minO _ ((s : Int) - 1)
      rw [e]
      omega
    · have := uniq _ e
      show _ ≤ minO _ ((s : Int) - 1)
      omega
  refine ⟨f1.1, f1.2, f2, fun hm => ?_⟩
  have hc : (i : Int) ∈ cameL (jk c s N k) p := mem_came.mpr hm
  have g1 : (i : Int) ≤ (spanF (jk c s N k) p).1 := by
    rcases maxO_mem (l := endL (jk c s N k) p ++ cameL (jk c s N k) p) (z := 0) with ⟨e, _⟩ | ⟨_, e⟩
    · have : (i : Int) ∈ endL (jk c s N k) p ++ cameL (jk c s N k) p := List.mem_append_right _ hc
      rw [e] at this
      cases this
    · exact e _ (List.mem_append_right _ hc)
  have g2 : (spanF (jk c s N k) p).2 ≤ i := by
    rcases minO_mem (l := cameL (jk c s N k) p) (z := (s : Int) - 1) with ⟨e, _⟩ | ⟨_, e⟩
    · rw [e] at hc
      cases hc
    · exact e _ hc
  ext
  · show (spanF (jk c s N k) p).1 = i
    omega
  · show (spanF (jk c s N k) p).2 = i
    omega
/-- a town without notes may be closed at any time -/
theorem span_free {j : J} {p : Int} (h : ∀ x ∈ j.N, x.v ≠ p) : spanF j p = (0, j.m - 1) := by
  have e1 : cameL j p = [] := List.eq_nil_iff_forall_not_mem.mpr fun t ht => by
    obtain ⟨x, hx, _, e⟩ := mem_noted.mp (mem_came.mp ht)
    exact h x hx (congrArg (·.2) e).symm
  have e2 : endL j p = [] := List.eq_nil_iff_forall_not_mem.mpr fun t ht => by
    obtain ⟨x, hx, _, e⟩ := mem_noted.mp (mem_endL.mp ht)
    exact h x hx (congrArg (·.2) e).symm
  unfold spanF
  rw [e1, e2]
  rfl
theorem Tale.sound (h : Tale c s Q E N) (k : Nat) : soundF (jk c s N k) = true := by
  unfold soundF
  rw [List.all_eq_true]
  intro l hl
  obtain ⟨h1, h2, h3⟩ := h.closed hl
  have e : ((l.1.toNat : Nat) : Int) = l.1 := by omega
  have := (h.span (k := k) h3).2.2.2 (by rw [e]; exact hl)
  rw [e] at this
  simpa using this
end
end MP

namespace MP
open PySem PySem.Spec
/-! ### the count as a product -/
def cntLe (st : List Int) (t : Int) : Int := ((st.filter fun x => decide (x ≤ t)).length : Int)
/-- k towns more, u times before -/
def prodK (st : List Int) (k : Int) : Int → List Int → Int
  | _, [] => 1
  | u, t :: ts => pos0 (cntLe st t + k - u) * prodK st k (u + 1) ts
theorem fold_prod (tk st : List Int) : ∀ (l : List Int) (a : Int × Int), (l.foldl (cntStep tk st) a).1 = a.1 * prodK st 0 a.2 (l.filter fun t => !decide (t ∈ tk))
  | [], a => by simp [prodK]
  | t :: l, a => by
    rw [List.foldl_cons, fold_prod tk st l]
    by_cases c : t ∈ tk
    · have e : cntStep tk st a t = a := by unfold cntStep; rw [if_pos c]
      rw [e, List.filter_cons_of_neg (by simp [c])]
    · have e : cntStep tk st a t = (a.1 * pos0 (cntLe st t - a.2), a.2 + 1) := by unfold cntStep; rw [if_neg c]; rfl
      rw [e, List.filter_cons_of_pos (by simp [c])]
      show a.1 * pos0 (cntLe st t - a.2) * prodK st 0 (a.2 + 1) _ = a.1 * (pos0 (cntLe st t + 0 - a.2) * prodK st 0 (a.2 + 1) _)
      rw [Int.add_zero, Int.mul_assoc]
theorem prod_shift {st st' : List Int} {k k' : Int} : ∀ (ts : List Int) (u : Int), (∀ t ∈ ts, cntLe st t + k = cntLe st' t + k') → prodK st k u ts = prodK st' k' u ts
  | [], _, _ => rfl
  | t :: ts, u, h => by
    unfold prodK
    rw [h t List.mem_cons_self, prod_shift ts (u + 1) fun x hx => h x (List.mem_cons_of_mem _ hx)]
theorem pos0_pos {x : Int} (h : 1 ≤ x) : pos0 x = x := by unfold pos0; rw [if_pos (by omega)]
/-- growth by towns more -/
theorem prod_conv (st : List Int) : ∀ (ts : List Int) (u : Int), (∀ (i : Nat) (t : Int), ts[i]? = some t → u + i + 1 ≤ cntLe st t) →
    1 ≤ prodK st 0 u ts ∧ prodK st 0 u ts ≤ prodK st 1 u ts ∧ prodK st 1 u ts ≤ prodK st 2 u ts ∧ 0 ≤ prodK st 2 u ts - 2 * prodK st 1 u ts + prodK st 0 u ts ∧ (prodK st 1 u ts = prodK st 0 u ts → prodK st 2 u ts - 2 * prodK st 1 u ts + prodK st 0 u ts = 0)
  | [], u, _ => by simp [prodK]
  | t :: ts, u, h => by
    have h0 := h 0 t rfl
    obtain ⟨a1, a2, a3, a4, a5⟩ := prod_conv st ts (u + 1) fun i t' e => by
      have := h (i + 1) t' (by simpa using e)
      have e : ((i + 1 : Nat) : Int) = i + 1 := by omega
      rw [e] at this
      omega
    have hb : 1 ≤ cntLe st t - u := by
      have : ((0 : Nat) : Int) = 0 := rfl
      rw [this] at h0
      omega
    unfold prodK
    rw [pos0_pos (by omega), pos0_pos (by omega), pos0_pos (by omega)]
    generalize cntLe st t = q at hb
    obtain ⟨b, rfl⟩ : ∃ b, q = b + u := ⟨q - u, by omega⟩
    have hb : 1 ≤ b := by omega
    have e0 : b + u + 0 - u = b := by omega
    have e1 : b + u + 1 - u = b + 1 := by omega
    have e2 : b + u + 2 - u = b + 2 := by omega
    rw [e0, e1, e2]
    generalize prodK st 0 (u + 1) ts = p0 at *
    generalize prodK st 1 (u + 1) ts = p1 at *
    generalize prodK st 2 (u + 1) ts = p2 at *
    have m0 : b * p0 ≤ b * p1 := Int.mul_le_mul_of_nonneg_left a2 (by omega)
    have m1 : b * p1 ≤ b * p2 := Int.mul_le_mul_of_nonneg_left a3 (by omega)
    have m2 : 1 ≤ b * p0 := by
      have := Int.mul_le_mul hb a1 (by decide) (by omega)
      simpa using this
    have x1 : (b + 1) * p1 = b * p1 + p1 := by rw [Int.add_mul, Int.one_mul]
    have x2 : (b + 2) * p2 = b * p2 + 2 * p2 := by rw [Int.add_mul]
    have x3 : 0 ≤ b * (p2 - 2 * p1 + p0) := Int.mul_nonneg (by omega) a4
    have x4 : b * (p2 - 2 * p1 + p0) = b * p2 - 2 * (b * p1) + b * p0 := by
      rw [Int.mul_add, Int.mul_sub, Int.mul_left_comm]
    rw [x1, x2]
    refine ⟨m2, by omega, by omega, by omega, fun z => ?_⟩
    omega
/-! ### bounds -/
theorem pos0_le {x K : Int} (h : x ≤ K) (hK : 0 ≤ K) : 0 ≤ pos0 x ∧ pos0 x ≤ K := by
  unfold pos0
  split <;> omega
theorem cnt_bound (tk st : List Int) {K : Nat} (hK : 1 ≤ K) (hs : st.length ≤ K) : ∀ (l : List Int) (a : Int × Int), 0 ≤ a.2 → ((l.foldl (cntStep tk st) a).1).natAbs ≤ a.1.natAbs * K ^ l.length
  | [], a, _ => by simp
  | t :: l, a, h => by
    rw [List.foldl_cons]
    by_cases c : t ∈ tk
    · have e : cntStep tk st a t = a := by unfold cntStep; rw [if_pos c]
      rw [e]
      refine Nat.le_trans (cnt_bound tk st hK hs l a h) (Nat.mul_le_mul_left _ ?_)
      rw [List.length_cons]
      exact Nat.pow_le_pow_right hK (Nat.le_succ _)
    · have e : cntStep tk st a t = (a.1 * pos0 (cntLe st t - a.2), a.2 + 1) := by unfold cntStep; rw [if_neg c]; rfl
      rw [e]
      refine Nat.le_trans (cnt_bound tk st hK hs l _ (by show 0 ≤ a.2 + 1; omega)) ?_
      have lf := List.length_filter_le (fun x => decide (x ≤ t)) st
      have p := pos0_le (x := cntLe st t - a.2) (K := K) (by unfold cntLe; omega) (by omega)
      show (a.1 * pos0 (cntLe st t - a.2)).natAbs * K ^ l.length ≤ _
      rw [Int.natAbs_mul, List.length_cons, Nat.pow_succ, Nat.mul_comm (K ^ l.length) K, ← Nat.mul_assoc]
      refine Nat.mul_le_mul_right _ (Nat.mul_le_mul_left _ ?_)
      omega

theorem lost_bound (tk : List Int) (f : Int → Int) {K : Nat} (hK : 1 ≤ K) : ∀ (l : List Int) (a : Int), (∀ t ∈ l, (f t).natAbs ≤ K) → (l.foldl (fun a t => if t ∈ tk then a else a * f t) a).natAbs ≤ a.natAbs * K ^ l.length
  | [], a, _ => by simp
  | t :: l, a, h => by
    rw [List.foldl_cons]
    have hl : ∀ t ∈ l, (f t).natAbs ≤ K := fun x hx => h x (List.mem_cons_of_mem _ hx)
    by_cases c : t ∈ tk
    · rw [if_pos c]
      refine Nat.le_trans (lost_bound tk f hK l a hl) (Nat.mul_le_mul_left _ ?_)
      exact Nat.pow_le_pow_right hK (Nat.le_succ _)
    · rw [if_neg c]
      refine Nat.le_trans (lost_bound tk f hK l _ hl) ?_
      rw [Int.natAbs_mul, List.length_cons, Nat.pow_succ, Nat.mul_comm (K ^ l.length) K, ← Nat.mul_assoc]
      exact Nat.mul_le_mul_right _ (Nat.mul_le_mul_left _ (h t List.mem_cons_self))
theorem big60 : 200 ^ 60 < big := by unfold big; decide +kernel
theorem pow60 {n : Nat} (h : n ≤ 60) : 200 ^ n < big := Nat.lt_of_le_of_lt (Nat.pow_le_pow_right (by decide) h) big60
theorem count_big {j : J} (w : JW j) : (countF j).natAbs < big := by
  unfold countF
  split
  · have hm := w.m1
    have := cnt_bound (timesF j true) (startsF j) (K := 200) (by decide) (Nat.le_trans (startsF_len w) (by decide)) (rng j.m.toNat) (1, 0) (by decide)
    rw [rng_len] at this
    refine Nat.lt_of_le_of_lt this ?_
    show 1 * _ < _
    rw [Nat.one_mul]
    exact pow60 (by omega)
  · exact Nat.lt_trans (by decide) big_gt
theorem lost_big {j : J} (w : JW j) : (lostF j).natAbs < big := by
  unfold lostF
  have hm := w.m1
  have hm0 := w.m0
  have hn := w.n1
  have hn0 := w.n0
  have := lost_bound (timesF j false) (fun t => j.n - 1 - t) (K := 200) (by decide) (rng j.m.toNat) 1 fun t ht => by
    have := mem_rng.mp ht
    show (j.n - 1 - t).natAbs ≤ 200
    omega
  rw [rng_len] at this
  refine Nat.lt_of_le_of_lt this ?_
  show 1 * _ < _
  rw [Nat.one_mul]
  exact pow60 (by omega)
theorem mulOk_big {i k : Int} (h1 : i.natAbs < big) (h2 : k.natAbs < big) : mulOk i k = true := by
  unfold mulOk
  simp [h1, h2]
theorem mulOk_cl {j : J} (w : JW j) : mulOk (countF j) (lostF j) = true := mulOk_big (count_big w) (lost_big w)
/-! ### the counts of a tale -/
theorem rng_succ (n : Nat) : rng (n + 1) = rng n ++ [(n : Int)] := by
  unfold rng
  rw [List.range_succ, List.map_append]
  rfl
section
variable {c s : Nat} {Q E : List Int} {N : List Note}
theorem Tale.town (h : Tale c s Q E N) {k : Nat} {p : Int} (hp : p ∈ townsF (jk c s N k)) : ∃ t : Nat, (t : Int) ∈ timesF (jk c s N k) true ∧ Q[t]? = some p := by
  unfold townsF at hp
  obtain ⟨l, hl, rfl⟩ := List.mem_map.mp hp
  obtain ⟨h1, h2, h3⟩ := h.closed hl
  refine ⟨l.1.toNat, ?_, h3⟩
  have e : ((l.1.toNat : Nat) : Int) = l.1 := by omega
  rw [e]
  exact List.mem_map_of_mem hl
theorem Tale.note_lt (h : Tale c s Q E N) {x : Note} (hx : x ∈ N) : 0 ≤ x.v ∧ x.v < c := by
  obtain ⟨h1, h2, h3, h4⟩ := h.told.tr x hx
  cases hxk : x.k with
  | true => exact h.qr _ (List.mem_of_getElem? (h3 hxk))
  | false => exact h.er _ (List.mem_of_getElem? (h4 hxk))
theorem Tale.span_more (h : Tale c s Q E N) {k : Nat} {p : Int} (hp : (c : Int) ≤ p) : spanF (jk c s N k) p = (0, (s : Int) - 1) :=
  span_free (j := jk c s N k) fun x hx e => by
    have := (h.note_lt hx).2
    omega
theorem Tale.starts_succ (h : Tale c s Q E N) (k : Nat) : startsF (jk c s N (k + 1)) = startsF (jk c s N k) ++ [0] := by
  have e1 : (jk c s N (k + 1)).n.toNat = (jk c s N k).n.toNat + 1 := by
    show ((c : Int) + (k + 1 : Nat)).toNat = ((c : Int) + k).toNat + 1
    omega
  have e2 : (((jk c s N k).n.toNat : Nat) : Int) = (c : Int) + k := by
    show ((((c : Int) + k).toNat : Nat) : Int) = _
    omega
  unfold startsF
  rw [e1, rng_succ, List.filter_append, List.map_append]
  congr 1
  rw [e2]
  have nt : ¬ ((c : Int) + k) ∈ townsF (jk c s N (k + 1)) := fun z => by
    obtain ⟨t, _, ht⟩ := h.town z
    have := (h.qr _ (List.mem_of_getElem? ht)).2
    omega
  rw [List.filter_cons_of_pos (by simp [nt])]
  simp [h.span_more (k := k + 1) (p := (c : Int) + k) (by omega)]
theorem Tale.cnt_more (h : Tale c s Q E N) {t : Int} (ht : 0 ≤ t) : ∀ k : Nat, cntLe (startsF (jk c s N k)) t = cntLe (startsF (jk c s N 0)) t + k
  | 0 => by simp
  | k + 1 => by
    rw [h.starts_succ k]
    have ih := h.cnt_more ht k
    unfold cntLe at ih ⊢
    rw [List.filter_append, List.length_append]
    have : ([(0 : Int)].filter fun x => decide (x ≤ t)) = [0] := by simp [ht]
    rw [this]
    simp only [List.length_cons, List.length_nil]
    omega
/-- the times that no note of a closing holds -/
def frT (s : Nat) (tk : List Int) : List Int := (rng s).filter fun t => !decide (t ∈ tk)
theorem Tale.room (h : Tale c s Q E N) (i : Nat) (t : Int) (ht : (frT s (timesF (jk c s N 0) true))[i]? = some t) : 0 ≤ t ∧ (i : Int) + 1 ≤ cntLe (startsF (jk c s N 0)) t := by
  have hs : ∀ x ∈ frT s (timesF (jk c s N 0) true), 0 ≤ x ∧ x < s ∧ x ∉ timesF (jk c s N 0) true := fun x hx => by
    unfold frT at hx
    obtain ⟨h1, h2⟩ := List.mem_filter.mp hx
    have := mem_rng.mp h1
    exact ⟨this.1, this.2, by simpa using h2⟩
  have inc : (frT s (timesF (jk c s N 0) true)).Pairwise (· < ·) := by
    unfold frT
    refine List.Pairwise.sublist List.filter_sublist ?_
    unfold rng
    rw [List.pairwise_map]
    exact List.pairwise_lt_range.imp fun h => by omega
  have h0 := hs t (List.mem_of_getElem? ht)
  refine ⟨h0.1, ?_⟩
  have hi := (List.getElem?_eq_some_iff.mp ht).1
  generalize hfr : frT s (timesF (jk c s N 0) true) = fr at *
  -- the towns that the order closes at these times
  have qAt : ∀ x ∈ fr, ∃ p, Q[x.toNat]? = some p := fun x hx => by
    have := hs x hx
    exact ⟨_, List.getElem?_eq_getElem (by rw [h.ql]; omega)⟩
  have lenA : ((fr.take (i + 1)).map fun x => Q.getD x.toNat 0).length = i + 1 := by
    rw [List.length_map, List.length_take]
    omega
  have ndA : ((fr.take (i + 1)).map fun x => Q.getD x.toNat 0).Nodup := by
    unfold List.Nodup
    rw [List.pairwise_map]
    have sub : (fr.take (i + 1)).Sublist fr := List.take_sublist _ _
    rw [List.pairwise_iff_forall_sublist]
    intro a b hab
    have lt := List.pairwise_iff_forall_sublist.mp (inc.sublist sub) hab
    have ha := sub.subset (hab.subset (show a ∈ [a, b] by simp))
    have hb := sub.subset (hab.subset (show b ∈ [a, b] by simp))
    obtain ⟨p, hp⟩ := qAt a ha
    obtain ⟨q, hq⟩ := qAt b hb
    have ra := hs a ha
    have rb := hs b hb
    intro e
    rw [List.getD_eq_getElem?_getD, List.getD_eq_getElem?_getD, hp, hq] at e
    have e : p = q := e
    subst e
    obtain ⟨l1, g1⟩ := List.getElem?_eq_some_iff.mp hp
    obtain ⟨l2, g2⟩ := List.getElem?_eq_some_iff.mp hq
    have := (List.getElem_inj h.nd).mp (g1.trans g2.symm)
    omega
  have subB : ∀ p ∈ (fr.take (i + 1)).map fun x => Q.getD x.toNat 0, p ∈ ((rng (jk c s N 0).n.toNat).filter fun p => !decide (p ∈ townsF (jk c s N 0))).filter fun p => decide ((spanF (jk c s N 0) p).1 ≤ t) := fun p hp => by
    obtain ⟨x, hx, rfl⟩ := List.mem_map.mp hp
    obtain ⟨m, hm⟩ := List.mem_iff_getElem?.mp hx
    have hxfr : x ∈ fr := (List.take_sublist _ _).subset hx
    have rx := hs x hxfr
    obtain ⟨p, hp⟩ := qAt x hxfr
    rw [List.getD_eq_getElem?_getD, hp]
    show p ∈ _
    have hpr := h.qr _ (List.mem_of_getElem? hp)
    have sp := h.span (k := 0) hp
    have hxt : x ≤ t := by
      have hml : m < (fr.take (i + 1)).length := (List.getElem?_eq_some_iff.mp hm).1
      rw [List.length_take] at hml
      have hm2 : fr[m]? = some x := by rw [← hm, List.getElem?_take_of_lt (by omega)]
      rcases Nat.lt_or_ge m i with c1 | c1
      · obtain ⟨l1, g1⟩ := List.getElem?_eq_some_iff.mp hm2
        obtain ⟨l2, g2⟩ := List.getElem?_eq_some_iff.mp ht
        have := List.pairwise_iff_getElem.mp inc m i l1 l2 c1
        rw [g1, g2] at this
        omega
      · have : m = i := by omega
        subst this
        rw [hm2] at ht
        cases ht
        exact Int.le_refl _
    refine List.mem_filter.mpr ⟨List.mem_filter.mpr ⟨mem_rng.mpr ⟨hpr.1, ?_⟩, ?_⟩, ?_⟩
    · show p < ((((c : Int) + (0 : Nat)).toNat : Nat) : Int)
      omega
    · simp only [Bool.not_eq_true', decide_eq_false_iff_not]
      intro z
      obtain ⟨t', h1, h2⟩ := h.town z
      obtain ⟨l1, g1⟩ := List.getElem?_eq_some_iff.mp hp
      obtain ⟨l2, g2⟩ := List.getElem?_eq_some_iff.mp h2
      have := (List.getElem_inj h.nd).mp (g1.trans g2.symm)
      have e : (t' : Int) = x := by omega
      rw [e] at h1
      exact rx.2.2 h1
    · simp only [decide_eq_true_eq]
      omega
  have := nodup_sub_len ndA subB
  rw [lenA] at this
  unfold cntLe startsF
  rw [List.filter_map, List.length_map]
  have e : (List.filter ((fun x => decide (x ≤ t)) ∘ fun p => (spanF (jk c s N 0) p).1) ((rng (jk c s N 0).n.toNat).filter fun p => !decide (p ∈ townsF (jk c s N 0)))) = ((rng (jk c s N 0).n.toNat).filter fun p => !decide (p ∈ townsF (jk c s N 0))).filter fun p => decide ((spanF (jk c s N 0) p).1 ≤ t) := rfl
  rw [e]
  omega
/-- the count of a tale's journal with k towns more -/
theorem Tale.count (h : Tale c s Q E N) (k : Nat) : countF (jk c s N k) = prodK (startsF (jk c s N 0)) k 0 (frT s (timesF (jk c s N 0) true)) := by
  unfold countF
  rw [if_pos (h.sound k), fold_prod]
  have e : (jk c s N k).m.toNat = s := by show ((s : Int)).toNat = s; omega
  rw [e]
  show 1 * prodK _ 0 0 (frT s (timesF (jk c s N 0) true)) = _
  rw [Int.one_mul]
  refine prod_shift _ _ fun t ht => ?_
  obtain ⟨i, hi⟩ := List.mem_iff_getElem?.mp ht
  rw [h.cnt_more (h.room i t hi).1 k]
  omega
theorem Tale.counts (h : Tale c s Q E N) : 1 ≤ countF (jk c s N 0) ∧ countF (jk c s N 0) ≤ countF (jk c s N 1) ∧ 0 ≤ countF (jk c s N 2) - 2 * countF (jk c s N 1) + countF (jk c s N 0) ∧ (countF (jk c s N 1) = countF (jk c s N 0) → countF (jk c s N 2) - 2 * countF (jk c s N 1) + countF (jk c s N 0) = 0) := by
  rw [h.count 0, h.count 1, h.count 2]
  obtain ⟨a1, a2, a3, a4, a5⟩ := prod_conv (startsF (jk c s N 0)) (frT s (timesF (jk c s N 0) true)) 0 fun i t e => by
    have := (h.room i t e).2
    omega
  exact ⟨a1, a2, a4, a5⟩
/-! ### the lost ways of a tale -/
theorem lost_mono (tk : List Int) (f g : Int → Int) : ∀ (l : List Int) (a b : Int), 1 ≤ a → a ≤ b → (∀ t ∈ l, 1 ≤ f t ∧ f t ≤ g t) → 1 ≤ l.foldl (fun a t => if t ∈ tk then a else a * f t) a ∧ l.foldl (fun a t => if t ∈ tk then a else a * f t) a ≤ l.foldl (fun a t => if t ∈ tk then a else a * g t) b
  | [], a, b, h1, h2, _ => ⟨h1, h2⟩
  | t :: l, a, b, h1, h2, h => by
    rw [List.foldl_cons, List.foldl_cons]
    have hl : ∀ t ∈ l, 1 ≤ f t ∧ f t ≤ g t := fun x hx => h x (List.mem_cons_of_mem _ hx)
    by_cases c : t ∈ tk
    · rw [if_pos c, if_pos c]
      exact lost_mono tk f g l a b h1 h2 hl
    · rw [if_neg c, if_neg c]
      obtain ⟨f1, f2⟩ := h t List.mem_cons_self
      refine lost_mono tk f g l _ _ ?_ ?_ hl
      · have := Int.mul_le_mul h1 f1 (by decide) (by omega)
        simpa using this
      · exact Int.mul_le_mul h2 f2 (by omega) (by omega)
theorem Tale.lost (h : Tale c s Q E N) : 1 ≤ lostF (jk c s N 0) ∧ lostF (jk c s N 0) ≤ lostF (jk c s N 1) := by
  have sc := h.sc
  refine lost_mono (timesF (jk c s N 0) false) (fun t => (jk c s N 0).n - 1 - t) (fun t => (jk c s N 1).n - 1 - t) (rng (jk c s N 0).m.toNat) 1 1 (by decide) (by decide) fun t ht => ?_
  have := mem_rng.mp ht
  have e : (jk c s N 0).m.toNat = s := by show ((s : Int)).toNat = s; omega
  rw [e] at this
  show 1 ≤ (c : Int) + (0 : Nat) - 1 - t ∧ (c : Int) + (0 : Nat) - 1 - t ≤ (c : Int) + (1 : Nat) - 1 - t
  omega
end
end MP

namespace MP
open PySem PySem.Spec
theorem usort_len {l : List Int} (h : l.Nodup) : (usort l).length = l.length :=
  ((List.perm_ext_iff_of_nodup ((usort_lt l).imp fun h => by omega) h).mpr fun k => mem_usort).length_eq
section
variable {c s : Nat} {Q E : List Int} {N : List Note}
/-- a row that is an order by the notes -/
theorem orderF_of {j : J} {l : List Int} (hl : (l.length : Int) = j.m) (hr : ∀ p ∈ l, 0 ≤ p ∧ p < j.n) (nd : l.Nodup) (hc : ∀ x ∈ notedL j true, l[x.1.toNat]? = some x.2) (he : ∀ x ∈ notedL j false, x.2 ∉ l.take (x.1.toNat + 1)) : orderF j l = true := by
  unfold orderF
  simp only [Bool.and_eq_true, decide_eq_true_eq, List.all_eq_true, Bool.not_eq_true', decide_eq_false_iff_not]
  exact ⟨⟨⟨⟨hl, hr⟩, by rw [usort_len nd]; exact hl⟩, hc⟩, he⟩
theorem Tale.order (h : Tale c s Q E N) (k : Nat) : orderF (jk c s N k) Q = true := by
  refine orderF_of (by rw [h.ql]; rfl) (fun p hp => ?_) h.nd (fun x hx => (h.closed hx).2.2) fun x hx => h.op _ _ (h.ended hx).2.2
  have := h.qr p hp
  exact ⟨this.1, by show p < (c : Int) + k; omega⟩
theorem Tale.evid (h : Tale c s Q E N) (k : Nat) : evidF (jk c s N k) = .non := by
  have e1 : lostT (jk c s N k) = [] := by
    unfold lostT
    have : (notedL (jk c s N k) true).filter (fun x => decide ((spanF (jk c s N k) x.2).2 < (spanF (jk c s N k) x.2).1)) = [] := by
      rw [List.filter_eq_nil_iff]
      intro x hx
      obtain ⟨h1, h2, h3⟩ := h.closed hx
      obtain ⟨a1, a2, a3, _⟩ := h.span (k := k) h3
      simp only [decide_eq_true_eq]
      omega
    rw [this]
    rfl
  have e2 : (rng (jk c s N k).m.toNat).filter (fewF (jk c s N k)) = [] := by
    rw [List.filter_eq_nil_iff]
    intro t ht
    have e : (jk c s N k).m.toNat = s := by show ((s : Int)).toNat = s; omega
    rw [e] at ht
    have ht := mem_rng.mp ht
    unfold fewF
    simp only [decide_eq_true_eq]
    have sub : ∀ p ∈ Q.take (t.toNat + 1), p ∈ (rng (jk c s N k).n.toNat).filter fun p => decide ((spanF (jk c s N k) p).1 ≤ (spanF (jk c s N k) p).2) && decide ((spanF (jk c s N k) p).1 ≤ t) := fun p hp => by
      obtain ⟨i, hi⟩ := List.mem_iff_getElem?.mp hp
      have hil : i < (Q.take (t.toNat + 1)).length := (List.getElem?_eq_some_iff.mp hi).1
      rw [List.length_take] at hil
      rw [List.getElem?_take_of_lt (by omega)] at hi
      obtain ⟨a1, a2, a3, _⟩ := h.span (k := k) hi
      have hpr := h.qr _ (List.mem_of_getElem? hi)
      refine List.mem_filter.mpr ⟨mem_rng.mpr ⟨hpr.1, ?_⟩, ?_⟩
      · show p < ((((c : Int) + k).toNat : Nat) : Int)
        omega
      · simp only [Bool.and_eq_true, decide_eq_true_eq]
        omega
    have := nodup_sub_len (h.nd.sublist (List.take_sublist _ _)) sub
    rw [List.length_take, h.ql] at this
    unfold windF
    rw [List.filter_map, List.length_map]
    have e : (List.filter ((fun x : Lk => decide (x.1 ≤ x.2) && decide (x.1 ≤ t)) ∘ spanF (jk c s N k)) (rng (jk c s N k).n.toNat)) = (rng (jk c s N k).n.toNat).filter fun p => decide ((spanF (jk c s N k) p).1 ≤ (spanF (jk c s N k) p).2) && decide ((spanF (jk c s N k) p).1 ≤ t) := rfl
    rw [e]
    omega
  unfold evidF
  rw [e1, e2]
  rfl
theorem Tale.wind (h : Tale c s Q E N) (k : Nat) : windF (jk c s N (k + 1)) = windF (jk c s N k) ++ [(0, (s : Int) - 1)] := by
  have e1 : (jk c s N (k + 1)).n.toNat = (jk c s N k).n.toNat + 1 := by
    show ((c : Int) + (k + 1 : Nat)).toNat = ((c : Int) + k).toNat + 1
    omega
  have e2 : (((jk c s N k).n.toNat : Nat) : Int) = (c : Int) + k := by
    show ((((c : Int) + k).toNat : Nat) : Int) = _
    omega
  unfold windF
  rw [e1, rng_succ, List.map_append, e2]
  congr 1
  simp [h.span_more (k := k + 1) (p := (c : Int) + k) (by omega)]
/-! ### towns exchanged that no note names -/
/-- where a dict sends a town, itself if it does not hold it -/
def sendF (fr ys : List Int) (p : Int) : Int := (fr.zip ys).lookup p |>.getD p
theorem send_out {fr ys : List Int} {p : Int} (h : p ∉ fr) : sendF fr ys p = p := by
  unfold sendF
  have : (fr.zip ys).lookup p = none := by
    rw [List.lookup_eq_none_iff]
    intro q hq
    have := (List.of_mem_zip (a := q.1) (b := q.2) hq).1
    simp only [beq_eq_false_iff_ne, bne_iff_ne]
    first | exact fun e => h (e ▸ this) | simpa using fun e => h (e ▸ this)
  rw [this]
  rfl
theorem send_in : ∀ {fr ys : List Int} {p : Int}, fr.Nodup → fr.length = ys.length → p ∈ fr → ∃ i : Nat, fr[i]? = some p ∧ ys[i]? = some (sendF fr ys p)
  | [], _, _, _, _, h => by cases h
  | f :: fr, [], _, _, hl, _ => by simp at hl
  | f :: fr, y :: ys, p, nd, hl, h => by
    unfold sendF
    rw [List.zip_cons_cons, List.lookup_cons]
    by_cases c : p = f
    · subst c
      exact ⟨0, rfl, by simp⟩
    · have c' : (p == f) = false := by simpa using c
      rw [c']
      have hp : p ∈ fr := by
        rcases List.mem_cons.mp h with z | z
        · exact absurd z c
        · exact z
      obtain ⟨i, h1, h2⟩ := send_in (List.nodup_cons.mp nd).2 (by simpa using hl) hp
      exact ⟨i + 1, by simpa using h1, by simpa [sendF] using h2⟩
theorem send_inj {fr ys : List Int} (nd : fr.Nodup) (ny : ys.Nodup) (hl : fr.length = ys.length) (sub : ∀ y ∈ ys, y ∈ fr) {p q : Int} (e : sendF fr ys p = sendF fr ys q) : p = q := by
  by_cases cp : p ∈ fr
  · obtain ⟨i, h1, h2⟩ := send_in nd hl cp
    by_cases cq : q ∈ fr
    · obtain ⟨k, h3, h4⟩ := send_in nd hl cq
      rw [e] at h2
      obtain ⟨l1, g1⟩ := List.getElem?_eq_some_iff.mp h2
      obtain ⟨l2, g2⟩ := List.getElem?_eq_some_iff.mp h4
      have := (List.getElem_inj ny).mp (g1.trans g2.symm)
      subst this
      rw [h1] at h3
      exact Option.some.inj h3
    · rw [send_out cq] at e
      exact absurd (e ▸ sub _ (List.mem_of_getElem? h2)) cq
  · rw [send_out cp] at e
    by_cases cq : q ∈ fr
    · obtain ⟨k, h3, h4⟩ := send_in nd hl cq
      exact absurd (e ▸ sub _ (List.mem_of_getElem? h4)) cp
    · rw [send_out cq] at e
      exact e
/-- the towns without a note -/
def freeF (c : Nat) (N : List Note) : List Int := (rng c).filter fun p => !decide (p ∈ N.map (·.v))
theorem mem_free {p : Int} : p ∈ freeF c N ↔ (0 ≤ p ∧ p < c) ∧ ∀ x ∈ N, x.v ≠ p := by
  unfold freeF
  rw [List.mem_filter, mem_rng]
  simp
theorem free_nodup : (freeF c N).Nodup := (rng_nodup c).sublist List.filter_sublist
theorem Tale.image (h : Tale c s Q E N) {ys : List Int} (hp : ys.Perm (freeF c N)) : orderF (jk c s N 0) (Q.map (sendF (freeF c N) ys)) = true := by
  have nd := free_nodup (c := c) (N := N)
  have ny : ys.Nodup := hp.nodup_iff.mpr nd
  have hl : (freeF c N).length = ys.length := hp.length_eq.symm
  have sub : ∀ y ∈ ys, y ∈ freeF c N := fun y hy => hp.mem_iff.mp hy
  have sr : ∀ p : Int, 0 ≤ p ∧ p < c → 0 ≤ sendF (freeF c N) ys p ∧ sendF (freeF c N) ys p < c := fun p hpr => by
    by_cases cp : p ∈ freeF c N
    · obtain ⟨i, _, h2⟩ := send_in nd hl cp
      exact (mem_free.mp (sub _ (List.mem_of_getElem? h2))).1
    · rw [send_out cp]
      exact hpr
  -- a noted town stays; no other town gets there
  have fix : ∀ x ∈ N, sendF (freeF c N) ys x.v = x.v := fun x hx => send_out fun z => (mem_free.mp z).2 x hx rfl
  refine orderF_of (by rw [List.length_map, h.ql]; rfl) (fun p hp' => ?_) ?_ (fun x hx => ?_) fun x hx => ?_
  · obtain ⟨q, hq, rfl⟩ := List.mem_map.mp hp'
    have := sr q (h.qr q hq)
    exact ⟨this.1, by show _ < (c : Int) + (0 : Nat); omega⟩
  · unfold List.Nodup
    rw [List.pairwise_map]
    exact h.nd.imp fun h e => h (send_inj nd ny hl sub e)
  · obtain ⟨y, hy, _, e⟩ := mem_noted.mp hx
    have e2 : x.2 = y.v := congrArg (·.2) e
    rw [List.getElem?_map, (h.closed hx).2.2, Option.map_some, e2, fix y hy]
  · obtain ⟨y, hy, _, e⟩ := mem_noted.mp hx
    have e2 : x.2 = y.v := congrArg (·.2) e
    rw [← List.map_take]
    intro z
    obtain ⟨q, hq, hqe⟩ := List.mem_map.mp z
    rw [e2, ← fix y hy] at hqe
    have := send_inj nd ny hl sub hqe
    subst this
    rw [← e2] at hq
    exact h.op _ _ (h.ended hx).2.2 hq
end
end MP

namespace MP
open PySem PySem.Spec
/-! ### the box of a script -/
theorem sp_cell {B : Tb} {n : Nat} {S : Sto} {ns : List Int} {k : Nat} (hB : B i__law_cell_at = some q__law_cell_at) : ∃ v : Int, callN B (n + 1) i__law_cell_at [.scr ns, .int k] S = .ok (.v (.int v)) S := by
  rw [callN_eq hB]
  by_cases c : k < ns.length
  · have e : ns[k]? = some ns[k] := List.getElem?_eq_getElem c
    exact ⟨ns[k], by simp [q__law_cell_at, b__law_cell_at, callF, startE, finO, dSeqS, dSet, slOf, dRet, dRetN, dIfS, dSkip, dVar, dBVar, dMv, dC, fz, rv, dOp, dUn, dNil, dCons, dTup, dLst, dB, dAndT, dOrT, dNotT, dAnd, dOr, dNot, dIf, dIfR, dCall, dBlt, dOp2, dSeq, itemsOf, dFrz, frzE, dPar, rCons, rNil, setSls, dAug, dUnp, bindTg, bindTgs, wipeE, dYes, dChain, Res.bind, Res.map, R.val, O.toD, fIx_tup, fIx_lst, fIx_loc, fIx_scr, ixD, fGt_i, fLt_i, fLe_i, fGe_i, fSub_i, fIAdd_i, fMod, fDiv, fAdd, fPow, fEq, fNe, fIsN, fNotN, isNon, bLen, bList, bTuple, bAbs, bInt, bMax2, bMin2, dPutL, listSlot, isL, mutL, fPut, dIxL, dMut1, fApp, List.getElem?_cons_zero, List.getElem?_cons_succ, List.set_cons_zero, List.set_cons_succ, List.map_cons, List.map_nil, List.cons_append, List.nil_append, List.length_cons, List.length_nil, List.replicate, if_true, if_false, ite_true, ite_false, Bool.false_eq_true, reduceIte, decide_true, decide_false, Option.map_some, Option.bind_some, c, e]⟩
  · have c2 : ¬ ((k : Int) < ns.length) := by omega
    exact ⟨0, by simp [q__law_cell_at, b__law_cell_at, callF, startE, finO, dSeqS, dSet, slOf, dRet, dRetN, dIfS, dSkip, dVar, dBVar, dMv, dC, fz, rv, dOp, dUn, dNil, dCons, dTup, dLst, dB, dAndT, dOrT, dNotT, dAnd, dOr, dNot, dIf, dIfR, dCall, dBlt, dOp2, dSeq, itemsOf, dFrz, frzE, dPar, rCons, rNil, setSls, dAug, dUnp, bindTg, bindTgs, wipeE, dYes, dChain, Res.bind, Res.map, R.val, O.toD, fIx_tup, fIx_lst, fIx_loc, fIx_scr, ixD, fGt_i, fLt_i, fLe_i, fGe_i, fSub_i, fIAdd_i, fMod, fDiv, fAdd, fPow, fEq, fNe, fIsN, fNotN, isNon, bLen, bList, bTuple, bAbs, bInt, bMax2, bMin2, dPutL, listSlot, isL, mutL, fPut, dIxL, dMut1, fApp, List.getElem?_cons_zero, List.getElem?_cons_succ, List.set_cons_zero, List.set_cons_succ, List.map_cons, List.map_nil, List.cons_append, List.nil_append, List.length_cons, List.length_nil, List.replicate, if_true, if_false, ite_true, ite_false, Bool.false_eq_true, reduceIte, decide_true, decide_false, Option.map_some, Option.bind_some, c]⟩
theorem sp_box {B : Tb} {n : Nat} {S : Sto} {ns : List Int} {k : Nat} (hB : B i__law_cell_at = some q__law_cell_at) (hX : B i__law_box = some q__law_box) : ∃ x y : Int, 0 ≤ x ∧ callN B (n + 2) i__law_box [.scr ns, .int k] S = .ok (.o (.l [.int x, .int y, .int 0])) S := by
  obtain ⟨v, hv⟩ := sp_cell (B := B) (n := n) (S := S) (ns := ns) (k := k) hB
  have hv : callN B (n + 1) 28 [.scr ns, .int k] S = .ok (.v (.int v)) S := hv
  have m1 : ∀ i : Int, mulOk i 0 = true := fun i => mulOk_small (by decide)
  have m2 : ∀ i : Int, mulOk i 1 = true := fun i => mulOk_small (by decide)
  have m3 : ∀ i : Int, mulOk 39373 i = true := fun i => mulOk_small1 (by decide)
  rw [callN_eq hX]
  by_cases c : (1000000000000000000 : Int) ≤ (if v < 0 then -v else v)
  · refine ⟨_, _, ?_, by simp [q__law_box, b__law_box, callF, startE, finO, dSeqS, dSet, slOf, dRet, dRetN, dIfS, dSkip, dVar, dBVar, dMv, dC, fz, rv, dOp, dUn, dNil, dCons, dTup, dLst, dB, dAndT, dOrT, dNotT, dAnd, dOr, dNot, dIf, dIfR, dCall, dBlt, dOp2, dSeq, itemsOf, dFrz, frzE, dPar, rCons, rNil, setSls, dAug, dUnp, bindTg, bindTgs, wipeE, dYes, dChain, Res.bind, Res.map, R.val, O.toD, fIx_tup, fIx_lst, fIx_loc, fIx_scr, ixD, fGt_i, fLt_i, fLe_i, fGe_i, fSub_i, fIAdd_i, fMod, fDiv, fAdd, fPow, fEq, fNe, fIsN, fNotN, isNon, bLen, bList, bTuple, bAbs, bInt, bMax2, bMin2, dPutL, listSlot, isL, mutL, fPut, dIxL, dMut1, fApp, List.getElem?_cons_zero, List.getElem?_cons_succ, List.set_cons_zero, List.set_cons_succ, List.map_cons, List.map_nil, List.cons_append, List.nil_append, List.length_cons, List.length_nil, List.replicate, if_true, if_false, ite_true, ite_false, Bool.false_eq_true, reduceIte, decide_true, decide_false, Option.map_some, Option.bind_some, hv, fMul, m1, m2, m3, c]; exact ⟨rfl, rfl⟩⟩
    split <;> omega
  · exact ⟨0, _, by decide, by simp [q__law_box, b__law_box, callF, startE, finO, dSeqS, dSet, slOf, dRet, dRetN, dIfS, dSkip, dVar, dBVar, dMv, dC, fz, rv, dOp, dUn, dNil, dCons, dTup, dLst, dB, dAndT, dOrT, dNotT, dAnd, dOr, dNot, dIf, dIfR, dCall, dBlt, dOp2, dSeq, itemsOf, dFrz, frzE, dPar, rCons, rNil, setSls, dAug, dUnp, bindTg, bindTgs, wipeE, dYes, dChain, Res.bind, Res.map, R.val, O.toD, fIx_tup, fIx_lst, fIx_loc, fIx_scr, ixD, fGt_i, fLt_i, fLe_i, fGe_i, fSub_i, fIAdd_i, fMod, fDiv, fAdd, fPow, fEq, fNe, fIsN, fNotN, isNon, bLen, bList, bTuple, bAbs, bInt, bMax2, bMin2, dPutL, listSlot, isL, mutL, fPut, dIxL, dMut1, fApp, List.getElem?_cons_zero, List.getElem?_cons_succ, List.set_cons_zero, List.set_cons_succ, List.map_cons, List.map_nil, List.cons_append, List.nil_append, List.length_cons, List.length_nil, List.replicate, if_true, if_false, ite_true, ite_false, Bool.false_eq_true, reduceIte, decide_true, decide_false, Option.map_some, Option.bind_some, hv, fMul, m1, m2, m3, c]; rfl⟩
/-! ### journals as tuples -/
def jD (j : J) : D := .tup [.int j.n, .int j.m, .tup (j.N.map noteD)]
theorem jr_jD {j : J} (w : JW j) (hl : j.N.length ≤ 10000) : JR (jD j) j := by
  refine ⟨w, hl, .tup (j.N.map noteD), j.N.map noteD, .tup _, .tup _, ?_⟩
  generalize j.N = l
  induction l with
  | nil => exact .nil
  | cons x l ih => exact .cons (.tup _) ih
theorem jr_jk {c s : Nat} {Q E : List Int} {N : List Note} (h : Tale c s Q E N) (hc : c ≤ 50) {k : Nat} (hk : k ≤ 10) : JR (jD (jk c s N k)) (jk c s N k) := jr_jD (h.jw hc hk) (by
  have := h.told.len
  have := h.sc
  show N.length ≤ 10000
  omega)
/-! ### dict(zip()) of ints, and get -/
theorem keysOfL_ints : ∀ l : List Int, keysOfL (l.map D.int) = some (keysI l)
  | [] => rfl
  | x :: l => by
    simp only [List.map_cons, keysOfL, MP.keyOf, keysOfL_ints l]
    rfl
theorem zip_keys {fr ys : List Int} (hl : fr.length = ys.length) : ((keysI fr).zip (ys.map D.int)).map (·.1) = keysI fr ∧ ((keysI fr).zip (ys.map D.int)).map (·.2) = ys.map D.int := by
  constructor
  · rw [List.map_fst_zip]
    simp [keysI, hl]
  · rw [List.map_snd_zip]
    simp [keysI, hl]
theorem putAll_zip {fr ys : List Int} (nd : fr.Nodup) (hl : fr.length = ys.length) : putAll ((keysI fr).zip (ys.map D.int)) [] [] = (keysI fr, ys.map D.int) := by
  obtain ⟨z1, z2⟩ := zip_keys hl
  rw [putAll_new _ [] [] (by
    rw [z1]
    unfold keysI List.Nodup
    rw [List.pairwise_map]
    exact nd.imp fun h e => h (Sum.inl.inj e)) (by simp), z1, z2]
  rfl
theorem look_send : ∀ {fr ys : List Int} {p : Int}, lookK (keysI fr) (ys.map D.int) (Sum.inl p) = ((fr.zip ys).lookup p).map D.int
  | [], ys, p => by cases ys <;> rfl
  | f :: fr, [], p => rfl
  | f :: fr, y :: ys, p => by
    show (if (Sum.inl f : L2.Key) = Sum.inl p then some (D.int y) else lookK (keysI fr) (ys.map D.int) (Sum.inl p)) = _
    rw [List.zip_cons_cons, List.lookup_cons]
    by_cases c : p = f
    · subst c
      rw [if_pos rfl]
      simp
    · have c' : (p == f) = false := by simpa using c
      have c2 : ¬ (Sum.inl f : L2.Key) = Sum.inl p := fun z => c (Sum.inl.inj z).symm
      rw [if_neg c2, c']
      exact look_send
theorem get_send {fr ys : List Int} {p : Int} {env : Envm} {S : Sto} {dd dk dx : DE} (h1 : dd env S = .ok (.dk (keysI fr) (ys.map D.int)) S) (h2 : dk env S = .ok (.int p) S) (h3 : dx env S = .ok (.int p) S) : dDget dd dk dx env S = .ok (.int (sendF fr ys p)) S := by
  unfold dDget
  simp only [h1, h2, h3, Res.bind, dlook, MP.keyOf, look_send]
  unfold sendF
  cases (fr.zip ys).lookup p <;> rfl
theorem fit_lks (L : List Lk) : fitN 20 (.lst (L.map lkD)) = true := all_lks 18 L
theorem deqs_lks : ∀ a b : List Lk, deqs (a.map lkD) (b.map lkD) = decide (a = b)
  | [], [] => by simp [deqs]
  | [], _ :: _ => by simp [deqs]
  | _ :: _, [] => by simp [deqs]
  | x :: a, y :: b => by
    simp only [List.map_cons, deqs, deq_lk, deqs_lks a b]
    by_cases c : x = y <;> simp [c]
theorem fNe_lks (a b : List Lk) (S : Sto) : fNe (.lst (a.map lkD)) (.lst (b.map lkD)) S = .ok (.v (.bl (!decide (a = b)))) S := by
  unfold fNe
  rw [if_pos ⟨fit_lks a, fit_lks b⟩]
  show Res.ok (R.v (D.bl (!deqs (a.map lkD) (b.map lkD)))) S = _
  rw [deqs_lks]
end MP

namespace MP
open PySem PySem.Spec
/-! ### orders as a proposition -/
structure Ord (j : J) (l : List Int) : Prop where
  len : (l.length : Int) = j.m
  inr : ∀ p ∈ l, 0 ≤ p ∧ p < j.n
  nd : l.Nodup
  cl : ∀ x ∈ notedL j true, l[x.1.toNat]? = some x.2
  en : ∀ x ∈ notedL j false, x.2 ∉ l.take (x.1.toNat + 1)
theorem insU_len (x : Int) : ∀ l : List Int, (insU x l).length ≤ l.length + 1
  | [] => by simp [insU]
  | y :: l => by
    unfold insU
    split
    · simp
    · split
      · simp
      · have := insU_len x l
        simp only [List.length_cons]
        omega
theorem usort_le : ∀ l : List Int, (usort l).length ≤ l.length
  | [] => by simp [usort]
  | x :: l => by
    have := usort_le l
    have := insU_len x (usort l)
    show (insU x (usort l)).length ≤ _
    simp only [List.length_cons]
    omega
theorem usort_nodup {l : List Int} (h : (usort l).length = l.length) : l.Nodup := by
  have nu : (usort l).Nodup := (usort_lt l).imp fun h => by omega
  induction l with
  | nil => exact List.nodup_nil
  | cons x l ih =>
    have e1 := insU_len x (usort l)
    have e2 := usort_le l
    have h' : (insU x (usort l)).length = l.length + 1 := h
    have e3 : (usort l).length = l.length := by omega
    have nu' : (usort l).Nodup := (usort_lt l).imp fun h => by omega
    refine List.nodup_cons.mpr ⟨fun hx => ?_, ih e3 nu'⟩
    have sub : ∀ y ∈ usort (x :: l), y ∈ usort l := fun y hy => by
      rw [mem_usort] at hy ⊢
      rcases List.mem_cons.mp hy with rfl | hy
      · exact hx
      · exact hy
    have := nodup_sub_len nu sub
    rw [h, List.length_cons] at this
    omega
theorem orderF_iff {j : J} {l : List Int} : orderF j l = true ↔ Ord j l := by
  constructor
  · intro h
    unfold orderF at h
    simp only [Bool.and_eq_true, decide_eq_true_eq, List.all_eq_true, Bool.not_eq_true', decide_eq_false_iff_not] at h
    obtain ⟨⟨⟨⟨h1, h2⟩, h3⟩, h4⟩, h5⟩ := h
    exact ⟨h1, h2, usort_nodup (by omega), h4, h5⟩
  · intro h
    exact orderF_of h.len h.inr h.nd h.cl h.en
theorem nd_at {l : List Int} (nd : l.Nodup) {a b : Nat} {p : Int} (h1 : l[a]? = some p) (h2 : l[b]? = some p) : a = b := by
  obtain ⟨l1, g1⟩ := List.getElem?_eq_some_iff.mp h1
  obtain ⟨l2, g2⟩ := List.getElem?_eq_some_iff.mp h2
  exact (List.getElem_inj nd).mp (g1.trans g2.symm)
theorem noted_inr {j : J} (w : JW j) {k : Bool} {x : Lk} (h : x ∈ notedL j k) : 0 ≤ x.1 ∧ x.1 < j.m ∧ 0 ≤ x.2 ∧ x.2 < j.n := by
  obtain ⟨y, hy, _, rfl⟩ := mem_noted.mp h
  exact w.inr y hy
theorem noted_fun {j : J} (w : JW j) {k : Bool} {t p q : Int} (h1 : (t, p) ∈ notedL j k) (h2 : (t, q) ∈ notedL j k) : p = q := by
  have nd := notedL_nodup w k
  obtain ⟨a, ha⟩ := List.mem_iff_getElem?.mp h1
  obtain ⟨b, hb⟩ := List.mem_iff_getElem?.mp h2
  have e : a = b := by
    obtain ⟨l1, g1⟩ := List.getElem?_eq_some_iff.mp ha
    obtain ⟨l2, g2⟩ := List.getElem?_eq_some_iff.mp hb
    refine (List.getElem_inj (h₀ := by rw [List.length_map]; exact l1) (h₁ := by rw [List.length_map]; exact l2) nd).mp ?_
    rw [List.getElem_map, List.getElem_map, g1, g2]
  subst e
  rw [ha] at hb
  cases hb
  rfl
/-- the window of a town by its notes -/
theorem start_le {j : J} {p : Int} {i : Int} (h0 : 0 ≤ i) (h1 : ∀ t, (t, p) ∈ notedL j true → t ≤ i) (h2 : ∀ t, (t, p) ∈ notedL j false → t < i) : (spanF j p).1 ≤ i := by
  show maxO _ 0 ≤ i
  rcases maxO_mem (l := endL j p ++ cameL j p) (z := 0) with ⟨_, e⟩ | ⟨e, _⟩
  · omega
  · rcases List.mem_append.mp e with e | e
    · have := h2 _ (mem_endL.mp e)
      omega
    · exact h1 _ (mem_came.mp e)
theorem le_start {j : J} {p t : Int} : ((t, p) ∈ notedL j true → t ≤ (spanF j p).1) ∧ ((t, p) ∈ notedL j false → t < (spanF j p).1) := by
  have key : ∀ y ∈ endL j p ++ cameL j p, y ≤ (spanF j p).1 := fun y hy => by
    rcases maxO_mem (l := endL j p ++ cameL j p) (z := 0) with ⟨e, _⟩ | ⟨_, e⟩
    · rw [e] at hy; cases hy
    · exact e y hy
  refine ⟨fun h => key _ (List.mem_append_right _ (mem_came.mpr h)), fun h => ?_⟩
  have := key (t + 1) (List.mem_append_left _ (mem_endL.mpr (by rw [Int.add_sub_cancel]; exact h)))
  omega
theorem last_ge {j : J} {p : Int} {i : Int} (h0 : i ≤ j.m - 1) (h1 : ∀ t, (t, p) ∈ notedL j true → i ≤ t) : i ≤ (spanF j p).2 := by
  show i ≤ minO _ (j.m - 1)
  rcases minO_mem (l := cameL j p) (z := j.m - 1) with ⟨_, e⟩ | ⟨e, _⟩
  · omega
  · exact h1 _ (mem_came.mp e)
theorem last_le {j : J} {p t : Int} (h : (t, p) ∈ notedL j true) : (spanF j p).2 ≤ t := by
  show minO _ (j.m - 1) ≤ t
  rcases minO_mem (l := cameL j p) (z := j.m - 1) with ⟨e, _⟩ | ⟨_, e⟩
  · have := mem_came.mpr h
    rw [e] at this; cases this
  · exact e _ (mem_came.mpr h)
theorem start_nn {j : J} (w : JW j) {p : Int} : 0 ≤ (spanF j p).1 := by
  show 0 ≤ maxO _ 0
  rcases maxO_mem (l := endL j p ++ cameL j p) (z := 0) with ⟨_, e⟩ | ⟨e, _⟩
  · omega
  · rcases List.mem_append.mp e with e | e
    · have := (noted_inr w (mem_endL.mp e)).1
      have : (0 : Int) ≤ maxO (endL j p ++ cameL j p) 0 - 1 := this
      omega
    · exact (noted_inr w (mem_came.mp e)).1
/-- an order closes each town within its window -/
theorem Ord.within {j : J} {l : List Int} (w : JW j) (h : Ord j l) {i : Nat} {p : Int} (hp : l[i]? = some p) : (spanF j p).1 ≤ i ∧ (i : Int) ≤ (spanF j p).2 := by
  have hi : i < l.length := (List.getElem?_eq_some_iff.mp hp).1
  have hl := h.len
  have c : ∀ t, (t, p) ∈ notedL j true → t = i := fun t ht => by
    have := nd_at h.nd (h.cl _ ht) hp
    have := (noted_inr w ht).1
    have : (0 : Int) ≤ t := this
    have : t.toNat = i := by assumption
    omega
  refine ⟨start_le (by omega) (fun t ht => by have := c t ht; omega) fun t ht => ?_, last_ge (by omega) fun t ht => by have := c t ht; omega⟩
  have := (noted_inr w ht).1
  have h0 : (0 : Int) ≤ t := this
  have := h.en _ ht
  rcases Nat.lt_or_ge i (t.toNat + 1) with c | c
  · exact absurd (List.mem_of_getElem? (by rw [List.getElem?_take_of_lt c]; exact hp)) this
  · omega
theorem Ord.of {j : J} {l : List Int} (w : JW j) (hl : (l.length : Int) = j.m) (hr : ∀ p ∈ l, 0 ≤ p ∧ p < j.n) (nd : l.Nodup) (hc : ∀ x ∈ notedL j true, l[x.1.toNat]? = some x.2) (hs : ∀ (i : Nat) (p : Int), l[i]? = some p → (spanF j p).1 ≤ i) : Ord j l := by
  refine ⟨hl, hr, nd, hc, fun x hx => ?_⟩
  intro hm
  obtain ⟨i, hi⟩ := List.mem_iff_getElem?.mp hm
  have hil : i < (l.take (x.1.toNat + 1)).length := (List.getElem?_eq_some_iff.mp hi).1
  rw [List.length_take] at hil
  rw [List.getElem?_take_of_lt (by omega)] at hi
  have h1 := hs i _ hi
  have h2 := (le_start (j := j) (p := x.2) (t := x.1)).2 hx
  have := (noted_inr w hx).1
  omega
theorem Ord.sound {j : J} {l : List Int} (w : JW j) (h : Ord j l) : soundF j = true := by
  unfold soundF
  rw [List.all_eq_true]
  intro x hx
  have h1 := h.cl x hx
  obtain ⟨a, b⟩ := h.within w h1
  have c := (le_start (j := j) (p := x.2) (t := x.1)).1 hx
  have d := last_le (j := j) (p := x.2) (t := x.1) hx
  have := (noted_inr w hx).1
  simp only [decide_eq_true_eq]
  ext
  · show (spanF j x.2).1 = x.1
    omega
  · show (spanF j x.2).2 = x.1
    omega
/-! ### all rows that begin so -/
def freeT (n : Nat) (pre : List Int) : List Int := (rng n).filter fun p => !decide (p ∈ pre)
theorem mem_freeT {n : Nat} {pre : List Int} {p : Int} : p ∈ freeT n pre ↔ (0 ≤ p ∧ p < n) ∧ p ∉ pre := by
  unfold freeT
  rw [List.mem_filter, mem_rng]
  simp
def ext (n : Nat) : Nat → List Int → List (List Int)
  | 0, pre => [pre]
  | k + 1, pre => (freeT n pre).flatMap fun p => ext n k (pre ++ [p])
theorem mem_ext {n : Nat} : ∀ {k : Nat} {pre l : List Int}, pre.Nodup → (∀ p ∈ pre, 0 ≤ p ∧ p < (n : Int)) → (l ∈ ext n k pre ↔ pre <+: l ∧ l.length = pre.length + k ∧ l.Nodup ∧ ∀ p ∈ l, 0 ≤ p ∧ p < (n : Int))
  | 0, pre, l, nd, hr => by
    unfold ext
    rw [List.mem_singleton]
    constructor
    · rintro rfl
      exact ⟨List.prefix_refl _, rfl, nd, hr⟩
    · rintro ⟨h1, h2, _, _⟩
      exact (h1.eq_of_length (by omega)).symm
  | k + 1, pre, l, nd, hr => by
    unfold ext
    rw [List.mem_flatMap]
    constructor
    · rintro ⟨p, hp, hl⟩
      have hp := mem_freeT.mp hp
      have nd' : (pre ++ [p]).Nodup := by
        rw [List.nodup_append]
        exact ⟨nd, by simp, fun a ha b hb => by
          have : b = p := by simpa using hb
          intro e
          exact hp.2 (by rw [← this, ← e]; exact ha)⟩
      have hr' : ∀ q ∈ pre ++ [p], 0 ≤ q ∧ q < (n : Int) := fun q hq => by
        rcases List.mem_append.mp hq with hq | hq
        · exact hr q hq
        · have : q = p := by simpa using hq
          rw [this]
          exact hp.1
      obtain ⟨h1, h2, h3, h4⟩ := (mem_ext nd' hr').mp hl
      exact ⟨(List.prefix_append _ _).trans h1, by rw [h2, List.length_append]; simp; omega, h3, h4⟩
    · rintro ⟨⟨t, rfl⟩, h2, h3, h4⟩
      cases t with
      | nil => simp at h2
      | cons p t =>
        have hp : p ∈ freeT n pre := mem_freeT.mpr ⟨h4 p (by simp), fun z => (List.nodup_append.mp h3).2.2 p z p (by simp) rfl⟩
        refine ⟨p, hp, ?_⟩
        have e : pre ++ p :: t = pre ++ [p] ++ t := by simp
        have nd' : (pre ++ [p]).Nodup := (e ▸ h3 : (pre ++ [p] ++ t).Nodup).sublist (List.sublist_append_left _ _)
        have hr' : ∀ q ∈ pre ++ [p], 0 ≤ q ∧ q < (n : Int) := fun q hq => h4 q (by rw [e]; exact List.mem_append_left _ hq)
        refine (mem_ext nd' hr').mpr ⟨⟨t, e.symm⟩, ?_, h3, h4⟩
        rw [h2, List.length_append]
        simp
        omega
/-- the orders that begin so, ascending -/
def blk (j : J) (pre : List Int) : List (List Int) := (ext j.n.toNat (j.m.toNat - pre.length) pre).filter (orderF j)
theorem blk_step {j : J} {pre : List Int} (h : pre.length < j.m.toNat) : blk j pre = (freeT j.n.toNat pre).flatMap fun p => blk j (pre ++ [p]) := by
  unfold blk
  have e : j.m.toNat - pre.length = (j.m.toNat - (pre.length + 1)) + 1 := by omega
  rw [e]
  conv => lhs; unfold ext
  rw [List.filter_flatMap]
  congr 1
  funext p
  rw [List.length_append]
  rfl
theorem mem_blk {j : J} (w : JW j) {pre l : List Int} (nd : pre.Nodup) (hr : ∀ p ∈ pre, 0 ≤ p ∧ p < j.n) (hl : pre.length ≤ j.m.toNat) : l ∈ blk j pre ↔ pre <+: l ∧ Ord j l := by
  have wn := w.n0
  have wm := w.m0
  have e : ((j.n.toNat : Nat) : Int) = j.n := by omega
  unfold blk
  rw [List.mem_filter, mem_ext nd (by rw [e]; exact hr), orderF_iff, e]
  constructor
  · rintro ⟨⟨h1, _⟩, h2⟩
    exact ⟨h1, h2⟩
  · rintro ⟨h1, h2⟩
    have := h2.len
    exact ⟨⟨h1, by omega, h2.nd, h2.inr⟩, h2⟩
/-! ### a fine beginning -/
structure Fine (j : J) (pre : List Int) : Prop where
  len : pre.length ≤ j.m.toNat
  inr : ∀ p ∈ pre, 0 ≤ p ∧ p < j.n
  nd : pre.Nodup
  cl : ∀ x ∈ notedL j true, x.1 < pre.length → pre[x.1.toNat]? = some x.2
  st : ∀ (i : Nat) (p : Int), pre[i]? = some p → (spanF j p).1 ≤ i
theorem pre_at {pre l : List Int} (h : pre <+: l) {i : Nat} (hi : i < pre.length) : l[i]? = pre[i]? := by
  obtain ⟨t, rfl⟩ := h
  rw [List.getElem?_append_left hi]
theorem Ord.fine {j : J} (w : JW j) {pre l : List Int} (h : Ord j l) (hp : pre <+: l) : Fine j pre := by
  have hl := hp.length_le
  have := h.len
  refine ⟨by omega, fun p hm => h.inr p (hp.subset hm), h.nd.sublist hp.sublist, fun x hx hlt => ?_, fun i p hi => ?_⟩
  · have := (noted_inr w hx).1
    rw [← pre_at hp (by omega)]
    exact h.cl x hx
  · have : i < pre.length := (List.getElem?_eq_some_iff.mp hi).1
    rw [← pre_at hp this] at hi
    exact (h.within w hi).1
theorem Fine.ord {j : J} (w : JW j) {l : List Int} (h : Fine j l) (hl : l.length = j.m.toNat) : Ord j l := by
  have := w.m0
  refine Ord.of w (by omega) h.inr h.nd (fun x hx => h.cl x hx ?_) h.st
  have := (noted_inr w hx).2.1
  omega
end MP

namespace MP
open PySem PySem.Spec
theorem sound_at {j : J} (s : soundF j = true) {t p : Int} (h : (t, p) ∈ notedL j true) : spanF j p = (t, t) := by
  unfold soundF at s
  rw [List.all_eq_true] at s
  simpa using s _ h
theorem mem_times {j : J} {k : Bool} {t : Int} : t ∈ timesF j k ↔ ∃ p, (t, p) ∈ notedL j k := by
  unfold timesF
  rw [List.mem_map]
  constructor
  · rintro ⟨x, hx, rfl⟩
    exact ⟨x.2, hx⟩
  · rintro ⟨p, hp⟩
    exact ⟨_, hp, rfl⟩
theorem mem_towns {j : J} {p : Int} : p ∈ townsF j ↔ ∃ t, (t, p) ∈ notedL j true := by
  unfold townsF
  rw [List.mem_map]
  constructor
  · rintro ⟨x, hx, rfl⟩
    exact ⟨x.1, hx⟩
  · rintro ⟨t, ht⟩
    exact ⟨_, ht, rfl⟩
theorem len_part {α : Type} (p : α → Bool) : ∀ l : List α, l.length = (l.filter p).length + (l.filter fun x => !p x).length
  | [] => rfl
  | x :: l => by
    have ih := len_part p l
    cases h : p x with
    | true =>
      rw [List.filter_cons_of_pos h, List.filter_cons_of_neg (by simp [h]), List.length_cons, List.length_cons]
      omega
    | false =>
      rw [List.filter_cons_of_neg (by simp [h]), List.filter_cons_of_pos (by simp [h]), List.length_cons, List.length_cons]
      omega
theorem perm_len {a b : List Int} (ha : a.Nodup) (hb : b.Nodup) (h : ∀ x, x ∈ a ↔ x ∈ b) : a.length = b.length := ((List.perm_ext_iff_of_nodup ha hb).mpr h).length_eq
theorem sum_ind {α : Type} (f : α → Nat) (q : α → Bool) (c : Nat) : ∀ l : List α, (∀ x ∈ l, f x = if q x = true then c else 0) → (l.map f).sum = (l.filter q).length * c
  | [], _ => by simp
  | x :: l, h => by
    have ih := sum_ind f q c l fun y hy => h y (List.mem_cons_of_mem _ hy)
    have hx := h x List.mem_cons_self
    rw [List.map_cons, List.sum_cons, ih, hx]
    cases hq : q x with
    | true => rw [List.filter_cons_of_pos hq, List.length_cons, if_pos rfl, Nat.add_mul, Nat.one_mul, Nat.add_comm]
    | false => rw [List.filter_cons_of_neg (by simp [hq])]; simp
section
variable {j : J}
/-- a town may come next -/
theorem Fine.snoc_iff {pre : List Int} (w : JW j) (s : soundF j = true) (f : Fine j pre) (hl : pre.length < j.m.toNat) {p : Int} (hp : p ∈ freeT j.n.toNat pre) :
    Fine j (pre ++ [p]) ↔ (∀ q, ((pre.length : Int), q) ∈ notedL j true → q = p) ∧ (spanF j p).1 ≤ pre.length := by
  have wn := w.n0
  obtain ⟨hp1, hp2⟩ := mem_freeT.mp hp
  constructor
  · intro h
    refine ⟨fun q hq => ?_, h.st pre.length p (by simp)⟩
    have := h.cl _ hq (by simp; omega)
    simpa using this.symm
  · rintro ⟨h1, h2⟩
    refine ⟨by simp; omega, fun q hq => ?_, ?_, fun x hx hlt => ?_, fun i q hi => ?_⟩
    · rcases List.mem_append.mp hq with hq | hq
      · exact f.inr q hq
      · have : q = p := by simpa using hq
        omega
    · rw [List.nodup_append]
      exact ⟨f.nd, by simp, fun a ha b hb => by
        have : b = p := by simpa using hb
        intro e
        exact hp2 (by rw [← this, ← e]; exact ha)⟩
    · have h0 := (noted_inr w hx).1
      rw [List.length_append] at hlt
      simp at hlt
      rcases Nat.lt_or_ge x.1.toNat pre.length with c | c
      · rw [List.getElem?_append_left c]
        exact f.cl x hx (by omega)
      · have e : x.1.toNat = pre.length := by omega
        rw [e, List.getElem?_append_right (Nat.le_refl _)]
        have e2 : x = ((pre.length : Int), x.2) := by ext <;> simp; omega
        rw [h1 x.2 (e2 ▸ hx)]
        simp
    · rcases Nat.lt_or_ge i pre.length with c | c
      · rw [List.getElem?_append_left c] at hi
        exact f.st i q hi
      · have hil := (List.getElem?_eq_some_iff.mp hi).1
        rw [List.length_append] at hil
        simp at hil
        have e : i = pre.length := by omega
        subst e
        rw [List.getElem?_append_right (Nat.le_refl _)] at hi
        have hi : p = q := by simpa using hi
        rw [← hi]
        exact h2
theorem blk_nil {pre : List Int} (w : JW j) (nd : pre.Nodup) (hr : ∀ p ∈ pre, 0 ≤ p ∧ p < j.n) (hl : pre.length ≤ j.m.toNat) (h : ¬ Fine j pre) : blk j pre = [] := by
  rw [List.eq_nil_iff_forall_not_mem]
  intro l hm
  obtain ⟨h1, h2⟩ := (mem_blk w nd hr hl).mp hm
  exact h (h2.fine w h1)
/-- the free towns that a fine beginning has closed are as many as its free times -/
theorem Fine.used {pre : List Int} (w : JW j) (s : soundF j = true) (f : Fine j pre) : (pre.filter fun p => !decide (p ∈ townsF j)).length = (frT pre.length (timesF j true)).length := by
  have e : pre = (rng pre.length).map fun t => pre.getD t.toNat 0 := by
    refine List.ext_getElem (by rw [List.length_map, rng_len]) fun i h1 h2 => ?_
    rw [List.getElem_map]
    have hi : i < (rng pre.length).length := by rw [rng_len]; exact h1
    obtain ⟨_, e⟩ := rng_succ_get (List.getElem?_eq_getElem hi)
    rw [e]
    simp [List.getD_eq_getElem?_getD, List.getElem?_eq_getElem h1]
  conv => lhs; rw [e]
  rw [List.filter_map, List.length_map]
  unfold frT
  congr 1
  refine List.filter_congr fun t ht => ?_
  have ht := mem_rng.mp ht
  have hp : pre[t.toNat]? = some (pre.getD t.toNat 0) := by
    rw [List.getD_eq_getElem?_getD, List.getElem?_eq_getElem (by omega)]
    rfl
  show (!decide (pre.getD t.toNat 0 ∈ townsF j)) = !decide (t ∈ timesF j true)
  generalize pre.getD t.toNat 0 = p at hp
  have iff : p ∈ townsF j ↔ t ∈ timesF j true := by
    rw [mem_towns, mem_times]
    constructor
    · rintro ⟨t', h⟩
      have h0 := (noted_inr w h).1
      have h0 : (0 : Int) ≤ t' := h0
      rcases Int.lt_or_le t' pre.length with c | c
      · have := nd_at f.nd (f.cl _ h c) hp
        have : t'.toNat = t.toNat := this
        have : t' = t := by omega
        exact ⟨p, this ▸ h⟩
      · have h1 := f.st _ _ hp
        rw [sound_at s h] at h1
        have : t' ≤ (t.toNat : Int) := h1
        omega
    · rintro ⟨q, h⟩
      have := f.cl _ h (by show t < _; omega)
      have : pre[t.toNat]? = some q := this
      rw [hp] at this
      cases this
      exact ⟨t, h⟩
  by_cases c : t ∈ timesF j true
  · rw [decide_eq_true c, decide_eq_true (iff.mpr c)]
  · rw [decide_eq_false c, decide_eq_false fun z => c (iff.mp z)]
theorem frT_succ (n : Nat) (tk : List Int) : frT (n + 1) tk = frT n tk ++ (if (n : Int) ∈ tk then [] else [(n : Int)]) := by
  unfold frT
  rw [rng_succ, List.filter_append]
  congr 1
  by_cases c : (n : Int) ∈ tk
  · simp [c]
  · simp [c]
/-- how many towns may come next -/
theorem Fine.next {pre : List Int} (w : JW j) (s : soundF j = true) (f : Fine j pre) (hl : pre.length < j.m.toNat) [DecidablePred (Fine j)] :
    (((freeT j.n.toNat pre).filter fun p => decide (Fine j (pre ++ [p]))).length : Int) = if (pre.length : Int) ∈ timesF j true then 1 else cntLe (startsF j) pre.length - (frT pre.length (timesF j true)).length := by
  have wn := w.n0
  split
  · rename_i c
    obtain ⟨v, hv⟩ := mem_times.mp c
    have sv := sound_at s hv
    have rv := noted_inr w hv
    have hvp : v ∉ pre := fun z => by
      obtain ⟨i, hi⟩ := List.mem_iff_getElem?.mp z
      have h1 := f.st i v hi
      rw [sv] at h1
      have hi := (List.getElem?_eq_some_iff.mp hi).1
      have : (pre.length : Int) ≤ i := h1
      omega
    have := perm_len (a := (freeT j.n.toNat pre).filter fun p => decide (Fine j (pre ++ [p]))) (b := [v]) (((rng_nodup _).sublist List.filter_sublist).sublist List.filter_sublist) (by simp) fun p => by
      rw [List.mem_filter, List.mem_singleton, decide_eq_true_eq]
      constructor
      · rintro ⟨h1, h2⟩
        exact (((f.snoc_iff w s hl h1).mp h2).1 v hv).symm
      · rintro rfl
        have hm : p ∈ freeT j.n.toNat pre := mem_freeT.mpr ⟨⟨rv.2.2.1, by have := rv.2.2.2; simp at this; omega⟩, hvp⟩
        refine ⟨hm, (f.snoc_iff w s hl hm).mpr ⟨fun q hq => noted_fun w hq hv, ?_⟩⟩
        rw [sv]
        exact Int.le_refl _
    rw [this]
    rfl
  · rename_i c
    have nt : ∀ q, ((pre.length : Int), q) ∉ notedL j true := fun q hq => c (mem_times.mpr ⟨q, hq⟩)
    have e1 : cntLe (startsF j) pre.length = (((rng j.n.toNat).filter fun p => !decide (p ∈ townsF j) && decide ((spanF j p).1 ≤ pre.length)).length : Int) := by
      unfold cntLe startsF
      rw [List.filter_map, List.length_map, List.filter_filter]
      congr 3
      funext p
      exact Bool.and_comm _ _
    have e2 := len_part (fun p => !decide (p ∈ pre)) ((rng j.n.toNat).filter fun p => !decide (p ∈ townsF j) && decide ((spanF j p).1 ≤ pre.length))
    have e3 := perm_len (a := (freeT j.n.toNat pre).filter fun p => decide (Fine j (pre ++ [p]))) (b := ((rng j.n.toNat).filter fun p => !decide (p ∈ townsF j) && decide ((spanF j p).1 ≤ pre.length)).filter fun p => !decide (p ∈ pre)) (((rng_nodup _).sublist List.filter_sublist).sublist List.filter_sublist) (((rng_nodup _).sublist List.filter_sublist).sublist List.filter_sublist) fun p => by
      simp only [List.mem_filter, mem_freeT, mem_rng, decide_eq_true_eq, Bool.and_eq_true, Bool.not_eq_true', decide_eq_false_iff_not]
      constructor
      · rintro ⟨⟨h1, h2⟩, h3⟩
        obtain ⟨h4, h5⟩ := (f.snoc_iff w s hl (mem_freeT.mpr ⟨h1, h2⟩)).mp h3
        refine ⟨⟨h1, fun z => ?_, h5⟩, h2⟩
        obtain ⟨t, ht⟩ := mem_towns.mp z
        have st := sound_at s ht
        have h0 := (noted_inr w ht).1
        have h0 : (0 : Int) ≤ t := h0
        rw [st] at h5
        have h5 : t ≤ pre.length := h5
        rcases Int.lt_or_le t pre.length with k | k
        · exact h2 (List.mem_of_getElem? (f.cl _ ht k))
        · have : t = pre.length := by omega
          exact nt p (this ▸ ht)
      · rintro ⟨⟨h1, h2, h3⟩, h4⟩
        exact ⟨⟨h1, h4⟩, (f.snoc_iff w s hl (mem_freeT.mpr ⟨h1, h4⟩)).mpr ⟨fun q hq => absurd hq (nt q), h3⟩⟩
    have e4 := perm_len (a := ((rng j.n.toNat).filter fun p => !decide (p ∈ townsF j) && decide ((spanF j p).1 ≤ pre.length)).filter fun p => !!decide (p ∈ pre)) (b := pre.filter fun p => !decide (p ∈ townsF j)) (((rng_nodup _).sublist List.filter_sublist).sublist List.filter_sublist) (f.nd.sublist List.filter_sublist) fun p => by
      simp only [List.mem_filter, mem_rng, decide_eq_true_eq, Bool.and_eq_true, Bool.not_eq_true', decide_eq_false_iff_not, Bool.not_not]
      constructor
      · rintro ⟨⟨h1, h2, h3⟩, h4⟩
        exact ⟨h4, h2⟩
      · rintro ⟨h1, h2⟩
        have := f.inr p h1
        obtain ⟨i, hi⟩ := List.mem_iff_getElem?.mp h1
        have h3 := f.st i p hi
        have hi := (List.getElem?_eq_some_iff.mp hi).1
        exact ⟨⟨by omega, h2, by omega⟩, h1⟩
    rw [f.used w s] at e4
    rw [e4] at e2
    rw [e3, e1]
    omega
/-- free times from i on, k of them looked at -/
def frF (tk : List Int) : Nat → Nat → List Int
  | _, 0 => []
  | i, k + 1 => if (i : Int) ∈ tk then frF tk (i + 1) k else (i : Int) :: frF tk (i + 1) k
theorem frF_succ (tk : List Int) (i k : Nat) : frF tk i (k + 1) = if (i : Int) ∈ tk then frF tk (i + 1) k else (i : Int) :: frF tk (i + 1) k := rfl
theorem frF_eq (tk : List Int) : ∀ (k i : Nat), frT (i + k) tk = frT i tk ++ frF tk i k
  | 0, i => by simp [frF]
  | k + 1, i => by
    have := frF_eq tk k (i + 1)
    rw [show i + (k + 1) = i + 1 + k by omega, this, frT_succ, List.append_assoc]
    congr 1
    rw [frF_succ]
    split <;> simp
open Classical in
theorem count_fine (w : JW j) (s : soundF j = true) : ∀ (k : Nat) (pre : List Int), Fine j pre → pre.length + k = j.m.toNat → ((blk j pre).length : Int) = prodK (startsF j) 0 ((frT pre.length (timesF j true)).length : Int) (frF (timesF j true) pre.length k)
  | 0, pre, f, hl => by
    have : blk j pre = [pre] := by
      unfold blk
      rw [show j.m.toNat - pre.length = 0 by omega]
      unfold ext
      rw [List.filter_cons_of_pos (orderF_iff.mpr (f.ord w (by omega)))]
      rfl
    rw [this]
    rfl
  | k + 1, pre, f, hl => by
    have wn := w.n0
    rw [blk_step (by omega), List.length_flatMap]
    have key : ∀ p ∈ freeT j.n.toNat pre, (blk j (pre ++ [p])).length = if decide (Fine j (pre ++ [p])) = true then (prodK (startsF j) 0 ((frT (pre.length + 1) (timesF j true)).length : Int) (frF (timesF j true) (pre.length + 1) k)).toNat else 0 := fun p hp => by
      obtain ⟨hp1, hp2⟩ := mem_freeT.mp hp
      by_cases c : Fine j (pre ++ [p])
      · rw [if_pos (by simpa using c)]
        have := count_fine w s k (pre ++ [p]) c (by simp; omega)
        rw [List.length_append] at this
        have this : ((blk j (pre ++ [p])).length : Int) = prodK (startsF j) 0 ((frT (pre.length + 1) (timesF j true)).length : Int) (frF (timesF j true) (pre.length + 1) k) := this
        omega
      · rw [if_neg (by simpa using c), blk_nil w ?_ ?_ (by simp; omega) c]
        · rfl
        · rw [List.nodup_append]
          exact ⟨f.nd, by simp, fun a ha b hb => by
            have : b = p := by simpa using hb
            intro e
            exact hp2 (by rw [← this, ← e]; exact ha)⟩
        · intro q hq
          rcases List.mem_append.mp hq with hq | hq
          · exact f.inr q hq
          · have : q = p := by simpa using hq
            omega
    rw [sum_ind _ _ _ _ key]
    have nx := f.next w s (by omega)
    generalize hfl : (List.filter (fun p => decide (Fine j (pre ++ [p]))) (freeT j.n.toNat pre)) = fl at nx ⊢
    have hpos : 0 ≤ prodK (startsF j) 0 ((frT (pre.length + 1) (timesF j true)).length : Int) (frF (timesF j true) (pre.length + 1) k) ∨ fl = [] := by
      cases fl with
      | nil => exact .inr rfl
      | cons p t =>
        left
        have hm : p ∈ List.filter (fun p => decide (Fine j (pre ++ [p]))) (freeT j.n.toNat pre) := by rw [hfl]; exact List.mem_cons_self
        obtain ⟨h1, h2⟩ := List.mem_filter.mp hm
        have h2 : Fine j (pre ++ [p]) := by simpa using h2
        have := count_fine w s k (pre ++ [p]) h2 (by simp; omega)
        rw [List.length_append] at this
        have this : ((blk j (pre ++ [p])).length : Int) = prodK (startsF j) 0 ((frT (pre.length + 1) (timesF j true)).length : Int) (frF (timesF j true) (pre.length + 1) k) := this
        omega
    have eq : ((fl.length * (prodK (startsF j) 0 ((frT (pre.length + 1) (timesF j true)).length : Int) (frF (timesF j true) (pre.length + 1) k)).toNat : Nat) : Int) = (fl.length : Int) * prodK (startsF j) 0 ((frT (pre.length + 1) (timesF j true)).length : Int) (frF (timesF j true) (pre.length + 1) k) := by
      rcases hpos with h | h
      · rw [Int.natCast_mul]
        congr 1
        omega
      · rw [h]
        simp
    rw [eq, nx, frF_succ, frT_succ]
    split
    · rw [List.append_nil, Int.one_mul]
    · rename_i c
      rw [List.length_append]
      show _ = pos0 (cntLe (startsF j) pre.length + 0 - (frT pre.length (timesF j true)).length) * prodK (startsF j) 0 ((frT pre.length (timesF j true)).length + 1) _
      rw [if_neg c] at nx
      congr 1
      unfold pos0
      split <;> omega
theorem count_eq (w : JW j) : countF j = ((blk j []).length : Int) := by
  have wm := w.m0
  unfold countF
  split
  · rename_i s
    have f0 : Fine j [] := ⟨by simp, fun p hp => (by cases hp), List.nodup_nil, fun x hx hlt => by have := (noted_inr w hx).1; simp at hlt; omega, fun i p hi => by simp at hi⟩
    rw [count_fine w s j.m.toNat [] f0 (by simp), fold_prod]
    show 1 * prodK _ 0 0 (frT j.m.toNat (timesF j true)) = _
    rw [Int.one_mul]
    have := frF_eq (timesF j true) j.m.toNat 0
    rw [Nat.zero_add] at this
    rw [this]
    rfl
  · rename_i s
    have : blk j [] = [] := by
      rw [List.eq_nil_iff_forall_not_mem]
      intro l hm
      obtain ⟨_, h2⟩ := (mem_blk w List.nodup_nil (fun p hp => by cases hp) (by simp)).mp hm
      exact s (h2.sound w)
    rw [this]
    rfl
end
end MP

namespace MP
open PySem PySem.Spec
/-! ### rows ascend -/
def lexLt : List Int → List Int → Bool
  | [], [] => false
  | [], _ :: _ => true
  | _ :: _, [] => false
  | a :: as, b :: bs => if a = b then lexLt as bs else decide (a < b)
theorem lexLt_irr : ∀ l : List Int, lexLt l l = false
  | [] => rfl
  | a :: l => by simp [lexLt, lexLt_irr l]
theorem lexLt_app {a b : Int} (h : a < b) : ∀ (pre x y : List Int), lexLt (pre ++ a :: x) (pre ++ b :: y) = true
  | [], x, y => by simp [lexLt, Int.ne_of_lt h, h]
  | c :: pre, x, y => by simp [lexLt, lexLt_app h pre x y]
theorem ext_pre {n : Nat} : ∀ {k : Nat} {pre l : List Int}, l ∈ ext n k pre → pre <+: l
  | 0, pre, l, h => by
    unfold ext at h
    rw [List.mem_singleton] at h
    rw [h]
    exact List.prefix_refl _
  | k + 1, pre, l, h => by
    unfold ext at h
    obtain ⟨p, _, hl⟩ := List.mem_flatMap.mp h
    exact (List.prefix_append _ _).trans (ext_pre hl)
theorem rng_lt (n : Nat) : (rng n).Pairwise (· < ·) := by
  unfold rng
  rw [List.pairwise_map]
  exact List.pairwise_lt_range.imp fun h => by omega
theorem ext_lt {n : Nat} : ∀ (k : Nat) (pre : List Int), (ext n k pre).Pairwise fun a b => lexLt a b = true
  | 0, pre => by unfold ext; simp
  | k + 1, pre => by
    unfold ext
    rw [List.pairwise_flatMap]
    refine ⟨fun p _ => ext_lt k _, ?_⟩
    refine ((rng_lt n).sublist List.filter_sublist).imp fun {a b} hab x hx y hy => ?_
    obtain ⟨t, rfl⟩ := ext_pre hx
    obtain ⟨u, rfl⟩ := ext_pre hy
    rw [List.append_assoc, List.append_assoc]
    exact lexLt_app hab pre t u
theorem blk_lt (j : J) (pre : List Int) : (blk j pre).Pairwise fun a b => lexLt a b = true := (ext_lt _ _).sublist List.filter_sublist
theorem blk_nodup (j : J) (pre : List Int) : (blk j pre).Nodup := (blk_lt j pre).imp fun {a b} h e => by
  rw [e, lexLt_irr] at h
  cases h
theorem perm_lenL {α : Type} [DecidableEq α] {a b : List α} (ha : a.Nodup) (hb : b.Nodup) (h : ∀ x, x ∈ a ↔ x ∈ b) : a.length = b.length := ((List.perm_ext_iff_of_nodup ha hb).mpr h).length_eq
/-! ### other journals with the same notes -/
/-- a journal whose orders are told -/
theorem count_of {j : J} (w : JW j) {ls : List (List Int)} (nd : ls.Nodup) (h : ∀ l, l ∈ ls ↔ Ord j l) : countF j = (ls.length : Int) := by
  rw [count_eq w, perm_lenL (blk_nodup j []) nd fun l => by
    rw [h, mem_blk w List.nodup_nil (fun p hp => by cases hp) (by simp)]
    exact ⟨fun z => z.2, fun z => ⟨List.nil_prefix, z⟩⟩]
theorem mem_blk0 {j : J} (w : JW j) {l : List Int} : l ∈ blk j [] ↔ Ord j l := by
  rw [mem_blk w List.nodup_nil (fun p hp => by cases hp) (by simp)]
  exact ⟨fun z => z.2, fun z => ⟨List.nil_prefix, z⟩⟩
theorem count_pos {j : J} (w : JW j) : 0 < countF j ↔ ∃ l, Ord j l := by
  rw [count_eq w]
  constructor
  · intro h
    cases hb : blk j [] with
    | nil => rw [hb] at h; simp at h
    | cons l t => exact ⟨l, (mem_blk0 w).mp (by rw [hb]; exact List.mem_cons_self)⟩
  · rintro ⟨l, hl⟩
    have := List.length_pos_of_mem ((mem_blk0 w).mpr hl)
    omega
theorem count_nn {j : J} (w : JW j) : 0 ≤ countF j := by rw [count_eq w]; omega
/-! ### notes of a beginning -/
def enumN : Nat → List Int → List Note
  | _, [] => []
  | i, p :: l => ⟨i, true, p⟩ :: enumN (i + 1) l
theorem mem_enumN : ∀ {l : List Int} {i : Nat} {x : Note}, x ∈ enumN i l ↔ x.k = true ∧ (i : Int) ≤ x.t ∧ l[(x.t - i).toNat]? = some x.v
  | [], i, x => by simp [enumN]
  | p :: l, i, x => by
    unfold enumN
    rw [List.mem_cons, mem_enumN (l := l) (i := i + 1) (x := x)]
    constructor
    · rintro (rfl | ⟨h1, h2, h3⟩)
      · simp
      · refine ⟨h1, by omega, ?_⟩
        rw [show (x.t - i).toNat = (x.t - (i + 1 : Nat)).toNat + 1 by omega]
        exact h3
    · rintro ⟨h1, h2, h3⟩
      by_cases c : x.t = i
      · left
        rw [c] at h3
        simp at h3
        cases x
        simp_all
      · right
        refine ⟨h1, by omega, ?_⟩
        rw [show (x.t - i).toNat = (x.t - (i + 1 : Nat)).toNat + 1 by omega] at h3
        exact h3
theorem enumN_so : ∀ (l : List Int) (i : Nat), (enumN i l).Pairwise fun x y => x.t < y.t
  | [], i => .nil
  | p :: l, i => by
    refine .cons (fun y hy => ?_) (enumN_so l (i + 1))
    have := (mem_enumN.mp hy).2.1
    show (i : Int) < y.t
    omega
theorem enumN_len : ∀ (l : List Int) (i : Nat), (enumN i l).length = l.length
  | [], _ => rfl
  | p :: l, i => by simp [enumN, enumN_len l]
/-- the journal that also notes a beginning -/
structure Begun (j : J) (pre : List Int) (b : J) : Prop where
  n : b.n = j.n
  m : b.m = j.m
  N : b.N.Perm ((j.N.filter fun x => x.k == false || decide ((pre.length : Int) ≤ x.t)) ++ enumN 0 pre)
theorem Begun.mem {j b : J} {pre : List Int} (h : Begun j pre b) {x : Note} : x ∈ b.N ↔ (x ∈ j.N ∧ (x.k = false ∨ (pre.length : Int) ≤ x.t)) ∨ (x.k = true ∧ 0 ≤ x.t ∧ pre[x.t.toNat]? = some x.v) := by
  rw [h.N.mem_iff, List.mem_append, List.mem_filter, mem_enumN]
  simp
theorem Begun.jw {j b : J} {pre : List Int} (h : Begun j pre b) (w : JW j) (hr : ∀ p ∈ pre, 0 ≤ p ∧ p < j.n) (hl : pre.length ≤ j.m.toNat) : JW b := by
  have := w.m0
  refine ⟨by rw [h.n]; exact w.n0, by rw [h.n]; exact w.n1, by rw [h.m]; exact w.m0, by rw [h.m]; exact w.m1, fun x hx => ?_, ?_⟩
  · rw [h.n, h.m]
    rcases h.mem.mp hx with ⟨h1, _⟩ | ⟨h1, h2, h3⟩
    · exact w.inr x h1
    · have := (List.getElem?_eq_some_iff.mp h3).1
      have := hr _ (List.mem_of_getElem? h3)
      exact ⟨h2, by omega, this.1, this.2⟩
  · refine (h.N.pairwise_iff fun {x y} z => ?_).mpr ?_
    · rintro ⟨e1, e2⟩
      exact z ⟨e1.symm, e2.symm⟩
    · rw [List.pairwise_append]
      refine ⟨w.so.sublist List.filter_sublist, (enumN_so pre 0).imp fun {x y} z e => by omega, fun x hx y hy => ?_⟩
      rintro ⟨e1, e2⟩
      obtain ⟨h1, h2, h3⟩ := mem_enumN.mp hy
      have h4 := (List.mem_filter.mp hx).2
      rw [e2, h1] at h4
      simp at h4
      have := (List.getElem?_eq_some_iff.mp h3).1
      simp at this
      omega
theorem Begun.ord {j b : J} {pre l : List Int} (h : Begun j pre b) (w : JW j) (ag : ∀ x ∈ notedL j true, x.1 < pre.length → pre[x.1.toNat]? = some x.2) : Ord b l ↔ pre.length ≤ l.length ∧ pre <+: l ∧ Ord j l := by
  have cn : ∀ x : Lk, x ∈ notedL b true ↔ (x ∈ notedL j true ∧ (pre.length : Int) ≤ x.1) ∨ (0 ≤ x.1 ∧ pre[x.1.toNat]? = some x.2) := fun x => by
    rw [mem_noted, mem_noted]
    constructor
    · rintro ⟨y, h1, h2, rfl⟩
      rcases h.mem.mp h1 with ⟨h3, h4⟩ | ⟨_, h4, h5⟩
      · rcases h4 with h4 | h4
        · rw [h2] at h4; cases h4
        · exact .inl ⟨⟨y, h3, h2, rfl⟩, h4⟩
      · exact .inr ⟨h4, h5⟩
    · rintro (⟨⟨y, h1, h2, rfl⟩, h3⟩ | ⟨h1, h2⟩)
      · exact ⟨y, h.mem.mpr (.inl ⟨h1, .inr h3⟩), h2, rfl⟩
      · exact ⟨⟨x.1, true, x.2⟩, h.mem.mpr (.inr ⟨rfl, h1, h2⟩), rfl, rfl⟩
  have en : ∀ x : Lk, x ∈ notedL b false ↔ x ∈ notedL j false := fun x => by
    rw [mem_noted, mem_noted]
    constructor
    · rintro ⟨y, h1, h2, rfl⟩
      rcases h.mem.mp h1 with ⟨h3, h4⟩ | ⟨h3, _⟩
      · exact ⟨y, h3, h2, rfl⟩
      · rw [h2] at h3; cases h3
    · rintro ⟨y, h1, h2, rfl⟩
      exact ⟨y, h.mem.mpr (.inl ⟨h1, .inl h2⟩), h2, rfl⟩
  constructor
  · intro o
    have hp : ∀ (i : Nat) (p : Int), pre[i]? = some p → l[i]? = some p := fun i p hi => by
      have := o.cl ((i : Int), p) ((cn _).mpr (.inr ⟨by simp, by simpa using hi⟩))
      simpa using this
    have hpl : pre.length ≤ l.length := by
      rcases Nat.lt_or_ge l.length pre.length with c | c
      · have := hp l.length pre[l.length] (List.getElem?_eq_getElem c)
        rw [List.getElem?_eq_none (Nat.le_refl _)] at this
        cases this
      · exact c
    have hpre : pre <+: l := by
      refine ⟨l.drop pre.length, ?_⟩
      have : pre = l.take pre.length := by
        refine List.ext_getElem? fun i => ?_
        rcases Nat.lt_or_ge i pre.length with c | c
        · rw [List.getElem?_take_of_lt c, hp i pre[i] (List.getElem?_eq_getElem c)]
          exact List.getElem?_eq_getElem c
        · rw [List.getElem?_eq_none c, List.getElem?_eq_none (by rw [List.length_take]; omega)]
      conv => lhs; lhs; rw [this]
      exact List.take_append_drop _ _
    refine ⟨hpl, hpre, ⟨by rw [← h.m]; exact o.len, by rw [← h.n]; exact o.inr, o.nd, fun x hx => ?_, fun x hx => o.en x ((en x).mpr hx)⟩⟩
    rcases Int.lt_or_le x.1 pre.length with c | c
    · exact hp _ _ (ag x hx c)
    · exact o.cl x ((cn x).mpr (.inl ⟨hx, c⟩))
  · rintro ⟨_, hpre, o⟩
    refine ⟨by rw [h.m]; exact o.len, by rw [h.n]; exact o.inr, o.nd, fun x hx => ?_, fun x hx => o.en x ((en x).mp hx)⟩
    rcases (cn x).mp hx with ⟨h1, _⟩ | ⟨h1, h2⟩
    · exact o.cl x h1
    · rw [pre_at hpre (List.getElem?_eq_some_iff.mp h2).1]
      exact h2
def agreeF (j : J) (pre : List Int) : Bool := (notedL j true).all fun x => decide ((pre.length : Int) ≤ x.1) || decide (pre[x.1.toNat]? = some x.2)
theorem agree_iff {j : J} {pre : List Int} : agreeF j pre = true ↔ ∀ x ∈ notedL j true, x.1 < pre.length → pre[x.1.toNat]? = some x.2 := by
  unfold agreeF
  rw [List.all_eq_true]
  constructor
  · intro h x hx hlt
    have := h x hx
    simp only [Bool.or_eq_true, decide_eq_true_eq] at this
    rcases this with z | z
    · omega
    · exact z
  · intro h x hx
    simp only [Bool.or_eq_true, decide_eq_true_eq]
    rcases Int.lt_or_le x.1 pre.length with c | c
    · exact .inr (h x hx c)
    · exact .inl c
def cntA (j : J) (pre : List Int) : Int := ((blk j pre).length : Int)
/-- how many orders begin so -/
theorem after_eq {j b : J} {pre : List Int} (h : Begun j pre b) (w : JW j) (nd : pre.Nodup) (hr : ∀ p ∈ pre, 0 ≤ p ∧ p < j.n) (hl : pre.length ≤ j.m.toNat) : (if agreeF j pre = true then countF b else 0) = cntA j pre := by
  unfold cntA
  split
  · rename_i ag
    refine count_of (h.jw w hr hl) (blk_nodup j pre) fun l => ?_
    rw [mem_blk w nd hr hl, h.ord w (agree_iff.mp ag)]
    exact ⟨fun z => ⟨z.1.length_le, z⟩, fun z => z.2⟩
  · rename_i ag
    have : blk j pre = [] := by
      rw [List.eq_nil_iff_forall_not_mem]
      intro l hm
      obtain ⟨h1, h2⟩ := (mem_blk w nd hr hl).mp hm
      exact ag (agree_iff.mpr (h2.fine w h1).cl)
    rw [this]
    rfl
/-! ### the next towns -/
def nextF (j : J) (pre : List Int) : List Lk := ((freeT j.n.toNat pre).map fun p => (p, cntA j (pre ++ [p]))).filter fun x => decide (0 < x.2)
def pick : List Lk → Int → Option Lk
  | [], _ => none
  | (p, c) :: t, r => if r < c then some (p, r) else pick t (r - c)
theorem pick_spec {j : J} {pre l : List Int} : ∀ (ps : List Int) (r : Int), 0 ≤ r → (ps.flatMap fun p => blk j (pre ++ [p]))[r.toNat]? = some l →
    ∃ p r', pick ((ps.map fun p => (p, cntA j (pre ++ [p]))).filter fun x => decide (0 < x.2)) r = some (p, r') ∧ p ∈ ps ∧ 0 ≤ r' ∧ (blk j (pre ++ [p]))[r'.toNat]? = some l
  | [], r, h0, h => by simp at h
  | p :: ps, r, h0, h => by
    rw [List.flatMap_cons] at h
    rw [List.map_cons]
    rcases Nat.lt_or_ge r.toNat (blk j (pre ++ [p])).length with c | c
    · rw [List.getElem?_append_left c] at h
      have c0 : 0 < cntA j (pre ++ [p]) := by unfold cntA; omega
      have c1 : r < cntA j (pre ++ [p]) := by unfold cntA; omega
      refine ⟨p, r, ?_, List.mem_cons_self, h0, h⟩
      rw [List.filter_cons_of_pos (by simpa using c0)]
      unfold pick
      rw [if_pos c1]
    · rw [List.getElem?_append_right c] at h
      have c1 : ¬ r < cntA j (pre ++ [p]) := by unfold cntA; omega
      obtain ⟨q, r', h1, h2, h3, h4⟩ := pick_spec ps (r - cntA j (pre ++ [p])) (by omega) (by
        rw [show (r - cntA j (pre ++ [p])).toNat = r.toNat - (blk j (pre ++ [p])).length by unfold cntA; omega]
        exact h)
      refine ⟨q, r', ?_, List.mem_cons_of_mem _ h2, h3, h4⟩
      by_cases c0 : 0 < cntA j (pre ++ [p])
      · rw [List.filter_cons_of_pos (by simpa using c0)]
        unfold pick
        rw [if_neg c1]
        exact h1
      · rw [List.filter_cons_of_neg (by simpa using c0)]
        have : cntA j (pre ++ [p]) = 0 := by unfold cntA at c0 ⊢; omega
        rw [this, Int.sub_zero] at h1
        exact h1
theorem pick_next {j : J} {pre l : List Int} {r : Int} (hl : pre.length < j.m.toNat) (h0 : 0 ≤ r) (h : (blk j pre)[r.toNat]? = some l) : ∃ p r', pick (nextF j pre) r = some (p, r') ∧ p ∈ freeT j.n.toNat pre ∧ 0 ≤ r' ∧ (blk j (pre ++ [p]))[r'.toNat]? = some l := by
  rw [blk_step hl] at h
  exact pick_spec _ r h0 h
theorem blk_full {j : J} {pre l : List Int} (hl : pre.length = j.m.toNat) (h : l ∈ blk j pre) : l = pre := by
  unfold blk at h
  rw [show j.m.toNat - pre.length = 0 by omega] at h
  unfold ext at h
  simpa using (List.mem_filter.mp h).1
/-! ### numbers -/
def belowF (j : J) (pre : List Int) (p : Int) : Int := (((nextF j pre).filter fun x => decide (x.1 < p)).map (·.2)).sum
/-- where the block of a town begins -/
theorem below_spec {j : J} {pre : List Int} {p : Int} : ∀ (ps : List Int), ps.Pairwise (· < ·) → p ∈ ps → ∀ r : Nat, r < (blk j (pre ++ [p])).length → ∃ o : Nat, (o : Int) = ((((ps.map fun p => (p, cntA j (pre ++ [p]))).filter fun x => decide (0 < x.2)).filter fun x => decide (x.1 < p)).map (·.2)).sum ∧
    (ps.flatMap fun p => blk j (pre ++ [p]))[o + r]? = (blk j (pre ++ [p]))[r]?
  | [], _, h, _, _ => by cases h
  | q :: ps, so, h, r, hr => by
    obtain ⟨s1, s2⟩ := List.pairwise_cons.mp so
    rw [List.map_cons, List.flatMap_cons]
    rcases List.mem_cons.mp h with rfl | h
    · refine ⟨0, ?_, ?_⟩
      · have : ((((p, cntA j (pre ++ [p])) :: ps.map fun p => (p, cntA j (pre ++ [p]))).filter fun x => decide (0 < x.2)).filter fun x => decide (x.1 < p)) = [] := by
          rw [List.filter_eq_nil_iff]
          intro x hx
          rcases List.mem_cons.mp (List.mem_filter.mp hx).1 with rfl | hx
          · simp
          · obtain ⟨y, hy, rfl⟩ := List.mem_map.mp hx
            have := s1 y hy
            simp
            omega
        rw [this]
        rfl
      · rw [Nat.zero_add, List.getElem?_append_left hr]
    · obtain ⟨o, h1, h2⟩ := below_spec ps s2 h r hr
      have hq := s1 p h
      refine ⟨(blk j (pre ++ [q])).length + o, ?_, ?_⟩
      · by_cases c0 : 0 < cntA j (pre ++ [q])
        · rw [List.filter_cons_of_pos (by simpa using c0), List.filter_cons_of_pos (by simpa using hq), List.map_cons, List.sum_cons, ← h1]
          show _ = cntA j (pre ++ [q]) + _
          unfold cntA
          omega
        · rw [List.filter_cons_of_neg (by simpa using c0), ← h1]
          unfold cntA at c0
          omega
      · rw [List.getElem?_append_right (by omega), ← h2]
        congr 1
        omega
theorem below_next {j : J} {pre : List Int} {p : Int} (hl : pre.length < j.m.toNat) (hp : p ∈ freeT j.n.toNat pre) {r : Nat} (hr : r < (blk j (pre ++ [p])).length) : ∃ o : Nat, (o : Int) = belowF j pre p ∧ (blk j pre)[o + r]? = (blk j (pre ++ [p]))[r]? := by
  rw [blk_step hl]
  exact below_spec _ ((rng_lt _).sublist List.filter_sublist) hp r hr
/-- the number of a row, up to a time -/
def numTo (j : J) (l : List Int) : Nat → Int
  | 0 => 0
  | i + 1 => numTo j l i + belowF j (l.take i) (l.getD i 0)
theorem num_at {j : J} (w : JW j) {l : List Int} (h : Ord j l) : ∀ i : Nat, i ≤ l.length → ∃ o : Nat, (o : Int) = numTo j l i ∧ ∀ r : Nat, r < (blk j (l.take i)).length → (blk j [])[o + r]? = (blk j (l.take i))[r]?
  | 0, _ => ⟨0, rfl, fun r _ => by rw [Nat.zero_add, List.take_zero]⟩
  | i + 1, hi => by
    obtain ⟨o, h1, h2⟩ := num_at w h i (by omega)
    have hl := h.len
    have e : l.take (i + 1) = l.take i ++ [l.getD i 0] := by
      rw [List.take_add_one, List.getD_eq_getElem?_getD, List.getElem?_eq_getElem (by omega)]
      rfl
    have hm : l.getD i 0 ∈ l := by
      rw [List.getD_eq_getElem?_getD, List.getElem?_eq_getElem (by omega)]
      exact List.getElem_mem _
    have wn := w.n0
    have hf : l.getD i 0 ∈ freeT j.n.toNat (l.take i) := by
      refine mem_freeT.mpr ⟨by have := h.inr _ hm; omega, fun z => ?_⟩
      obtain ⟨k, hk⟩ := List.mem_iff_getElem?.mp z
      have hkl := (List.getElem?_eq_some_iff.mp hk).1
      rw [List.length_take] at hkl
      rw [List.getElem?_take_of_lt (by omega)] at hk
      have : l[i]? = some (l.getD i 0) := by
        rw [List.getD_eq_getElem?_getD, List.getElem?_eq_getElem (by omega)]
        rfl
      have := nd_at h.nd hk this
      omega
    have hlt : (l.take i).length < j.m.toNat := by rw [List.length_take]; omega
    have hb0 : 0 < (blk j (l.take i ++ [l.getD i 0])).length := by
      rw [← e]
      refine List.length_pos_of_mem ((mem_blk w (h.nd.sublist (List.take_sublist _ _)) (fun p hp => h.inr p ((List.take_sublist _ _).subset hp)) (by rw [List.length_take]; omega)).mpr ⟨List.take_prefix _ _, h⟩)
    obtain ⟨o1, g1, _⟩ := below_next hlt hf hb0
    refine ⟨o + o1, by show _ = numTo j l i + _; omega, fun r hr => ?_⟩
    rw [e] at hr ⊢
    obtain ⟨o2, g3, g4⟩ := below_next hlt hf hr
    have : o2 = o1 := by omega
    subst this
    rw [← g4, ← h2 (o2 + r) ?_]
    · congr 1
      omega
    · have : (blk j (l.take i))[o2 + r]? ≠ none := by
        rw [g4, List.getElem?_eq_getElem hr]
        simp
      exact (List.getElem?_eq_some_iff.mp (Option.ne_none_iff_exists'.mp this).choose_spec).1
theorem num_full {j : J} (w : JW j) {l : List Int} (h : Ord j l) : 0 ≤ numTo j l l.length ∧ (blk j [])[(numTo j l l.length).toNat]? = some l := by
  obtain ⟨o, h1, h2⟩ := num_at w h l.length (Nat.le_refl _)
  have hl := h.len
  rw [List.take_of_length_le (Nat.le_refl _)] at h2
  have hm : l ∈ blk j l := (mem_blk w h.nd h.inr (by omega)).mpr ⟨List.prefix_refl _, h⟩
  obtain ⟨r, hr⟩ := List.mem_iff_getElem?.mp hm
  have hr1 := (List.getElem?_eq_some_iff.mp hr).1
  have hr0 : r = 0 := by
    have e1 : (blk j l)[0]? = some l := by
      have := List.getElem?_eq_getElem (l := blk j l) (i := 0) (by omega)
      rw [this, blk_full (by omega) (List.getElem_mem (l := blk j l) (n := 0) (by omega))]
    obtain ⟨l1, g1⟩ := List.getElem?_eq_some_iff.mp hr
    obtain ⟨l2, g2⟩ := List.getElem?_eq_some_iff.mp e1
    exact (List.getElem_inj (blk_nodup j l)).mp (g1.trans g2.symm)
  subst hr0
  have := h2 0 hr1
  rw [hr] at this
  refine ⟨by omega, ?_⟩
  rw [← h1]
  simpa using this
end MP

namespace MP
open PySem PySem.Spec
/-! ### orders by their notes -/
def truB (l : List Int) (x : Note) : Bool := if x.k = true then decide (l[x.t.toNat]? = some x.v) else !decide (x.v ∈ l.take (x.t.toNat + 1))
structure Row (n m : Int) (l : List Int) : Prop where
  len : (l.length : Int) = m
  inr : ∀ p ∈ l, 0 ≤ p ∧ p < n
  nd : l.Nodup
theorem ord_iff {j : J} {l : List Int} : Ord j l ↔ Row j.n j.m l ∧ ∀ x ∈ j.N, truB l x = true := by
  constructor
  · intro h
    refine ⟨⟨h.len, h.inr, h.nd⟩, fun x hx => ?_⟩
    unfold truB
    by_cases c : x.k = true
    · rw [if_pos c]
      exact decide_eq_true (h.cl (x.t, x.v) (mem_noted.mpr ⟨x, hx, c, rfl⟩))
    · rw [if_neg c]
      have := h.en (x.t, x.v) (mem_noted.mpr ⟨x, hx, by simpa using c, rfl⟩)
      simpa using this
  · rintro ⟨r, h⟩
    refine ⟨r.len, r.inr, r.nd, fun y hy => ?_, fun y hy => ?_⟩
    · obtain ⟨x, hx, hk, rfl⟩ := mem_noted.mp hy
      have := h x hx
      unfold truB at this
      rw [if_pos hk] at this
      simpa using this
    · obtain ⟨x, hx, hk, rfl⟩ := mem_noted.mp hy
      have := h x hx
      unfold truB at this
      rw [if_neg (by simp [hk])] at this
      simpa using this
/-- all rows of so many different towns, ascending -/
def rowsL (n m : Int) : List (List Int) := ext n.toNat m.toNat []
theorem mem_rows {n m : Int} (h0 : 0 ≤ n) (hm : 0 ≤ m) {l : List Int} : l ∈ rowsL n m ↔ Row n m l := by
  unfold rowsL
  rw [mem_ext List.nodup_nil (fun p hp => (nomatch hp))]
  constructor
  · rintro ⟨_, h2, h3, h4⟩
    simp at h2
    exact ⟨by omega, fun p hp => by have := h4 p hp; omega, h3⟩
  · rintro ⟨h1, h2, h3⟩
    exact ⟨List.nil_prefix, by simp; omega, h3, fun p hp => by have := h2 p hp; omega⟩
theorem rows_lt (n m : Int) : (rowsL n m).Pairwise fun a b => lexLt a b = true := ext_lt _ _
theorem rows_nodup (n m : Int) : (rowsL n m).Nodup := (rows_lt n m).imp fun {a b} h e => by
  subst e
  rw [lexLt_irr] at h
  cases h
def ordsL (j : J) : List (List Int) := (rowsL j.n j.m).filter fun l => j.N.all (truB l)
theorem mem_ords {j : J} (w : JW j) {l : List Int} : l ∈ ordsL j ↔ Ord j l := by
  unfold ordsL
  rw [List.mem_filter, mem_rows w.n0 w.m0, ord_iff, List.all_eq_true]
theorem ords_nodup (j : J) : (ordsL j).Nodup := (rows_nodup _ _).sublist List.filter_sublist
theorem ords_lt (j : J) : (ordsL j).Pairwise fun a b => lexLt a b = true := (rows_lt _ _).sublist List.filter_sublist
theorem count_ords {j : J} (w : JW j) : countF j = ((ordsL j).length : Int) := count_of w (ords_nodup j) fun _ => mem_ords w
theorem filter_congr' {α : Type} {p q : α → Bool} : ∀ {l : List α}, (∀ x ∈ l, p x = q x) → l.filter p = l.filter q
  | [], _ => rfl
  | x :: l, h => by
    rw [List.filter_cons, List.filter_cons, h x List.mem_cons_self, filter_congr' fun y hy => h y (List.mem_cons_of_mem _ hy)]
theorem bool_iff {a b : Bool} (h : a = true ↔ b = true) : a = b := by
  cases a <;> cases b <;> simp_all
theorem blk_ords {j : J} (w : JW j) : blk j [] = ordsL j := by
  unfold blk ordsL
  have e : j.m.toNat - ([] : List Int).length = j.m.toNat := by simp
  rw [e]
  refine filter_congr' fun l hl => bool_iff ?_
  have r := (mem_rows w.n0 w.m0 (l := l)).mp hl
  rw [orderF_iff, ord_iff, List.all_eq_true]
  exact ⟨fun h => h.2, fun h => ⟨r, h⟩⟩
/-! ### sums -/
theorem len_filter_sum {α : Type} (p : α → Bool) : ∀ l : List α, (l.filter p).length = (l.map fun x => if p x = true then 1 else 0).sum
  | [] => rfl
  | x :: l => by
    rw [List.filter_cons, List.map_cons, List.sum_cons, ← len_filter_sum p l]
    split
    · rw [List.length_cons]; omega
    · omega
theorem sum_add {α : Type} (f g : α → Nat) : ∀ l : List α, (l.map fun x => f x + g x).sum = (l.map f).sum + (l.map g).sum
  | [] => rfl
  | x :: l => by
    simp only [List.map_cons, List.sum_cons, sum_add f g l]
    omega
theorem sum_congr {α : Type} {f g : α → Nat} : ∀ {l : List α}, (∀ x ∈ l, f x = g x) → (l.map f).sum = (l.map g).sum
  | [], _ => rfl
  | x :: l, h => by
    simp only [List.map_cons, List.sum_cons, h x List.mem_cons_self, sum_congr fun y hy => h y (List.mem_cons_of_mem _ hy)]
theorem sum_const {α : Type} (c : Nat) : ∀ l : List α, (l.map fun _ => c).sum = l.length * c
  | [] => by simp
  | x :: l => by
    rw [List.map_cons, List.sum_cons, sum_const c l, List.length_cons, Nat.succ_mul]
    omega
theorem sum_swap {α β : Type} (p : α → β → Bool) : ∀ (xs : List α) (ys : List β), (xs.map fun x => (ys.filter (p x)).length).sum = (ys.map fun y => (xs.filter fun x => p x y).length).sum
  | [], ys => by
    rw [show (fun y => (([] : List α).filter fun x => p x y).length) = fun _ : β => 0 from rfl, sum_const]
    rfl
  | x :: xs, ys => by
    rw [List.map_cons, List.sum_cons, sum_swap p xs ys, len_filter_sum, ← sum_add]
    refine sum_congr fun y _ => ?_
    rw [List.filter_cons]
    split
    · rename_i h; rw [List.length_cons]; omega
    · rename_i h; omega
theorem sum_cast {α : Type} (f : α → Nat) : ∀ l : List α, (l.map fun x => (f x : Int)).sum = ((l.map f).sum : Int)
  | [] => rfl
  | x :: l => by
    rw [List.map_cons, List.sum_cons, sum_cast f l, List.map_cons, List.sum_cons]
    omega
theorem sum_congrI {α : Type} {f g : α → Int} : ∀ {l : List α}, (∀ x ∈ l, f x = g x) → (l.map f).sum = (l.map g).sum
  | [], _ => rfl
  | x :: l, h => by
    simp only [List.map_cons, List.sum_cons, h x List.mem_cons_self, sum_congrI fun y hy => h y (List.mem_cons_of_mem _ hy)]
theorem sum_mulI {α : Type} (f : α → Int) (c : Int) : ∀ l : List α, (l.map fun x => f x * c).sum = (l.map f).sum * c
  | [] => by simp
  | x :: l => by
    rw [List.map_cons, List.sum_cons, sum_mulI f c l, List.map_cons, List.sum_cons, Int.add_mul]
/-! ### one note more -/
structure Add (j : J) (x : Note) (j' : J) : Prop where
  n : j'.n = j.n
  m : j'.m = j.m
  N : j'.N.Perm (x :: j.N)
theorem Add.mem {j j' : J} {x : Note} (a : Add j x j') {y : Note} : y ∈ j'.N ↔ y = x ∨ y ∈ j.N := by rw [a.N.mem_iff, List.mem_cons]
theorem Add.ords {j j' : J} {x : Note} (a : Add j x j') : ordsL j' = (ordsL j).filter fun l => truB l x := by
  unfold ordsL
  rw [a.n, a.m, List.filter_filter]
  refine filter_congr' fun l _ => bool_iff ?_
  rw [List.all_eq_true, Bool.and_eq_true, List.all_eq_true]
  constructor
  · intro h
    exact ⟨h x (a.mem.mpr (.inl rfl)), fun y hy => h y (a.mem.mpr (.inr hy))⟩
  · rintro ⟨h1, h2⟩ y hy
    rcases a.mem.mp hy with rfl | hy
    · exact h1
    · exact h2 y hy
/-- room for a note -/
structure Fits (j : J) (x : Note) : Prop where
  t0 : 0 ≤ x.t
  t1 : x.t < j.m
  v0 : 0 ≤ x.v
  v1 : x.v < j.n
  no : ∀ y ∈ j.N, ¬ (y.t = x.t ∧ y.k = x.k)
theorem Add.jw {j j' : J} {x : Note} (a : Add j x j') (w : JW j) (f : Fits j x) : JW j' := by
  refine ⟨by rw [a.n]; exact w.n0, by rw [a.n]; exact w.n1, by rw [a.m]; exact w.m0, by rw [a.m]; exact w.m1, fun y hy => ?_, ?_⟩
  · rw [a.n, a.m]
    rcases a.mem.mp hy with rfl | hy
    · exact ⟨f.t0, f.t1, f.v0, f.v1⟩
    · exact w.inr y hy
  · refine (a.N.pairwise_iff fun {x y} z => ?_).mpr ?_
    · rintro ⟨e1, e2⟩
      exact z ⟨e1.symm, e2.symm⟩
    · refine List.pairwise_cons.mpr ⟨fun y hy e => f.no y hy ⟨e.1.symm, e.2.symm⟩, w.so⟩
theorem Add.jw' {j j' : J} {x : Note} (a : Add j x j') (w : JW j') : JW j ∧ Fits j x := by
  have so := (a.N.pairwise_iff (R := fun x y : Note => ¬ (x.t = y.t ∧ x.k = y.k)) fun {x y} z => by
    rintro ⟨e1, e2⟩
    exact z ⟨e1.symm, e2.symm⟩).mp w.so
  have so := List.pairwise_cons.mp so
  have := w.inr x (a.mem.mpr (.inl rfl))
  rw [a.n, a.m] at this
  refine ⟨⟨by rw [← a.n]; exact w.n0, by rw [← a.n]; exact w.n1, by rw [← a.m]; exact w.m0, by rw [← a.m]; exact w.m1, fun y hy => ?_, so.2⟩, ⟨this.1, this.2.1, this.2.2.1, this.2.2.2, fun y hy e => so.1 y hy ⟨e.1.symm, e.2.symm⟩⟩⟩
  have := w.inr y (a.mem.mpr (.inr hy))
  rw [a.n, a.m] at this
  exact this
theorem Add.ord {j j' : J} {x : Note} (a : Add j x j') {l : List Int} : Ord j' l ↔ Ord j l ∧ truB l x = true := by
  rw [ord_iff, ord_iff, a.n, a.m]
  constructor
  · rintro ⟨h1, h2⟩
    exact ⟨⟨h1, fun y hy => h2 y (a.mem.mpr (.inr hy))⟩, h2 x (a.mem.mpr (.inl rfl))⟩
  · rintro ⟨⟨h1, h2⟩, h3⟩
    refine ⟨h1, fun y hy => ?_⟩
    rcases a.mem.mp hy with rfl | hy
    · exact h3
    · exact h2 y hy
theorem Add.count {j j' : J} {x : Note} (a : Add j x j') (w : JW j') : countF j' = (((ordsL j).filter fun l => truB l x).length : Int) := by rw [count_ords w, a.ords]
theorem Add.count_le {j j' : J} {x : Note} (a : Add j x j') (w : JW j') : countF j' ≤ countF j := by
  rw [a.count w, count_ords (a.jw' w).1]
  have := List.length_filter_le (fun l => truB l x) (ordsL j)
  omega
theorem one_val {n : Nat} {p : Int} (h0 : 0 ≤ p) (h1 : p < n) : ((rng n).filter fun v => decide (some p = some v)).length = 1 := by
  refine filter_one (fun v => v) _ p (rng n) (by rw [List.map_id'']; exact rng_nodup n; intro x; rfl) (fun v _ h => by simpa using (of_decide_eq_true h : some p = some v).symm) ⟨p, mem_rng.mpr ⟨h0, h1⟩, by simp⟩
theorem filter_not_len {n : Nat} {q : List Int} (nd : q.Nodup) (hq : ∀ p ∈ q, 0 ≤ p ∧ p < (n : Int)) : ((rng n).filter fun v => !decide (v ∈ q)).length + q.length = n := by
  have h1 := len_split (fun v => decide (v ∈ q)) (rng n)
  rw [rng_len] at h1
  have h2 : ((rng n).filter fun v => decide (v ∈ q)).length = q.length := perm_len ((rng_nodup n).sublist List.filter_sublist) nd fun x => by
    rw [List.mem_filter, mem_rng, decide_eq_true_eq]
    exact ⟨fun h => h.2, fun h => ⟨hq x h, h⟩⟩
  omega
/-- over all towns of one time -/
theorem sum_closed {j : J} {t : Int} (w : JW j) (h0 : 0 ≤ t) (h1 : t < j.m) (js : Int → J) (a : ∀ v ∈ rng j.n.toNat, Add j ⟨t, true, v⟩ (js v)) (ws : ∀ v ∈ rng j.n.toNat, JW (js v)) : ((rng j.n.toNat).map fun v => countF (js v)).sum = countF j := by
  rw [sum_congrI fun v hv => (a v hv).count (ws v hv), sum_cast (fun v => ((ordsL j).filter fun l => truB l ⟨t, true, v⟩).length), sum_swap fun v l => truB l ⟨t, true, v⟩, count_ords w, sum_congr (g := fun _ => 1), sum_const, Nat.mul_one]
  intro l hl
  have o := (mem_ords w).mp hl
  have ol := o.len
  have e : l[t.toNat]? = some l[t.toNat] := List.getElem?_eq_getElem (by omega)
  have hr := o.inr _ (List.mem_of_getElem? e)
  have := one_val (n := j.n.toNat) (p := l[t.toNat]) (by omega) (by omega)
  rw [← this]
  show ((rng j.n.toNat).filter fun v => truB l ⟨t, true, v⟩).length = _
  congr 1
  refine filter_congr' fun v _ => ?_
  show decide (l[t.toNat]? = some v) = _
  rw [e]
theorem sum_end {j : J} {t : Int} (w : JW j) (h0 : 0 ≤ t) (h1 : t < j.m) (js : Int → J) (a : ∀ v ∈ rng j.n.toNat, Add j ⟨t, false, v⟩ (js v)) (ws : ∀ v ∈ rng j.n.toNat, JW (js v)) : ((rng j.n.toNat).map fun v => countF (js v)).sum = countF j * (j.n - 1 - t) := by
  rw [sum_congrI fun v hv => (a v hv).count (ws v hv), sum_cast (fun v => ((ordsL j).filter fun l => truB l ⟨t, false, v⟩).length), sum_swap fun v l => truB l ⟨t, false, v⟩, count_ords w, sum_congr (g := fun _ => (j.n - 1 - t).toNat), sum_const]
  · by_cases c : ordsL j = []
    · rw [c]; simp
    · obtain ⟨l, hl⟩ := List.exists_mem_of_ne_nil _ c
      have o := (mem_ords w).mp hl
      have ol := o.len
      have : l.length ≤ (rng j.n.toNat).length := nodup_sub_len o.nd fun p hp => mem_rng.mpr (by have := o.inr p hp; omega)
      rw [rng_len] at this
      rw [Int.natCast_mul, Int.toNat_of_nonneg (by omega)]
  intro l hl
  have o := (mem_ords w).mp hl
  have ol := o.len
  have := filter_not_len (n := j.n.toNat) (q := l.take (t.toNat + 1)) (o.nd.sublist (List.take_sublist _ _)) fun p hp => by
    have := o.inr p ((List.take_sublist _ _).subset hp)
    omega
  rw [List.length_take] at this
  show ((rng j.n.toNat).filter fun v => !decide (v ∈ l.take (t.toNat + 1))).length = _
  omega
/-! ### lost ends -/
theorem lost_fold (tk : List Int) (f : Int → Int) : ∀ (l : List Int) (a : Int), l.foldl (fun a t => if t ∈ tk then a else a * f t) a = a * l.foldl (fun a t => if t ∈ tk then a else a * f t) 1
  | [], a => by simp
  | x :: l, a => by
    rw [List.foldl_cons, List.foldl_cons]
    split
    · exact lost_fold tk f l a
    · rw [lost_fold tk f l (a * f x), lost_fold tk f l (1 * f x), Int.one_mul, Int.mul_assoc]
theorem lost_congr {tk tk' : List Int} (f : Int → Int) : ∀ (l : List Int) (a : Int), (∀ t ∈ l, t ∈ tk ↔ t ∈ tk') → l.foldl (fun a t => if t ∈ tk then a else a * f t) a = l.foldl (fun a t => if t ∈ tk' then a else a * f t) a
  | [], a, _ => rfl
  | x :: l, a, h => by
    rw [List.foldl_cons, List.foldl_cons]
    have := h x List.mem_cons_self
    by_cases c : x ∈ tk
    · rw [if_pos c, if_pos (this.mp c)]
      exact lost_congr f l a fun t ht => h t (List.mem_cons_of_mem _ ht)
    · rw [if_neg c, if_neg fun z => c (this.mpr z)]
      exact lost_congr f l _ fun t ht => h t (List.mem_cons_of_mem _ ht)
theorem lost_take {tk tk' : List Int} (f : Int → Int) {t : Int} : ∀ (l : List Int), l.Nodup → t ∈ l → t ∉ tk → (∀ s ∈ l, s ∈ tk' ↔ s = t ∨ s ∈ tk) → l.foldl (fun a t => if t ∈ tk then a else a * f t) 1 = l.foldl (fun a t => if t ∈ tk' then a else a * f t) 1 * f t
  | [], _, h, _, _ => by cases h
  | x :: l, nd, h, hn, hi => by
    rw [List.foldl_cons, List.foldl_cons]
    have nd := List.nodup_cons.mp nd
    have hx := hi x List.mem_cons_self
    by_cases c : x = t
    · subst c
      rw [if_neg hn, if_pos (hx.mpr (.inl rfl)), Int.one_mul, lost_fold, Int.mul_comm]
      congr 1
      exact lost_congr f l 1 fun s hs => by
        rw [hi s (List.mem_cons_of_mem _ hs)]
        exact ⟨.inr, fun z => z.elim (fun e => by subst e; exact absurd hs nd.1) id⟩
    · have ht : t ∈ l := by
        rcases List.mem_cons.mp h with e | e
        · exact absurd e.symm c
        · exact e
      have ih := lost_take f l nd.2 ht hn fun s hs => hi s (List.mem_cons_of_mem _ hs)
      by_cases d : x ∈ tk
      · rw [if_pos d, if_pos (hx.mpr (.inr d))]
        exact ih
      · rw [if_neg d, if_neg fun z => (hx.mp z).elim c d, Int.one_mul, lost_fold, lost_fold (tk := tk') (a := f x), ih, Int.mul_assoc]
theorem Add.times {j j' : J} {x : Note} (a : Add j x j') (k : Bool) (s : Int) : s ∈ timesF j' k ↔ (x.k = k ∧ s = x.t) ∨ s ∈ timesF j k := by
  rw [mem_times, mem_times]
  constructor
  · rintro ⟨p, hp⟩
    obtain ⟨y, hy, hk, e⟩ := mem_noted.mp hp
    cases e
    rcases a.mem.mp hy with rfl | hy
    · exact .inl ⟨hk, rfl⟩
    · exact .inr ⟨y.v, mem_noted.mpr ⟨y, hy, hk, rfl⟩⟩
  · rintro (⟨h1, rfl⟩ | ⟨p, hp⟩)
    · exact ⟨x.v, mem_noted.mpr ⟨x, a.mem.mpr (.inl rfl), h1, rfl⟩⟩
    · obtain ⟨y, hy, hk, e⟩ := mem_noted.mp hp
      exact ⟨p, mem_noted.mpr ⟨y, a.mem.mpr (.inr hy), hk, e⟩⟩
theorem Add.lost_closed {j j' : J} {x : Note} (a : Add j x j') (hk : x.k = true) : lostF j' = lostF j := by
  unfold lostF
  rw [a.n, a.m]
  refine lost_congr _ _ _ fun t _ => ?_
  rw [a.times]
  simp [hk]
theorem Add.lost_end {j j' : J} {x : Note} (a : Add j x j') (f : Fits j x) (hk : x.k = false) : lostF j = lostF j' * (j.n - 1 - x.t) := by
  have t0 := f.t0
  have t1 := f.t1
  unfold lostF
  rw [a.n, a.m]
  refine lost_take (fun t => j.n - 1 - t) (rng j.m.toNat) (rng_nodup _) (mem_rng.mpr (by omega)) (fun h => ?_) fun s _ => ?_
  · obtain ⟨p, hp⟩ := mem_times.mp h
    obtain ⟨y, hy, h1, h2⟩ := mem_noted.mp hp
    exact f.no y hy ⟨(Prod.mk.inj h2).1.symm, h1.trans hk.symm⟩
  · rw [a.times]
    simp [hk]
theorem sum_stories {j : J} {t : Int} {k : Bool} (w : JW j) (h0 : 0 ≤ t) (h1 : t < j.m) (js : Int → J) (a : ∀ v ∈ rng j.n.toNat, Add j ⟨t, k, v⟩ (js v)) (ws : ∀ v ∈ rng j.n.toNat, JW (js v)) : ((rng j.n.toNat).map fun v => countF (js v) * lostF (js v)).sum = countF j * lostF j := by
  cases k with
  | true =>
    rw [sum_congrI fun v hv => by rw [(a v hv).lost_closed rfl], sum_mulI, sum_closed w h0 h1 js a ws]
  | false =>
    cases hr : rng j.n.toNat with
    | nil =>
      have : countF j = 0 := by
        have := sum_end w h0 h1 js a ws
        have wn := w.n0
        have : j.n.toNat = 0 := by have := rng_len j.n.toNat; rw [hr] at this; exact this.symm
        rw [count_ords w]
        by_cases c : ordsL j = []
        · rw [c]; rfl
        · obtain ⟨l, hl⟩ := List.exists_mem_of_ne_nil _ c
          have o := (mem_ords w).mp hl
          have ol := o.len
          have e : l[t.toNat]? = some l[t.toNat] := List.getElem?_eq_getElem (by omega)
          have hr := o.inr _ (List.mem_of_getElem? e)
          omega
      rw [this]; simp
    | cons v0 vs =>
      have hv0 : v0 ∈ rng j.n.toNat := by rw [hr]; exact List.mem_cons_self
      have l0 := (a v0 hv0).lost_end ((a v0 hv0).jw' (ws v0 hv0)).2 rfl
      have lv : ∀ v ∈ rng j.n.toNat, lostF (js v) = lostF (js v0) := fun v hv => by
        unfold lostF
        rw [(a v hv).n, (a v hv).m, (a v0 hv0).n, (a v0 hv0).m]
        refine lost_congr _ _ _ fun s _ => ?_
        rw [(a v hv).times, (a v0 hv0).times]
      rw [← hr, sum_congrI fun v hv => by rw [lv v hv], sum_mulI, sum_end w h0 h1 js a ws, l0]
      show countF j * (j.n - 1 - t) * lostF (js v0) = countF j * (lostF (js v0) * (j.n - 1 - t))
      rw [Int.mul_assoc, Int.mul_comm (j.n - 1 - t)]
end MP

namespace MP
open PySem PySem.Spec
/-! ### an order, or evidence -/
theorem len_map_filter {α β : Type} (f : α → β) (p : β → Bool) : ∀ l : List α, ((l.map f).filter p).length = (l.filter fun x => p (f x)).length
  | [] => rfl
  | x :: l => by
    rw [List.map_cons, List.filter_cons, List.filter_cons]
    split
    · rw [List.length_cons, List.length_cons, len_map_filter f p l]
    · exact len_map_filter f p l
theorem few_iff {j : J} {t : Int} : fewF j t = false ↔ t < (((rng j.n.toNat).filter fun p => decide ((spanF j p).1 ≤ (spanF j p).2) && decide ((spanF j p).1 ≤ t)).length : Int) := by
  unfold fewF windF
  rw [decide_eq_false_iff_not, len_map_filter (spanF j) (fun x => decide (x.1 ≤ x.2) && decide (x.1 ≤ t))]
  omega
theorem evid_non {j : J} : evidF j = .non ↔ (∀ x ∈ notedL j true, (spanF j x.2).1 ≤ (spanF j x.2).2) ∧ ∀ t ∈ rng j.m.toNat, fewF j t = false := by
  have key1 : (lostT j).length = 0 ↔ ∀ x ∈ notedL j true, (spanF j x.2).1 ≤ (spanF j x.2).2 := by
    rw [List.length_eq_zero_iff]
    constructor
    · intro h x hx
      by_cases c : (spanF j x.2).2 < (spanF j x.2).1
      · have : x.2 ∈ lostT j := by
          unfold lostT
          rw [mem_usort, List.mem_map]
          exact ⟨x, List.mem_filter.mpr ⟨hx, decide_eq_true c⟩, rfl⟩
        rw [h] at this; cases this
      · omega
    · intro h
      refine List.eq_nil_iff_forall_not_mem.mpr fun p hp => ?_
      unfold lostT at hp
      rw [mem_usort, List.mem_map] at hp
      obtain ⟨x, hx, rfl⟩ := hp
      have := List.mem_filter.mp hx
      have h1 := h x this.1
      have h2 := of_decide_eq_true this.2
      omega
  have key2 : ((rng j.m.toNat).filter (fewF j)).length = 0 ↔ ∀ t ∈ rng j.m.toNat, fewF j t = false := by
    rw [List.length_eq_zero_iff, List.filter_eq_nil_iff]
    exact ⟨fun h t ht => by simpa using h t ht, fun h t ht => by simp [h t ht]⟩
  rw [← key1, ← key2]
  unfold evidF
  constructor
  · intro h
    split at h
    · cases h
    · split at h
      · cases h
      · omega
  · rintro ⟨h1, h2⟩
    rw [if_neg (by omega), if_neg (by omega)]
theorem prod_pos (st : List Int) : ∀ (ts : List Int) (u : Int), (∀ (i : Nat) (t : Int), ts[i]? = some t → u + i + 1 ≤ cntLe st t) → 0 < prodK st 0 u ts
  | [], u, _ => by unfold prodK; omega
  | t :: ts, u, h => by
    have h0 := h 0 t rfl
    have ih := prod_pos st ts (u + 1) fun i s hs => by
      have := h (i + 1) s (by simpa using hs)
      omega
    unfold prodK
    refine Int.mul_pos ?_ ih
    rw [pos0_pos (by omega)]
    omega
theorem free_at {tk : List Int} : ∀ {m i : Nat} {t : Int}, (frT m tk)[i]? = some t → 0 ≤ t ∧ t < m ∧ t ∉ tk ∧ (frT t.toNat tk).length = i := by
  intro m
  induction m with
  | zero => intro i t h; simp [frT, rng] at h
  | succ m ih =>
    intro i t h
    rw [frT_succ] at h
    by_cases c : i < (frT m tk).length
    · rw [List.getElem?_append_left c] at h
      have := ih h
      exact ⟨this.1, by omega, this.2.2⟩
    · rw [List.getElem?_append_right (by omega)] at h
      by_cases d : (m : Int) ∈ tk
      · rw [if_pos d] at h; simp at h
      · rw [if_neg d] at h
        have e : i - (frT m tk).length = 0 := by
          have := (List.getElem?_eq_some_iff.mp h).1
          simp at this
          omega
        rw [e] at h
        simp at h
        subst h
        exact ⟨by omega, by omega, d, by rw [Int.toNat_natCast]; omega⟩
theorem evid_sound {j : J} (h : ∀ x ∈ notedL j true, (spanF j x.2).1 ≤ (spanF j x.2).2) : soundF j = true := by
  unfold soundF
  rw [List.all_eq_true]
  intro x hx
  have h1 := (le_start (j := j) (p := x.2) (t := x.1)).1 hx
  have h2 := last_le (j := j) (p := x.2) (t := x.1) hx
  have h3 := h x hx
  refine decide_eq_true ?_
  show ((spanF j x.2).1, (spanF j x.2).2) = (x.1, x.1)
  rw [show (spanF j x.2).1 = x.1 by omega, show (spanF j x.2).2 = x.1 by omega]
theorem evid_room {j : J} (w : JW j) (s : soundF j = true) {t : Int} {i : Nat} (hf : fewF j t = false) (ht : (frT j.m.toNat (timesF j true))[i]? = some t) : (i : Int) + 1 ≤ cntLe (startsF j) t := by
  have wn := w.n0
  obtain ⟨t0, t1, t2, t3⟩ := free_at ht
  have hf := few_iff.mp hf
  -- the towns that may be closed by then
  have h1 : ((rng j.n.toNat).filter fun p => decide ((spanF j p).1 ≤ (spanF j p).2) && decide ((spanF j p).1 ≤ t)).length ≤ ((rng j.n.toNat).filter fun p => decide ((spanF j p).1 ≤ t)).length := by
    refine nodup_sub_len ((rng_nodup _).sublist List.filter_sublist) fun p hp => ?_
    have := List.mem_filter.mp hp
    rw [Bool.and_eq_true] at this
    exact List.mem_filter.mpr ⟨this.1, this.2.2⟩
  have h2 := len_split (fun p => decide (p ∈ townsF j)) ((rng j.n.toNat).filter fun p => decide ((spanF j p).1 ≤ t))
  rw [List.filter_filter, List.filter_filter] at h2
  have h3 : cntLe (startsF j) t = (((rng j.n.toNat).filter fun p => !decide (p ∈ townsF j) && decide ((spanF j p).1 ≤ t)).length : Int) := by
    unfold cntLe startsF
    rw [len_map_filter (fun p => (spanF j p).1) (fun x => decide (x ≤ t)), List.filter_filter]
    congr 2
    refine filter_congr' fun p _ => ?_
    rw [Bool.and_comm]
  have h4 : ((rng j.n.toNat).filter fun p => decide (p ∈ townsF j) && decide ((spanF j p).1 ≤ t)).length ≤ ((rng t.toNat).filter fun s => decide (s ∈ timesF j true)).length := by
    rw [← List.length_map (f := fun p => (spanF j p).1)]
    have tw : ∀ p ∈ (rng j.n.toNat).filter fun p => decide (p ∈ townsF j) && decide ((spanF j p).1 ≤ t), ((spanF j p).1, p) ∈ notedL j true ∧ (spanF j p).1 ≤ t := fun p hp => by
      have := List.mem_filter.mp hp
      rw [Bool.and_eq_true, decide_eq_true_eq, decide_eq_true_eq] at this
      obtain ⟨s', hs'⟩ := mem_towns.mp this.2.1
      have e := sound_at s hs'
      rw [e]
      exact ⟨hs', by have := this.2.2; rw [e] at this; exact this⟩
    refine nodup_sub_len ?_ fun x hx => ?_
    · refine List.pairwise_map.mpr (List.Pairwise.imp_of_mem ?_ ((rng_nodup j.n.toNat).sublist List.filter_sublist))
      intro a b ha hb hne e
      have ea := (tw a ha).1
      rw [show (spanF j a).1 = (spanF j b).1 from e] at ea
      exact hne (noted_fun w ea (tw b hb).1)
    · obtain ⟨p, hp, rfl⟩ := List.mem_map.mp hx
      obtain ⟨g1, g2⟩ := tw p hp
      have g3 : (spanF j p).1 ∈ timesF j true := mem_times.mpr ⟨p, g1⟩
      have g4 := (noted_inr w g1).1
      have ne : (spanF j p).1 ≠ t := fun e => t2 (e ▸ g3)
      exact List.mem_filter.mpr ⟨mem_rng.mpr ⟨g4, by have : (spanF j p).1 ≤ t := g2; omega⟩, decide_eq_true g3⟩
  have h5 := len_split (fun s => decide (s ∈ timesF j true)) (rng t.toNat)
  rw [rng_len] at h5
  have h6 : ((rng t.toNat).filter fun x => !decide (x ∈ timesF j true)).length = i := t3
  rw [h3]
  have h7 : ((rng j.n.toNat).filter fun x => decide (x ∈ townsF j) && decide ((spanF j x).1 ≤ t)).length + ((rng j.n.toNat).filter fun x => !decide (x ∈ townsF j) && decide ((spanF j x).1 ≤ t)).length = ((rng j.n.toNat).filter fun p => decide ((spanF j p).1 ≤ t)).length := h2
  omega
theorem evid_iff {j : J} (w : JW j) : evidF j = .non ↔ 0 < countF j := by
  rw [evid_non]
  constructor
  · rintro ⟨h1, h2⟩
    have s := evid_sound h1
    unfold countF
    rw [if_pos s, fold_prod]
    show 0 < 1 * prodK (startsF j) 0 0 (frT j.m.toNat (timesF j true))
    rw [Int.one_mul]
    refine prod_pos _ _ _ fun i t ht => ?_
    have := free_at ht
    have := evid_room w s (h2 t (mem_rng.mpr ⟨this.1, by omega⟩)) ht
    omega
  · intro h
    obtain ⟨l, o⟩ := (count_pos w).mp h
    refine ⟨fun x hx => ?_, fun t ht => few_iff.mpr ?_⟩
    · have := o.cl x hx
      have := o.within w this
      omega
    · obtain ⟨t0, t1⟩ := mem_rng.mp ht
      have ol := o.len
      have wn := w.n0
      have : (l.take (t.toNat + 1)).length ≤ ((rng j.n.toNat).filter fun p => decide ((spanF j p).1 ≤ (spanF j p).2) && decide ((spanF j p).1 ≤ t)).length := by
        refine nodup_sub_len (o.nd.sublist (List.take_sublist _ _)) fun p hp => ?_
        obtain ⟨i, hi⟩ := List.mem_iff_getElem?.mp hp
        have hi2 : i < t.toNat + 1 := by
          have := (List.getElem?_eq_some_iff.mp hi).1
          rw [List.length_take] at this
          omega
        rw [List.getElem?_take_of_lt hi2] at hi
        have := o.within w hi
        have := o.inr p (List.mem_of_getElem? hi)
        refine List.mem_filter.mpr ⟨mem_rng.mpr (by omega), ?_⟩
        rw [Bool.and_eq_true, decide_eq_true_eq, decide_eq_true_eq]
        omega
      rw [List.length_take] at this
      omega
/-! ### windows with one note more -/
theorem Add.noted {j j' : J} {x : Note} (a : Add j x j') (k : Bool) (y : Lk) : y ∈ notedL j' k ↔ (x.k = k ∧ y = (x.t, x.v)) ∨ y ∈ notedL j k := by
  rw [mem_noted, mem_noted]
  constructor
  · rintro ⟨z, hz, hk, e⟩
    rcases a.mem.mp hz with rfl | hz
    · exact .inl ⟨hk, e⟩
    · exact .inr ⟨z, hz, hk, e⟩
  · rintro (⟨h1, h2⟩ | ⟨z, hz, hk, e⟩)
    · exact ⟨x, a.mem.mpr (.inl rfl), h1, h2⟩
    · exact ⟨z, a.mem.mpr (.inr hz), hk, e⟩
theorem Add.span {j j' : J} {x : Note} (a : Add j x j') (w : JW j') (p : Int) : (spanF j p).1 ≤ (spanF j' p).1 ∧ (spanF j' p).2 ≤ (spanF j p).2 := by
  obtain ⟨w0, f⟩ := a.jw' w
  constructor
  · refine start_le (start_nn w) (fun t ht => le_start.1 ((a.noted true _).mpr (.inr ht))) fun t ht => le_start.2 ((a.noted false _).mpr (.inr ht))
  · refine last_ge ?_ fun t ht => last_le ((a.noted true _).mpr (.inr ht))
    rw [← a.m]
    show minO _ _ ≤ _
    rcases minO_mem (l := cameL j' p) (z := j'.m - 1) with ⟨_, e⟩ | ⟨e, _⟩
    · omega
    · have := (noted_inr w (mem_came.mp e)).2.1
      have : minO (cameL j' p) (j'.m - 1) < j'.m := this
      omega
theorem lost_pos {j : J} (w : JW j) (h : j.m < j.n) : 1 ≤ lostF j :=
  (lost_mono (timesF j false) (fun t => j.n - 1 - t) (fun t => j.n - 1 - t) (rng j.m.toNat) 1 1 (by omega) (by omega) fun t ht => by
    have := mem_rng.mp ht
    have := w.m0
    omega).1
theorem Add.stories_le {j j' : J} {x : Note} (a : Add j x j') (w : JW j') (h : j.m < j.n) : countF j' * lostF j' ≤ countF j * lostF j := by
  obtain ⟨w0, f⟩ := a.jw' w
  have l1 := lost_pos w (by rw [a.m, a.n]; exact h)
  have l2 := lost_pos w0 h
  have c := a.count_le w
  have c0 := count_nn w
  have t1 := f.t1
  have le : lostF j' ≤ lostF j := by
    cases hk : x.k with
    | true => rw [a.lost_closed hk]; exact Int.le_refl _
    | false =>
      rw [a.lost_end f hk]
      have : lostF j' * 1 ≤ lostF j' * (j.n - 1 - x.t) := Int.mul_le_mul_of_nonneg_left (by omega) (by omega)
      omega
  exact Int.mul_le_mul c le (by omega) (by omega)
end MP

namespace MP
open PySem PySem.Spec
/-! ### runs that end well -/
def okE {α : Type} (r : Res α) (Q : α → Sto → Prop) : Prop := ∃ a S, r = .ok a S ∧ Q a S
abbrev PN := Envm → Sto → Prop
abbrev PT := R → Sto → Prop
def okO (o : Out) (N : PN) (T : PT) (K C : PN) : Prop := match o with
  | .nx e S => N e S
  | .rt r S => T r S
  | .bk e S => K e S
  | .ct e S => C e S
  | _ => False
def okB (o : Option Envm) (P : Envm → Prop) : Prop := match o with
  | some e => P e
  | none => False
def no2 {α : Type} : α → Sto → Prop := fun _ _ => False
theorem eq_of_ok {α : Type} {r : Res α} {x : α} {S : Sto} (h : okE r fun a S' => a = x ∧ S' = S) : r = .ok x S := by
  obtain ⟨a, S1, h1, rfl, rfl⟩ := h
  exact h1
theorem ok_of_eq {α : Type} {r : Res α} {x : α} {S : Sto} {Q : α → Sto → Prop} (h : r = .ok x S) (q : Q x S) : okE r Q := ⟨x, S, h, q⟩
theorem okE.imp {α : Type} {r : Res α} {P Q : α → Sto → Prop} (h : okE r P) (i : ∀ a S, P a S → Q a S) : okE r Q := by
  obtain ⟨a, S, h1, h2⟩ := h
  exact ⟨a, S, h1, i a S h2⟩
theorem okE_ok {α : Type} (a : α) (S : Sto) (Q : α → Sto → Prop) : okE (.ok a S) Q = Q a S := propext ⟨fun ⟨_, _, h, q⟩ => by cases h; exact q, fun q => ⟨a, S, rfl, q⟩⟩
theorem okE_bad {α : Type} (Q : α → Sto → Prop) : okE .bad Q = False := propext ⟨fun ⟨_, _, h, _⟩ => (nomatch h), fun q => False.elim q⟩
theorem okE_bind {α β : Type} (r : Res α) (f : α → Sto → Res β) (Q : β → Sto → Prop) : okE (r.bind f) Q = okE r fun a S => okE (f a S) Q := by
  cases r with
  | ok a S => rw [okE_ok]; rfl
  | xn c x S => exact propext ⟨fun ⟨_, _, h, _⟩ => (nomatch h), fun ⟨_, _, h, _⟩ => (nomatch h)⟩
  | bad => rw [okE_bad]; exact okE_bad _
theorem okE_map {α β : Type} (r : Res α) (f : α → β) (Q : β → Sto → Prop) : okE (r.map f) Q = okE r fun a S => Q (f a) S := by
  cases r with
  | ok a S => rw [okE_ok]; exact okE_ok _ _ _
  | xn c x S => exact propext ⟨fun ⟨_, _, h, _⟩ => (nomatch h), fun ⟨_, _, h, _⟩ => (nomatch h)⟩
  | bad => rw [okE_bad]; exact okE_bad _
theorem okE_ite {α : Type} (c : Prop) [Decidable c] (a b : Res α) (Q : α → Sto → Prop) : okE (if c then a else b) Q = if c then okE a Q else okE b Q := by split <;> rfl
theorem okO_ite (c : Prop) [Decidable c] (a b : Out) (N : PN) (T : PT) (K C : PN) : okO (if c then a else b) N T K C = if c then okO a N T K C else okO b N T K C := by split <;> rfl
theorem okB_some (e : Envm) (P : Envm → Prop) : okB (some e) P = P e := rfl
theorem okB_none (P : Envm → Prop) : okB none P = False := rfl
section
variable (env e : Envm) (S : Sto) (i n : Nat) (N : PN) (T : PT) (K C : PN)
theorem okO_nx : okO (.nx e S) N T K C = N e S := rfl
theorem okO_rt (r : R) : okO (.rt r S) N T K C = T r S := rfl
theorem okO_bk : okO (.bk e S) N T K C = K e S := rfl
theorem okO_ct : okO (.ct e S) N T K C = C e S := rfl
theorem okO_bad : okO .bad N T K C = False := rfl
/-! ### expressions -/
theorem sz_nil {α : Type} : ([] : List α).length = 0 := rfl
theorem sz_cons {α : Type} (a : α) (l : List α) : (a :: l).length = l.length + 1 := rfl
theorem sz_map {α β : Type} (f : α → β) (l : List α) : (l.map f).length = l.length := List.length_map _
theorem at_zero {α : Type} (a : α) (l : List α) : (a :: l)[0]? = some a := rfl
theorem at_succ {α : Type} (a : α) (l : List α) (n : Nat) : (a :: l)[n + 1]? = l[n]? := rfl
theorem st_zero {α : Type} (a b : α) (l : List α) : (a :: l).set 0 b = b :: l := rfl
theorem st_succ {α : Type} (a b : α) (l : List α) (n : Nat) : (a :: l).set (n + 1) b = a :: l.set n b := rfl
def slV : Option Sl → Sto → Res D := fun o S => match o with
  | some (.va d) => .ok d S
  | _ => .bad
def slB : Option Sl → Sto → Res D := fun o S => match o with
  | some (.va d) => .ok d S
  | some (.ow x) => .ok x.toD S
  | _ => .bad
def slM : Option Sl → Sto → Res R := fun o S => match o with
  | some (.va d) => .ok (.v d) S
  | some (.ow x) => .ok (.o x) S
  | _ => .bad
theorem ev_dVar : dVar i env S = slV env[i]? S := by unfold dVar slV; split <;> simp_all
theorem ev_dBVar : dBVar i env S = slB env[i]? S := by unfold dBVar slB; split <;> simp_all
theorem ev_dMv : dMv i env S = slM env[i]? S := by unfold dMv slM; split <;> simp_all
theorem slV_va (d : D) : slV (some (.va d)) S = .ok d S := rfl
theorem slB_va (d : D) : slB (some (.va d)) S = .ok d S := rfl
theorem slB_l (x : List D) : slB (some (.ow (.l x))) S = .ok (.lst x) S := rfl
theorem slB_k (x : List L2.Key) (y : List D) : slB (some (.ow (.k x y))) S = .ok (.dk x y) S := rfl
theorem slB_t (x : List (List L2.Key)) (y : List D) : slB (some (.ow (.t x y))) S = .ok (.dt x y) S := rfl
theorem slM_va (d : D) : slM (some (.va d)) S = .ok (.v d) S := rfl
theorem slM_ow (x : O) : slM (some (.ow x)) S = .ok (.o x) S := rfl
theorem ev_dC (d : D) : dC d env S = .ok d S := rfl
theorem ev_fz (dr : DR) : fz dr env S = (dr env S).map R.val := rfl
theorem ev_rv (de : DE) : rv de env S = (de env S).map R.v := rfl
theorem val_v (d : D) : R.val (.v d) = d := rfl
theorem val_l (x : List D) : R.val (.o (.l x)) = .lst x := rfl
theorem val_k (x : List L2.Key) (y : List D) : R.val (.o (.k x y)) = .dk x y := rfl
theorem val_t (x : List (List L2.Key)) (y : List D) : R.val (.o (.t x y)) = .dt x y := rfl
theorem ev_toDl (x : List D) : O.toD (.l x) = .lst x := rfl
theorem ev_toDk (x : List L2.Key) (y : List D) : O.toD (.k x y) = .dk x y := rfl
theorem ev_toDt (x : List (List L2.Key)) (y : List D) : O.toD (.t x y) = .dt x y := rfl
theorem ev_dOp (f : D → D → Sto → Res R) (da db : DE) : dOp f da db env S = (da env S).bind fun x S1 => (db env S1).bind fun y S2 => f x y S2 := rfl
theorem ev_dOp2 (f : D → D → Sto → Res D) (da db : DE) : dOp2 f da db env S = (da env S).bind fun x S1 => (db env S1).bind fun y S2 => f x y S2 := rfl
theorem ev_dUn (f : D → Sto → Res R) (da : DE) : dUn f da env S = (da env S).bind f := rfl
theorem ev_dNil : dNil env S = .ok [] S := rfl
theorem ev_dCons (da : DE) (dr : DA) : dCons da dr env S = (da env S).bind fun x S1 => (dr env S1).map fun xs => x :: xs := rfl
theorem ev_dTup (da : DA) : dTup da env S = (da env S).bind fun xs S1 => if xs.length ≤ 100000 then .ok (.tup xs) S1 else .bad := rfl
theorem ev_dLst (da : DA) : dLst da env S = (da env S).bind fun xs S1 => if xs.length ≤ 100000 then .ok (.o (.l xs)) S1 else .bad := rfl
def asB : D → Sto → Res Bool := fun d S => match d with
  | .bl b => .ok b S
  | _ => .bad
theorem asB_bl (b : Bool) : asB (.bl b) S = .ok b S := rfl
theorem ev_dB (de : DE) : dB de env S = (de env S).bind asB := rfl
theorem ev_dAndT (a b : DT) : dAndT a b env S = (a env S).bind fun c S1 => if c = true then b env S1 else .ok false S1 := rfl
theorem ev_dOrT (a b : DT) : dOrT a b env S = (a env S).bind fun c S1 => if c = true then .ok true S1 else b env S1 := rfl
theorem ev_dNotT (a : DT) : dNotT a env S = (a env S).map (!·) := rfl
theorem ev_dAnd (a b : DE) : dAnd a b env S = ((a env S).bind asB).bind fun c S1 => if c = true then b env S1 else .ok (.bl false) S1 := by
  show (a env S).bind _ = _
  cases a env S with
  | ok d S1 => cases d <;> first | rfl | (rename_i x; cases x <;> rfl)
  | xn c x S1 => rfl
  | bad => rfl
theorem ev_dOr (a b : DE) : dOr a b env S = ((a env S).bind asB).bind fun c S1 => if c = true then .ok (.bl true) S1 else b env S1 := by
  show (a env S).bind _ = _
  cases a env S with
  | ok d S1 => cases d <;> first | rfl | (rename_i x; cases x <;> rfl)
  | xn c x S1 => rfl
  | bad => rfl
theorem ev_dNot (a : DE) : dNot a env S = ((a env S).bind asB).map fun c => .bl (!c) := by
  show (a env S).bind _ = _
  cases a env S with
  | ok d S1 => cases d <;> first | rfl | (rename_i x; cases x <;> rfl)
  | xn c x S1 => rfl
  | bad => rfl
theorem ev_dIf (c : DT) (a b : DE) : dIf c a b env S = (c env S).bind fun k S1 => if k = true then a env S1 else b env S1 := rfl
theorem ev_dIfR (c : DT) (a b : DR) : dIfR c a b env S = (c env S).bind fun k S1 => if k = true then a env S1 else b env S1 := rfl
theorem ev_dCall (G : Calls) (f : Nat) (da : DA) : dCall G f da env S = (da env S).bind fun xs S1 => G f xs S1 := rfl
theorem ev_dBlt (f : List D → Sto → Res R) (da : DA) : dBlt f da env S = (da env S).bind f := rfl
theorem ev_dYes : dYes env S = .ok true S := rfl
theorem ev_dNewK : dNewK env S = .ok (.o (.k [] [])) S := rfl
theorem ev_dNewT : dNewT env S = .ok (.o (.t [] [])) S := rfl
def asBR : R → Sto → Res Bool := fun r S => match r with
  | .v (.bl b) => .ok b S
  | _ => .bad
theorem asBR_bl (b : Bool) : asBR (.v (.bl b)) S = .ok b S := rfl
theorem ev_dChain (f f' : D → D → Sto → Res R) (da db dc : DE) : dChain f f' da db dc env S = (da env S).bind fun x S1 => (db env S1).bind fun y S2 => (f x y S2).bind fun r S3 => (asBR r S3).bind fun c S3 => if c = true then (dc env S3).bind fun z S4 => (f' y z S4).map R.val else .ok (.bl false) S3 := by
  unfold dChain
  congr 1
  funext x S1
  congr 1
  funext y S2
  congr 1
  funext r S3
  cases r with
  | o _ => rfl
  | v d => cases d <;> first | rfl | (rename_i b; cases b <;> rfl)
theorem ev_oNone : oNone env S = .ok none S := rfl
def asI : D → Sto → Res Int := fun d S => match d with
  | .int b => .ok b S
  | _ => .bad
theorem asI_int (b : Int) : asI (.int b) S = .ok b S := rfl
theorem ev_oSome (de : DE) : oSome de env S = ((de env S).bind asI).map some := by
  show (de env S).bind _ = _
  cases de env S with
  | ok d S1 => cases d <;> rfl
  | xn c x S1 => rfl
  | bad => rfl
def slR : D → Option Int → Option Int → Sto → Res R := fun d lo hi S => match fSl d lo hi with
  | some r => .ok r S
  | none => .bad
theorem slR_lst (xs : List D) (lo hi : Option Int) : slR (.lst xs) lo hi S = .ok (.o (.l (cutD xs lo hi))) S := rfl
theorem slR_tup (xs : List D) (lo hi : Option Int) : slR (.tup xs) lo hi S = .ok (.v (.tup (cutD xs lo hi))) S := rfl
theorem ev_dSl (de : DE) (dl dh : DO) : dSl de dl dh env S = (de env S).bind fun d S1 => (dl env S1).bind fun lo S2 => (dh env S2).bind fun hi S3 => slR d lo hi S3 := rfl
def itR : D → Sto → Res (List D) := fun d S => match itemsOf d with
  | some ds => .ok ds S
  | none => .bad
theorem itR_tup (x : List D) : itR (.tup x) S = .ok x S := rfl
theorem itR_lst (x : List D) : itR (.lst x) S = .ok x S := rfl
theorem ev_dSeq (de : DE) : dSeq de env S = (de env S).bind itR := rfl
theorem ev_dEnum (de : DE) : dEnum de env S = ((de env S).bind itR).map (enumD 0) := by
  show (de env S).bind _ = _
  cases de env S with
  | ok d S1 => cases d <;> rfl
  | xn c x S1 => rfl
  | bad => rfl
def zpR : D → D → Sto → Res (List D) := fun x y S => match x, y with
  | .lst as, .lst bs => .ok (zipD as bs) S
  | .tup as, .tup bs => .ok (zipD as bs) S
  | _, _ => .bad
theorem zpR_lst (a b : List D) : zpR (.lst a) (.lst b) S = .ok (zipD a b) S := rfl
theorem zpR_tup (a b : List D) : zpR (.tup a) (.tup b) S = .ok (zipD a b) S := rfl
theorem ev_dZip (da db : DE) : dZip da db env S = (da env S).bind fun x S1 => (db env S1).bind fun y S2 => zpR x y S2 := rfl
def rg1 : D → Sto → Res (List D) := fun x S => match x with
  | .int j => if j ≤ 100000 ∧ -100000 ≤ j then .ok (rangeD 0 j) S else .bad
  | _ => .bad
def rg2 : D → D → Sto → Res (List D) := fun x y S => match x, y with
  | .int i, .int j => if (i ≤ 100000 ∧ -100000 ≤ i) ∧ (j ≤ 100000 ∧ -100000 ≤ j) then .ok (rangeD i j) S else .bad
  | _, _ => .bad
theorem rg1_i {j : Int} (h : j ≤ 100000 ∧ -100000 ≤ j) : rg1 (.int j) S = .ok (rangeD 0 j) S := by show (if _ then _ else _) = _; rw [if_pos h]
theorem rg2_i {j k : Int} (h : (j ≤ 100000 ∧ -100000 ≤ j) ∧ (k ≤ 100000 ∧ -100000 ≤ k)) : rg2 (.int j) (.int k) S = .ok (rangeD j k) S := by show (if _ then _ else _) = _; rw [if_pos h]
theorem ev_dRange1 (da : DE) : dRange1 da env S = (da env S).bind rg1 := rfl
theorem ev_dRange2 (da db : DE) : dRange2 da db env S = (da env S).bind fun x S1 => (db env S1).bind fun y S2 => rg2 x y S2 := rfl
theorem ev_dMkL (di : DA) : dMkL di env S = (di env S).map fun ds => .o (.l ds) := by
  show (di env S).bind _ = _
  cases di env S <;> rfl
theorem ev_dMkT (di : DA) : dMkT di env S = (di env S).map fun ds => .tup ds := by
  show (di env S).bind _ = _
  cases di env S <;> rfl
/-! ### operators -/
theorem ev_add (i j : Int) : fAdd (.int i) (.int j) S = .ok (.v (.int (i + j))) S := rfl
theorem ev_addT {x y : List D} (h : x.length + y.length ≤ 100000) : fAdd (.tup x) (.tup y) S = .ok (.v (.tup (x ++ y))) S := by show (if _ then _ else _) = _; rw [if_pos h]
theorem ev_addL {x y : List D} (h : x.length + y.length ≤ 100000) : fAdd (.lst x) (.lst y) S = .ok (.o (.l (x ++ y))) S := by show (if _ then _ else _) = _; rw [if_pos h]
theorem ev_iadd (i j : Int) : pureO (gI fun i j => i + j) (.int i) (.int j) S = .ok (.v (.int (i + j))) S := rfl
theorem ev_sub (i j : Int) : fSub (.int i) (.int j) S = .ok (.v (.int (i - j))) S := rfl
theorem ev_lt (i j : Int) : fLt (.int i) (.int j) S = .ok (.v (.bl (decide (i < j)))) S := rfl
theorem ev_le (i j : Int) : fLe (.int i) (.int j) S = .ok (.v (.bl (decide (i ≤ j)))) S := rfl
theorem ev_gt (i j : Int) : fGt (.int i) (.int j) S = .ok (.v (.bl (decide (j < i)))) S := rfl
theorem ev_ge (i j : Int) : fGe (.int i) (.int j) S = .ok (.v (.bl (decide (j ≤ i)))) S := rfl
theorem ev_mul {i j : Int} (h : mulOk i j = true) : fMul (.int i) (.int j) S = .ok (.v (.int (i * j))) S := by show (if _ then _ else _) = _; rw [if_pos h]
theorem ev_imul {i j : Int} (h : mulOk i j = true) : fIMul (.int i) (.int j) S = .ok (.v (.int (i * j))) S := by show (if _ then _ else _) = _; rw [if_pos h]
theorem ev_div {i j : Int} (h : 0 < j ∧ j.natAbs < big) : fDiv (.int i) (.int j) S = .ok (.v (.int (i / j))) S := by show (if _ then _ else _) = _; rw [if_pos h]
theorem ev_mod {i j : Int} (h : 0 < j) : fMod (.int i) (.int j) S = .ok (.v (.int (i % j))) S := by show (if _ then _ else _) = _; rw [if_pos h]
theorem ev_neg (i : Int) : fNeg (.int i) S = .ok (.v (.int (-i))) S := rfl
theorem ev_eqI (i j : Int) : fEq (.int i) (.int j) S = .ok (.v (.bl (decide (i = j)))) S := by
  have : deq (.int i) (.int j) = decide (i = j) := by
    show (i == j) = _
    by_cases c : i = j <;> simp [c]
  unfold fEq
  rw [if_pos ⟨rfl, rfl⟩, this]
theorem ev_neI (i j : Int) : fNe (.int i) (.int j) S = .ok (.v (.bl (!decide (i = j)))) S := by
  have : deq (.int i) (.int j) = decide (i = j) := by
    show (i == j) = _
    by_cases c : i = j <;> simp [c]
  unfold fNe
  rw [if_pos ⟨rfl, rfl⟩, this]
theorem ev_eq {x y : D} (hx : fitN 20 x = true) (hy : fitN 20 y = true) : fEq x y S = .ok (.v (.bl (deq x y))) S := by unfold fEq; rw [if_pos ⟨hx, hy⟩]
theorem ev_ne {x y : D} (hx : fitN 20 x = true) (hy : fitN 20 y = true) : fNe x y S = .ok (.v (.bl (!deq x y))) S := by unfold fNe; rw [if_pos ⟨hx, hy⟩]
theorem ev_isN (d : D) : fIsN d .non S = .ok (.v (.bl (isNon d))) S := rfl
theorem ev_notN (d : D) : fNotN d .non S = .ok (.v (.bl (!isNon d))) S := rfl
theorem isNon_non : isNon .non = true := rfl
theorem isNon_int (x : Int) : isNon (.int x) = false := rfl
theorem isNon_tup (x : List D) : isNon (.tup x) = false := rfl
theorem isNon_str (x : Str) : isNon (.str x) = false := rfl
def ixR : Option D → Sto → Res R := fun o S => match o with
  | some z => .ok (.v z) S
  | none => .bad
theorem ixR_some (z : D) : ixR (some z) S = .ok (.v z) S := rfl
theorem ev_ixT (xs : List D) (i : Int) : fIx (.tup xs) (.int i) S = ixR (ixD xs i) S := rfl
theorem ev_ixL (xs : List D) (i : Int) : fIx (.lst xs) (.int i) S = ixR (ixD xs i) S := rfl
theorem ixD_0 (x : D) (xs : List D) : ixD (x :: xs) 0 = some x := rfl
theorem ixD_1 (x y : D) (xs : List D) : ixD (x :: y :: xs) 1 = some y := rfl
theorem ixD_2 (x y z : D) (xs : List D) : ixD (x :: y :: z :: xs) 2 = some z := rfl
theorem ixD_at' {xs : List D} {i : Int} {z : D} (h0 : 0 ≤ i) (h : xs[i.toNat]? = some z) : ixD xs i = some z := by unfold ixD; rw [if_pos h0]; exact h
theorem ev_lenT (xs : List D) : bLen [.tup xs] S = .ok (.v (.int xs.length)) S := rfl
theorem ev_lenL (xs : List D) : bLen [.lst xs] S = .ok (.v (.int xs.length)) S := rfl
theorem ev_lenS (xs : List Int) : bLen [.scr xs] S = .ok (.v (.int xs.length)) S := rfl
theorem ev_lenK (ks : List L2.Key) (ds : List D) : bLen [.dk ks ds] S = .ok (.v (.int ks.length)) S := rfl
theorem ev_listT (xs : List D) : bList [.tup xs] S = .ok (.o (.l xs)) S := rfl
theorem ev_listL (xs : List D) : bList [.lst xs] S = .ok (.o (.l xs)) S := rfl
theorem ev_tupleT (xs : List D) : bTuple [.tup xs] S = .ok (.v (.tup xs)) S := rfl
theorem ev_tupleL (xs : List D) : bTuple [.lst xs] S = .ok (.v (.tup xs)) S := rfl
theorem ev_abs (i : Int) : bAbs [.int i] S = .ok (.v (.int (if i < 0 then -i else i))) S := rfl
theorem ev_intI (i : Int) : bInt [.int i] S = .ok (.v (.int i)) S := rfl
theorem ev_intB (i : Bool) : bInt [.bl i] S = .ok (.v (.int (if i then 1 else 0))) S := rfl
theorem ev_max2 (i j : Int) : bMax2 [.int i, .int j] S = .ok (.v (.int (if j > i then j else i))) S := rfl
theorem ev_min2 (i j : Int) : bMin2 [.int i, .int j] S = .ok (.v (.int (if j < i then j else i))) S := rfl
/-! ### statements -/
theorem ok_dSeqS (a b : DS) : okO (dSeqS a b env S) N T K C = okO (a env S) (fun e S1 => okO (b e S1) N T K C) T K C := by
  unfold dSeqS
  cases a env S <;> rfl
theorem slOf_v (d : D) : slOf (.v d) = .va d := rfl
theorem slOf_o (x : O) : slOf (.o x) = .ow x := rfl
theorem ok_dSet (dr : DR) : okO (dSet i dr env S) N T K C = okE (dr env S) fun r S1 => N (env.set i (slOf r)) S1 := by
  unfold dSet
  cases dr env S <;> first | (rw [okE_ok]; rfl) | (rw [okE_bad]; rfl) | exact propext ⟨fun h => False.elim h, fun ⟨_, _, h, _⟩ => (nomatch h)⟩
theorem ok_dSkip : okO (dSkip env S) N T K C = N env S := rfl
theorem ok_dBreak : okO (dBreak env S) N T K C = K env S := rfl
theorem ok_dCont : okO (dCont env S) N T K C = C env S := rfl
theorem ok_dRetN : okO (dRetN env S) N T K C = T (.v .non) S := rfl
theorem ok_dNever : okO (dNever env S) N T K C = False := rfl
theorem ok_dRet (dr : DR) : okO (dRet dr env S) N T K C = okE (dr env S) T := by
  unfold dRet
  cases dr env S <;> first | (rw [okE_ok]; rfl) | (rw [okE_bad]; rfl) | exact propext ⟨fun h => False.elim h, fun ⟨_, _, h, _⟩ => (nomatch h)⟩
theorem ok_dDrop (de : DE) : okO (dDrop de env S) N T K C = okE (de env S) fun _ S1 => N env S1 := by
  unfold dDrop
  cases de env S <;> first | (rw [okE_ok]; rfl) | (rw [okE_bad]; rfl) | exact propext ⟨fun h => False.elim h, fun ⟨_, _, h, _⟩ => (nomatch h)⟩
theorem ok_dIfS (c : DT) (a b : DS) : okO (dIfS c a b env S) N T K C = okE (c env S) fun t S1 => if t = true then okO (a env S1) N T K C else okO (b env S1) N T K C := by
  unfold dIfS
  cases h : c env S with
  | ok t S1 => rw [okE_ok]; cases t <;> rfl
  | bad => rw [okE_bad]; rfl
  | xn c x S => exact propext ⟨fun h => False.elim h, fun ⟨_, _, h, _⟩ => (nomatch h)⟩
theorem ok_dFrz (d : DS) : okO (dFrz i d env S) N T K C = okO (d (frzE i env) S) N T K C := rfl
def frz1 : Option Sl → Nat → Envm → Envm := fun o i env => match o with
  | some (.ow x) => env.set i (.va x.toD)
  | _ => env
theorem ev_frzE : frzE i env = frz1 env[i]? i env := rfl
theorem frz1_o (x : O) : frz1 (some (.ow x)) i env = env.set i (.va x.toD) := rfl
theorem frz1_v (x : D) : frz1 (some (.va x)) i env = env := rfl
theorem frz1_n : frz1 (some .no) i env = env := rfl
theorem ok_dUnp (t : Tg) (de : DE) : okO (dUnp t de env S) N T K C = okE (de env S) fun d S1 => okB (bindTg t d env) fun e => N e S1 := by
  unfold dUnp
  cases de env S with
  | ok d S1 => rw [okE_ok]; cases h : bindTg t d env <;> simp only [h] <;> rfl
  | bad => rw [okE_bad]; rfl
  | xn c x S => exact propext ⟨fun h => False.elim h, fun ⟨_, _, h, _⟩ => (nomatch h)⟩
theorem bd_nm (d : D) : bindTg (.nm i) d env = some (env.set i (.va d)) := by unfold bindTg; rfl
theorem bd_tup (ts : List Tg) (ds : List D) : bindTg (.tp ts) (.tup ds) env = bindTgs ts ds env := by unfold bindTg; rfl
theorem bd_lst (ts : List Tg) (ds : List D) : bindTg (.tp ts) (.lst ds) env = bindTgs ts ds env := by unfold bindTg; rfl
theorem bds_nil : bindTgs [] [] env = some env := by unfold bindTgs; rfl
def bdC (ts : List Tg) (ds : List D) : Option Envm → Option Envm := fun o => match o with
  | some e => bindTgs ts ds e
  | none => none
theorem bdC_some (ts : List Tg) (ds : List D) : bdC ts ds (some e) = bindTgs ts ds e := rfl
theorem bds_cons (t : Tg) (ts : List Tg) (d : D) (ds : List D) : bindTgs (t :: ts) (d :: ds) env = bdC ts ds (bindTg t d env) := by
  conv => lhs; unfold bindTgs
  cases bindTg t d env <;> rfl
theorem ok_dFor (di : DA) (t : Tg) (b : DS) : okO (dFor di t b env S) N T K C = okE (di env S) fun ds S1 => okO (forL t b ds env S1) N T K C := by
  unfold dFor
  cases di env S <;> first | (rw [okE_ok]) | (rw [okE_bad]; rfl) | exact propext ⟨fun h => False.elim h, fun ⟨_, _, h, _⟩ => (nomatch h)⟩
theorem ev_rNil : rNil env S = .ok [] S := rfl
theorem ev_rCons (dr : DR) (d : DRs) : rCons dr d env S = (dr env S).bind fun r S1 => (d env S1).map fun rs => r :: rs := rfl
theorem ss_nil : setSls [] [] env = some env := rfl
theorem ss_cons (is : List Nat) (r : R) (rs : List R) : setSls (i :: is) (r :: rs) env = setSls is rs (env.set i (slOf r)) := rfl
theorem ok_dPar (is : List Nat) (d : DRs) : okO (dPar is d env S) N T K C = okE (d env S) fun rs S1 => okB (setSls is rs env) fun e => N e S1 := by
  unfold dPar
  cases d env S with
  | ok d S1 => rw [okE_ok]; cases h : setSls is d env <;> simp only [h] <;> rfl
  | bad => rw [okE_bad]; rfl
  | xn c x S => exact propext ⟨fun h => False.elim h, fun ⟨_, _, h, _⟩ => (nomatch h)⟩
theorem ok_dAug (f : D → D → Sto → Res R) (de : DE) : okO (dAug i f de env S) N T K C = okE (slV env[i]? S) fun x _ => okE (de env S) fun y S1 => okE (f x y S1) fun r S2 => N (env.set i (slOf r)) S2 := by
  unfold dAug
  cases env[i]? with
  | none => exact (okE_bad _).symm
  | some s =>
    cases s with
    | no => exact (okE_bad _).symm
    | ow x => exact (okE_bad _).symm
    | va x =>
      rw [slV_va, okE_ok, ← okE_bind]
      show okO (match (de env S).bind fun y S1 => f x y S1 with
        | .ok r S2 => .nx (env.set i (slOf r)) S2
        | .xn c x S1 => .xn c x S1
        | .bad => .bad) N T K C = _
      cases (de env S).bind fun y S1 => f x y S1 with
      | ok d S1 => rw [okE_ok]; rfl
      | bad => rw [okE_bad]; rfl
      | xn c x S => exact propext ⟨fun h => False.elim h, fun ⟨_, _, h, _⟩ => (nomatch h)⟩
/-- a change of a slot's own list -/
def mutE : Option Sl → (List D → Option (List D)) → (List D → Prop) → Prop := fun o f P => match o with
  | some (.ow (.l ds)) => (match f ds with | some ds' => P ds' | none => False)
  | _ => False
theorem ok_mut1 {f : List D → D → Option (List D)} {de : DE} {ds : List D} (h : env[i]? = some (.ow (.l ds))) : okO (dMut1 i f de env S) N T K C = okE (de env S) fun d S1 => mutE env[i]? (f · d) fun ds' => N (env.set i (.ow (.l ds'))) S1 := by
  have hl : listSlot i env S = true := by unfold listSlot; rw [h]
  unfold dMut1
  rw [if_pos hl]
  cases de env S with
  | ok d S1 =>
    rw [okE_ok]
    show okO (mutL i (f · d) env S1) N T K C = _
    unfold mutL
    rw [h]
    show okO (match f ds d with
      | some ds' => .nx (env.set i (.ow (.l ds'))) S1
      | none => .bad) N T K C = _
    cases hf : f ds d <;> simp only [mutE, hf] <;> rfl
  | bad => rw [okE_bad]; rfl
  | xn c x S => exact propext ⟨fun h => False.elim h, fun ⟨_, _, h, _⟩ => (nomatch h)⟩
/-- as a rule for evaluation -/
def isOwnL : Option Sl → Prop := fun o => ∃ ds, o = some (.ow (.l ds))
theorem isOwnL_l (ds : List D) : isOwnL (some (.ow (.l ds))) = True := propext ⟨fun _ => trivial, fun _ => ⟨ds, rfl⟩⟩
theorem ok_dMut1 (f : List D → D → Option (List D)) (de : DE) (h : isOwnL env[i]?) : okO (dMut1 i f de env S) N T K C = okE (de env S) fun d S1 => mutE env[i]? (f · d) fun ds' => N (env.set i (.ow (.l ds'))) S1 := by
  obtain ⟨ds, h⟩ := h
  exact ok_mut1 env S i N T K C h
def okL (o : Option (List D)) (P : List D → Prop) : Prop := match o with
  | some x => P x
  | none => False
theorem mutE_l (ds : List D) (f : List D → Option (List D)) (P : List D → Prop) : mutE (some (.ow (.l ds))) f P = okL (f ds) P := rfl
theorem okL_some (x : List D) (P : List D → Prop) : okL (some x) P = P x := rfl
theorem app_ok {ds : List D} {d : D} (h : ds.length ≤ 100000) : fApp ds d = some (ds ++ [d]) := by unfold fApp; rw [if_pos h]
theorem ext_ok {ds es : List D} (h : ds.length + es.length ≤ 100000) : fExt ds (.lst es) = some (ds ++ es) := by show (if _ then _ else _) = _; rw [if_pos h]
end
end MP

namespace MP
open PySem PySem.Spec
section
variable (p : Prop) (b : Bool)
theorem sv_at : (p ∧ True) = p := and_true p
theorem sv_ta : (True ∧ p) = p := true_and p
theorem sv_it : (p → True) = True := propext ⟨fun _ => trivial, fun _ _ => trivial⟩
theorem sv_ti : (True → p) = p := propext ⟨fun h => h trivial, fun h _ => h⟩
theorem sv_dt [Decidable p] : (decide p = true) = p := decide_eq_true_eq
theorem sv_df [Decidable p] : (decide p = false) = ¬ p := propext decide_eq_false_iff_not
theorem sv_ft : (false = true) = False := by simp
theorem sv_nt : ((!b) = true) = (b = false) := by cases b <;> simp
theorem sv_nn : ((!b) = false) = (b = true) := by cases b <;> simp
theorem sv_tt : (!true) = false := rfl
theorem sv_fn : (!false) = true := rfl
end
theorem ok_seqG {a b : DS} {env : Envm} {S : Sto} {N : PN} {T : PT} {K C : PN} (h : ∀ N' : PN, (∀ e S1, okO (b e S1) N T K C → N' e S1) → okO (a env S) N' T K C) : okO (dSeqS a b env S) N T K C := by
  rw [ok_dSeqS]
  exact h _ fun _ _ h => h
theorem ok_stG {a : DS} {env : Envm} {S : Sto} {N : PN} {T : PT} {K C : PN} (h : ∀ (N' : PN) (T' : PT), (∀ e S1, N e S1 → N' e S1) → (∀ r S1, T r S1 → T' r S1) → okO (a env S) N' T' K C) : okO (a env S) N T K C := h N T (fun _ _ h => h) fun _ _ h => h
theorem ok_exG {α : Type} {r : Res α} {Q : α → Sto → Prop} (h : ∀ Q' : α → Sto → Prop, (∀ a S1, Q a S1 → Q' a S1) → okE r Q') : okE r Q := h Q fun _ _ h => h
theorem start_c (k : Nat) (d : D) (ds : List D) : startE (k + 1) (d :: ds) = .va d :: startE k ds := by
  unfold startE
  rw [List.map_cons, List.cons_append, List.length_cons, Nat.add_sub_add_right]
theorem start_n (k : Nat) : startE (k + 1) [] = .no :: startE k [] := rfl
theorem start_0 : startE 0 [] = [] := rfl
theorem ok_call {B : Tb} {n f m k : Nat} {x : Str} {bd : Calls → DS} {ds : List D} {S : Sto} {Q : R → Sto → Prop} (h : B f = some ⟨x, m, k, bd⟩) (hl : ds.length = m) (q : okO (bd (callN B n) (startE k ds) S) (fun _ S1 => Q (.v .non) S1) Q no2 no2) : okE (callN B (n + 1) f ds S) Q := by
  rw [callN_eq h]
  unfold callF
  rw [if_pos hl]
  show okE (finO (bd (callN B n) (startE k ds) S)) Q
  cases ho : bd (callN B n) (startE k ds) S <;> rw [ho] at q <;> first | exact ⟨_, _, rfl, q⟩ | exact False.elim q
/-! ### slots set -/
def setL : Envm → List Nat → List Sl → Envm
  | e, i :: is, v :: vs => setL (e.set i v) is vs
  | e, _, _ => e
theorem setL_c (e : Envm) (i : Nat) (is : List Nat) (v : Sl) (vs : List Sl) : setL e (i :: is) (v :: vs) = setL (e.set i v) is vs := rfl
theorem setL_n (e : Envm) (vs : List Sl) : setL e [] vs = e := by cases vs <;> rfl
/-! ### loops -/
theorem ok_for_nil {t : Tg} {b : DS} {env : Envm} {S : Sto} {N : PN} {T : PT} {K C : PN} : okO (forL t b [] env S) N T K C = N env S := rfl
theorem ok_for_cons {t : Tg} {b : DS} {d : D} {ds : List D} {env : Envm} {S : Sto} {N : PN} {T : PT} {K C : PN} : okO (forL t b (d :: ds) env S) N T K C = okB (bindTg t d env) fun e => okO (b e S) (fun e2 S2 => okO (forL t b ds e2 S2) N T K C) T N (fun e2 S2 => okO (forL t b ds e2 S2) N T K C) := by
  conv => lhs; unfold forL
  cases bindTg t d env with
  | none => rfl
  | some e =>
    show okO (match b e S with
      | .nx e2 S2 => forL t b ds e2 S2
      | .ct e2 S2 => forL t b ds e2 S2
      | .bk e2 S2 => .nx e2 S2
      | .rt r S2 => .rt r S2
      | .xn c x S2 => .xn c x S2
      | .bad => .bad) N T K C = _
    rw [okB_some]
    cases b e S <;> rfl
theorem okO.imp {o : Out} {N N' : PN} {T T' : PT} {K K' C C' : PN} (h : okO o N T K C) (hN : ∀ e S, N e S → N' e S) (hT : ∀ r S, T r S → T' r S) (hK : ∀ e S, K e S → K' e S) (hC : ∀ e S, C e S → C' e S) : okO o N' T' K' C' := by
  cases o <;> first | exact hN _ _ h | exact hT _ _ h | exact hK _ _ h | exact hC _ _ h | exact False.elim h
theorem okB.imp {o : Option Envm} {P P' : Envm → Prop} (h : okB o P) (i : ∀ e, P e → P' e) : okB o P' := by
  cases o <;> first | exact i _ h | exact False.elim h
/-- a loop by an invariant over the slots that it sets -/
theorem ok_for {α : Type} {t : Tg} {b : DS} {env : Envm} {N : PN} {T : PT} {K C : PN} (is : List Nat) (f : α → D) (I : Nat → List Sl → Sto → Prop) : ∀ (xs : List α) (i : Nat) (vs : List Sl) (S : Sto), I i vs S →
    (∀ j x vs S, xs[j]? = some x → I (i + j) vs S → okB (bindTg t (f x) (setL env is vs)) fun e => okO (b e S) (fun e2 S2 => ∃ vs', e2 = setL env is vs' ∧ I (i + j + 1) vs' S2) T N (fun e2 S2 => ∃ vs', e2 = setL env is vs' ∧ I (i + j + 1) vs' S2)) →
    (∀ vs S, I (i + xs.length) vs S → N (setL env is vs) S) → okO (forL t b (xs.map f) (setL env is vs) S) N T K C
  | [], i, vs, S, h, _, e => e vs S h
  | x :: xs, i, vs, S, h, st, e => by
    rw [List.map_cons, ok_for_cons]
    have z := st 0 x vs S rfl h
    have go : ∀ (vs' : List Sl) (S2 : Sto), I (i + 1) vs' S2 → okO (forL t b (xs.map f) (setL env is vs') S2) N T K C := fun vs' S2 h2 => by
      refine ok_for is f I xs (i + 1) vs' S2 h2 (fun j y ws S3 hj hI => ?_) fun ws S3 hI => e ws S3 (by
        rw [List.length_cons, show i + (xs.length + 1) = i + 1 + xs.length by omega]
        exact hI)
      have e1 : i + 1 + j = i + (j + 1) := by omega
      rw [e1] at hI ⊢
      exact st (j + 1) y ws S3 (by simpa using hj) hI
    refine z.imp fun e1 z1 => z1.imp (fun e2 S2 ⟨vs', h1, h2⟩ => h1 ▸ go vs' S2 h2) (fun _ _ h => h) (fun _ _ h => h) fun e2 S2 ⟨vs', h1, h2⟩ => h1 ▸ go vs' S2 h2
/-- .. from the slots as they are -/
theorem ok_for0 {α : Type} {t : Tg} {b : DS} {env : Envm} {S : Sto} {N : PN} {T : PT} {K C : PN} (is : List Nat) (xs : List α) (f : α → D) (I : Nat → List Sl → Sto → Prop) (vs : List Sl) (h0 : setL env is vs = env) (hI : I 0 vs S)
    (st : ∀ (N' K' : PN) (T' : PT), (∀ e S, N e S → K' e S) → (∀ r S, T r S → T' r S) → ∀ j x vs S, xs[j]? = some x → I j vs S → (∀ vs' S2, I (j + 1) vs' S2 → N' (setL env is vs') S2) → okB (bindTg t (f x) (setL env is vs)) fun e => okO (b e S) N' T' K' N')
    (e : ∀ vs S, I xs.length vs S → N (setL env is vs) S) : okO (forL t b (xs.map f) env S) N T K C := by
  rw [← h0]
  refine ok_for is f I xs 0 vs S hI (fun j x ws S1 hj hI => ?_) fun ws S1 hI => e ws S1 (by rw [Nat.zero_add] at hI; exact hI)
  rw [Nat.zero_add] at hI ⊢
  exact st _ _ _ (fun _ _ h => h) (fun _ _ h => h) j x ws S1 hj hI fun vs' S2 h => ⟨vs', rfl, h⟩
/-- a while loop by a measure -/
theorem ok_while {c : DT} {b : DS} {env : Envm} {N : PN} {T : PT} {K C : PN} (is : List Nat) (I : Nat → List Sl → Sto → Prop)
    (st : ∀ m vs S, I m vs S → okE (c (setL env is vs) S) fun t S1 => if t = true then okO (b (setL env is vs) S1) (fun e2 S2 => ∃ k vs', k < m ∧ e2 = setL env is vs' ∧ I k vs' S2) T N (fun e2 S2 => ∃ k vs', k < m ∧ e2 = setL env is vs' ∧ I k vs' S2) else N (setL env is vs) S1) :
    ∀ (w m : Nat) (vs : List Sl) (S : Sto), m < w → I m vs S → okO (whileL c b w (setL env is vs) S) N T K C
  | 0, m, vs, S, h, _ => by omega
  | w + 1, m, vs, S, h, hI => by
    obtain ⟨t, S1, h1, h2⟩ := st m vs S hI
    have go : ∀ k vs' S2, k < m → I k vs' S2 → okO (whileL c b w (setL env is vs') S2) N T K C := fun k vs' S2 hk hI' => ok_while is I st w k vs' S2 (by omega) hI'
    unfold whileL
    rw [h1]
    cases t with
    | false => exact h2
    | true =>
      have h2 : okO (b (setL env is vs) S1) (fun e2 S2 => ∃ k vs', k < m ∧ e2 = setL env is vs' ∧ I k vs' S2) T N (fun e2 S2 => ∃ k vs', k < m ∧ e2 = setL env is vs' ∧ I k vs' S2) := h2
      show okO (match b (setL env is vs) S1 with
        | .nx e2 S2 => whileL c b w e2 S2
        | .ct e2 S2 => whileL c b w e2 S2
        | .bk e2 S2 => .nx e2 S2
        | .rt r S2 => .rt r S2
        | .xn c x S2 => .xn c x S2
        | .bad => .bad) N T K C
      revert h2
      cases b (setL env is vs) S1 with
      | nx e2 S2 => exact fun ⟨k, vs', h3, h4, h5⟩ => h4 ▸ go k vs' S2 h3 h5
      | ct e2 S2 => exact fun ⟨k, vs', h3, h4, h5⟩ => h4 ▸ go k vs' S2 h3 h5
      | bk e2 S2 => exact fun h => h
      | rt e2 S2 => exact fun h => h
      | xn c x S2 => exact fun h => False.elim h
      | bad => exact fun h => False.elim h
theorem ok_while0 {c : DT} {b : DS} {env : Envm} {S : Sto} {N : PN} {T : PT} {K C : PN} (is : List Nat) (I : Nat → List Sl → Sto → Prop) (m : Nat) (vs : List Sl) (hm : m < 100000) (h0 : setL env is vs = env) (hI : I m vs S)
    (st : ∀ (N' K' : PN) (T' : PT), (∀ e S, N e S → K' e S) → (∀ r S, T r S → T' r S) → ∀ m vs S, I m vs S → (∀ k vs' S2, k < m → I k vs' S2 → N' (setL env is vs') S2) → okE (c (setL env is vs) S) fun t S1 => if t = true then okO (b (setL env is vs) S1) N' T' K' N' else K' (setL env is vs) S1) : okO (dWhile c b env S) N T K C := by
  unfold dWhile
  rw [← h0]
  exact ok_while is I (fun m vs S hI => st _ _ _ (fun _ _ h => h) (fun _ _ h => h) m vs S hI fun k vs' S2 hk h => ⟨k, vs', hk, rfl, h⟩) fuelW m vs S (by unfold fuelW; omega) hI
/-! ### comprehensions -/
theorem ok_compL {α : Type} {R : α → D → Prop} {tg : Tg} {dc : DT} {de : DE} {env : Envm} {S : Sto} (p : α → Bool) (g : α → D) : ∀ {xs : List α} {ds : List D}, (xs.length = ds.length ∧ ∀ (i : Nat) (x : α) (d : D), xs[i]? = some x → ds[i]? = some d → R x d) →
    (∀ x d, x ∈ xs → R x d → okB (bindTg tg d env) fun e => okE (dc e S) fun t S1 => t = p x ∧ S1 = S ∧ (p x = true → okE (de e S) fun v S2 => v = g x ∧ S2 = S)) → compL tg dc de env ds S = .ok ((xs.filter p).map g) S
  | [], [], _, _ => rfl
  | x :: xs, [], h, _ => by simp at h
  | [], d :: ds, h, _ => by simp at h
  | x :: xs, d :: ds, h, st => by
    have ih := ok_compL p g (xs := xs) (ds := ds) ⟨by simpa using h.1, fun i y e h1 h2 => h.2 (i + 1) y e (by simpa using h1) (by simpa using h2)⟩ fun y e hy => st y e (List.mem_cons_of_mem _ hy)
    have z := st x d List.mem_cons_self (h.2 0 x d rfl rfl)
    unfold compL
    cases hb : bindTg tg d env with
    | none => rw [hb] at z; exact False.elim z
    | some e =>
      rw [hb] at z
      obtain ⟨t, S1, h1, rfl, rfl, h4⟩ := z
      show (dc e S1).bind _ = _
      rw [h1]
      show (if p x = true then _ else _) = _
      by_cases c : p x = true
      · obtain ⟨v, S2, h5, rfl, rfl⟩ := h4 c
        rw [if_pos c, h5]
        show (compL tg dc de env ds S2).map _ = _
        rw [ih, List.filter_cons_of_pos c]
        rfl
      · rw [if_neg c, List.filter_cons_of_neg c]
        exact ih
theorem ok_comp {α : Type} {di : DA} {own : List Nat} {tg : Tg} {dc : DT} {de : DE} {env : Envm} {S : Sto} {Q : R → Sto → Prop} (xs : List α) (f : α → D) (p : α → Bool) (g : α → D) (hi : okE (di env S) fun ds S1 => ds = xs.map f ∧ S1 = S) (hl : xs.length ≤ 100000)
    (h : ∀ x ∈ xs, okB (bindTg tg (f x) (wipeE env own)) fun e => okE (dc e S) fun t S1 => t = p x ∧ S1 = S ∧ (p x = true → okE (de e S) fun v S2 => v = g x ∧ S2 = S)) (q : Q (.o (.l ((xs.filter p).map g))) S) : okE (dComp di own tg dc de env S) Q := by
  obtain ⟨ds, S1, h1, rfl, rfl⟩ := hi
  refine ok_of_eq ?_ q
  unfold dComp
  rw [h1]
  show (if (xs.map f).length ≤ 100000 then _ else _) = _
  rw [if_pos (by rw [List.length_map]; exact hl), ok_compL (R := fun x d => d = f x) p g (xs := xs) ⟨by simp, fun i x d h1 h2 => by rw [List.getElem?_map, h1] at h2; exact (Option.some.inj h2).symm⟩ fun x d hx e => e ▸ h x hx]
  rfl
/-- without a test -/
theorem ok_compA {α : Type} {di : DA} {own : List Nat} {tg : Tg} {de : DE} {env : Envm} {S : Sto} {Q : R → Sto → Prop} (xs : List α) (f : α → D) (g : α → D) (hi : okE (di env S) fun ds S1 => ds = xs.map f ∧ S1 = S) (hl : xs.length ≤ 100000)
    (h : ∀ x ∈ xs, okB (bindTg tg (f x) (wipeE env own)) fun e => okE (de e S) fun v S2 => v = g x ∧ S2 = S) (q : Q (.o (.l (xs.map g))) S) : okE (dComp di own tg dYes de env S) Q := by
  refine ok_comp xs f (fun _ => true) g hi hl (fun x hx => (h x hx).imp fun e z => ?_) (by rw [List.filter_eq_self.mpr (fun _ _ => rfl)]; exact q)
  rw [ev_dYes, okE_ok]
  exact ⟨rfl, rfl, fun _ => z⟩
/-- what is walked is told by a relation -/
theorem ok_compR {α : Type} {R : α → D → Prop} {di : DA} {own : List Nat} {tg : Tg} {dc : DT} {de : DE} {env : Envm} {S : Sto} {Q : MP.R → Sto → Prop} (xs : List α) (p : α → Bool) (g : α → D) (hi : okE (di env S) fun ds S1 => (xs.length = ds.length ∧ ∀ (i : Nat) (x : α) (d : D), xs[i]? = some x → ds[i]? = some d → R x d) ∧ S1 = S) (hl : xs.length ≤ 100000)
    (h : ∀ x d, x ∈ xs → R x d → okB (bindTg tg d (wipeE env own)) fun e => okE (dc e S) fun t S1 => t = p x ∧ S1 = S ∧ (p x = true → okE (de e S) fun v S2 => v = g x ∧ S2 = S)) (q : Q (.o (.l ((xs.filter p).map g))) S) : okE (dComp di own tg dc de env S) Q := by
  obtain ⟨ds, S1, h1, h2, rfl⟩ := hi
  refine ok_of_eq ?_ q
  unfold dComp
  rw [h1]
  show (if ds.length ≤ 100000 then _ else _) = _
  rw [if_pos (by rw [← h2.1]; exact hl), ok_compL (R := R) p g (xs := xs) h2 h]
  rfl
/-- elements that change the store -/
theorem ok_compLI {α : Type} {tg : Tg} {de : DE} {env : Envm} (f : α → D) (I : Nat → List D → Sto → Prop) : ∀ (xs : List α) (i : Nat) (ys : List D) (S : Sto) (Q : List D → Sto → Prop), I i ys S → (∀ j x ys S, xs[j]? = some x → I (i + j) ys S → okB (bindTg tg (f x) env) fun e => okE (de e S) fun y S1 => I (i + j + 1) (ys ++ [y]) S1) → (∀ zs S, I (i + xs.length) (ys ++ zs) S → Q zs S) →
    okE (compL tg dYes de env (xs.map f) S) Q
  | [], i, ys, S, Q, h, _, q => by
    rw [List.map_nil]
    unfold compL
    rw [okE_ok]
    exact q [] S (by rw [List.append_nil]; exact h)
  | x :: xs, i, ys, S, Q, h, st, q => by
    have z := st 0 x ys S rfl h
    rw [List.map_cons]
    unfold compL
    cases hb : bindTg tg (f x) env with
    | none => rw [hb] at z; exact False.elim z
    | some e =>
      rw [hb] at z
      obtain ⟨y, S1, h1, h2⟩ := z
      show okE ((dYes e S).bind _) Q
      rw [okE_bind, ev_dYes, okE_ok]
      show okE (if true = true then _ else _) Q
      rw [if_pos rfl, okE_bind, h1, okE_ok, okE_map]
      refine ok_compLI f I xs (i + 1) (ys ++ [y]) S1 _ h2 (fun j w ws S2 hj hI => ?_) fun zs S2 hI => q (y :: zs) S2 ?_
      · have e1 : i + 1 + j = i + (j + 1) := by omega
        rw [e1] at hI ⊢
        exact st (j + 1) w ws S2 (by simpa using hj) hI
      · rw [List.length_cons]
        have e1 : i + (xs.length + 1) = i + 1 + xs.length := by omega
        rw [e1]
        simpa using hI
theorem ok_compI {α : Type} {di : DA} {own : List Nat} {tg : Tg} {de : DE} {env : Envm} {S : Sto} {Q : R → Sto → Prop} (xs : List α) (f : α → D) (I : Nat → List D → Sto → Prop) (hi : okE (di env S) fun ds S1 => ds = xs.map f ∧ S1 = S) (hl : xs.length ≤ 100000) (h0 : I 0 [] S)
    (h : ∀ j x ys S, xs[j]? = some x → I j ys S → okB (bindTg tg (f x) (wipeE env own)) fun e => okE (de e S) fun y S1 => I (j + 1) (ys ++ [y]) S1) (q : ∀ ys S, I xs.length ys S → Q (.o (.l ys)) S) : okE (dComp di own tg dYes de env S) Q := by
  obtain ⟨ds, S1, h1, rfl, rfl⟩ := hi
  unfold dComp
  rw [h1]
  show okE (if (xs.map f).length ≤ 100000 then _ else _) Q
  rw [if_pos (by rw [List.length_map]; exact hl), okE_map]
  exact ok_compLI f I xs 0 [] S1 _ h0 (fun j x ys S hj hI => by rw [Nat.zero_add] at hI ⊢; exact h j x ys S hj hI) fun zs S hI => q zs S (by rw [Nat.zero_add] at hI; exact hI)
theorem wipe_c (e : Envm) (v : Nat) (vs : List Nat) : wipeE e (v :: vs) = (wipeE e vs).set v .no := rfl
theorem wipe_n (e : Envm) : wipeE e [] = e := rfl
end MP

namespace MP
open PySem PySem.Spec
/-- elements and what is walked change the store -/
theorem ok_compJ {α : Type} {di : DA} {own : List Nat} {tg : Tg} {de : DE} {env : Envm} {S S' : Sto} {Q : R → Sto → Prop} (xs : List α) (f : α → D) (I : Nat → List D → Sto → Prop) (hi : okE (di env S) fun ds S1 => ds = xs.map f ∧ S1 = S') (hl : xs.length ≤ 100000) (h0 : I 0 [] S')
    (h : ∀ j x ys S, xs[j]? = some x → I j ys S → okB (bindTg tg (f x) (wipeE env own)) fun e => okE (de e S) fun y S1 => I (j + 1) (ys ++ [y]) S1) (q : ∀ ys S, I xs.length ys S → Q (.o (.l ys)) S) : okE (dComp di own tg dYes de env S) Q := by
  obtain ⟨ds, S1, h1, rfl, rfl⟩ := hi
  unfold dComp
  rw [h1]
  show okE (if (xs.map f).length ≤ 100000 then _ else _) Q
  rw [if_pos (by rw [List.length_map]; exact hl), okE_map]
  exact ok_compLI f I xs 0 [] S1 _ h0 (fun j x ys S hj hI => by rw [Nat.zero_add] at hI ⊢; exact h j x ys S hj hI) fun zs S hI => q zs S (by rw [Nat.zero_add] at hI; exact hI)
/-! ### locked dicts -/
section
variable (env : Envm) (S : Sto) (i : Nat)
def lkR (i : Nat) (dr : DR) (env : Envm) (S : Sto) : Option Sl → Res R := fun o => match o with
  | some (.ow (.k ks ds)) => dr (env.set i (.ow (.fk ks ds))) S
  | some (.ow (.t ks ds)) => dr (env.set i (.ow (.ft ks ds))) S
  | _ => .bad
theorem ev_dLk (dr : DR) : dLk i dr env S = lkR i dr env S env[i]? := by
  unfold dLk lockE lkR
  cases env[i]? with
  | none => rfl
  | some s =>
    cases s with
    | no => rfl
    | va d => rfl
    | ow x => cases x <;> rfl
theorem lkR_k (dr : DR) (ks : List L2.Key) (ds : List D) : lkR i dr env S (some (.ow (.k ks ds))) = dr (env.set i (.ow (.fk ks ds))) S := rfl
theorem lkR_t (dr : DR) (ks : List (List L2.Key)) (ds : List D) : lkR i dr env S (some (.ow (.t ks ds))) = dr (env.set i (.ow (.ft ks ds))) S := rfl
def kyR : D → Sto → Res (List D) := fun d S1 => match d with
  | .fk ks _ => .ok (ks.map keyD) S1
  | .ft ks _ => .ok (ks.map fun k => .tup (k.map keyD)) S1
  | _ => .bad
theorem ev_dKeys (de : DE) : dKeys de env S = (de env S).bind kyR := rfl
theorem kyR_k (ks : List L2.Key) (ds : List D) : kyR (.fk ks ds) S = .ok (ks.map keyD) S := rfl
theorem kyR_t (ks : List (List L2.Key)) (ds : List D) : kyR (.ft ks ds) S = .ok (ks.map fun k => .tup (k.map keyD)) S := rfl
theorem slB_fk (x : List L2.Key) (y : List D) : slB (some (.ow (.fk x y))) S = .ok (.fk x y) S := rfl
theorem slB_ft (x : List (List L2.Key)) (y : List D) : slB (some (.ow (.ft x y))) S = .ok (.ft x y) S := rfl
end
end MP

namespace MP
open PySem PySem.Spec
theorem all2_at {α β : Type} {P : α → β → Prop} : ∀ {as : List α} {bs : List β}, All2 P as bs → ∀ (i : Nat) (a : α) (b : β), as[i]? = some a → bs[i]? = some b → P a b
  | _, _, .nil, i, a, b, h1, _ => by simp at h1
  | _, _, .cons p t, 0, a, b, h1, h2 => by simp at h1 h2; subst h1 h2; exact p
  | _, _, .cons p t, i + 1, a, b, h1, h2 => all2_at t i a b (by simpa using h1) (by simpa using h2)
theorem jr3 {d : D} {j : J} (h : JR d j) : ∃ d3 ds, (∀ S, fIx d (.int 2) S = .ok (.v d3) S) ∧ (∀ S, itR d3 S = .ok ds S) ∧ (j.N.length = ds.length ∧ ∀ (i : Nat) (x : Note) (e : D), j.N[i]? = some x → ds[i]? = some e → NoteR x e) := by
  obtain ⟨d3, ds, h1, h2, h3⟩ := h.ex
  refine ⟨d3, ds, fun S => ?_, fun S => ?_, h3.length, all2_at h3⟩
  · cases h1 <;> rfl
  · cases h2 <;> rfl
def sv_0 := And.intro @okE_ok (And.intro @okE_bad (And.intro @okE_bind (And.intro @okE_map (And.intro @okB_some (And.intro @okB_none (And.intro @okO_nx (And.intro @okO_rt (And.intro @okO_bk (And.intro @okO_ct (And.intro @okO_bad (And.intro @sz_nil (And.intro @sz_cons (And.intro @sz_map (And.intro @at_zero (And.intro @at_succ (And.intro @st_zero (And.intro @st_succ (And.intro @ev_dVar (And.intro @ev_dBVar (And.intro @ev_dMv (And.intro @slV_va (And.intro @slB_va (And.intro @slB_l (And.intro @slB_k (And.intro @slB_t (And.intro @slM_va (And.intro @slM_ow (And.intro @ev_dC (And.intro @ev_fz (And.intro @ev_rv (And.intro @val_v (And.intro @val_l (And.intro @val_k (And.intro @val_t (And.intro @ev_toDl (And.intro @ev_toDk (And.intro @ev_toDt (And.intro @ev_dOp (And.intro @ev_dOp2 (And.intro @ev_dUn (And.intro @ev_dNil (And.intro @ev_dCons (And.intro @ev_dTup (And.intro @ev_dLst (And.intro @asB_bl (And.intro @ev_dB (And.intro @ev_dAndT (And.intro @ev_dOrT (And.intro @ev_dNotT (And.intro @ev_dAnd (And.intro @ev_dOr (And.intro @ev_dNot (And.intro @ev_dIf (And.intro @ev_dIfR (And.intro @ev_dCall (And.intro @ev_dBlt (And.intro @ev_dYes (And.intro @ev_dNewK (@ev_dNewT)))))))))))))))))))))))))))))))))))))))))))))))))))))))))))
def sv_1 := And.intro @asBR_bl (And.intro @ev_dChain (And.intro @ev_oNone (And.intro @asI_int (And.intro @ev_oSome (And.intro @slR_lst (And.intro @slR_tup (And.intro @ev_dSl (And.intro @itR_tup (And.intro @itR_lst (And.intro @ev_dSeq (And.intro @ev_dEnum (And.intro @zpR_lst (And.intro @zpR_tup (And.intro @ev_dZip (And.intro @ev_dRange1 (And.intro @ev_dRange2 (And.intro @ev_dMkL (And.intro @ev_dMkT (And.intro @ev_add (And.intro @ev_iadd (And.intro @ev_sub (And.intro @ev_lt (And.intro @ev_le (And.intro @ev_gt (And.intro @ev_ge (And.intro @ev_neg (And.intro @ev_eqI (And.intro @ev_neI (And.intro @ev_isN (And.intro @ev_notN (And.intro @isNon_non (And.intro @isNon_int (And.intro @isNon_tup (And.intro @isNon_str (And.intro @ixR_some (And.intro @ev_ixT (And.intro @ev_ixL (And.intro @ixD_0 (And.intro @ixD_1 (And.intro @ixD_2 (And.intro @ev_lenT (And.intro @ev_lenL (And.intro @ev_lenS (And.intro @ev_lenK (And.intro @ev_listT (And.intro @ev_listL (And.intro @ev_tupleT (And.intro @ev_tupleL (And.intro @ev_abs (And.intro @ev_intI (And.intro @ev_intB (And.intro @ev_max2 (And.intro @ev_min2 (And.intro @ok_dSeqS (And.intro @slOf_v (And.intro @slOf_o (And.intro @ok_dSet (And.intro @ok_dSkip (@ok_dBreak)))))))))))))))))))))))))))))))))))))))))))))))))))))))))))
def sv_2 := And.intro @ok_dCont (And.intro @ok_dRetN (And.intro @ok_dNever (And.intro @ok_dRet (And.intro @ok_dDrop (And.intro @ok_dIfS (And.intro @ok_dFrz (And.intro @ev_frzE (And.intro @frz1_o (And.intro @frz1_v (And.intro @frz1_n (And.intro @ok_dUnp (And.intro @bd_nm (And.intro @bd_tup (And.intro @bd_lst (And.intro @bds_nil (And.intro @bdC_some (And.intro @bds_cons (And.intro @ok_dFor (And.intro @ev_rNil (And.intro @ev_rCons (And.intro @ss_nil (And.intro @ss_cons (And.intro @ok_dPar (And.intro @ok_dAug (And.intro @isOwnL_l (And.intro @ok_dMut1 (And.intro @mutE_l (And.intro @okL_some (And.intro @sv_at (And.intro @sv_ta (And.intro @sv_it (And.intro @sv_ti (And.intro @sv_dt (And.intro @sv_df (And.intro @sv_ft (And.intro @sv_nt (And.intro @sv_nn (And.intro @sv_tt (And.intro @sv_fn (And.intro @start_c (And.intro @start_n (And.intro @start_0 (And.intro @setL_c (And.intro @setL_n (And.intro @wipe_c (And.intro @wipe_n (And.intro @ev_dLk (And.intro @lkR_k (And.intro @lkR_t (And.intro @ev_dKeys (And.intro @kyR_k (And.intro @kyR_t (And.intro @slB_fk (@slB_ft))))))))))))))))))))))))))))))))))))))))))))))))))))))
theorem sp_plain {B : Tb} {n : Nat} {S : Sto} {d : D} {j : J} (hB : B i_plain = some q_plain) (h : JR d j) : callN B (n + 1) i_plain [d] S = .ok (.v (jD j)) S := by
  obtain ⟨d3, ds, h1, h2, h3⟩ := jr3 h
  have i0 := h.ix0
  have i1 := h.ix1
  refine eq_of_ok (ok_call (hB.trans rfl) rfl ?_)
  unfold b_plain
  simp only [sv_0, sv_1, sv_2, reduceIte, reduceDIte, reduceCtorEq, Nat.reduceAdd, Nat.reduceSub, Nat.reduceMul, Nat.reduceLT, Nat.reduceLeDiff, Nat.reduceEqDiff, Int.reduceAdd, Int.reduceSub, Int.reduceMul, Int.reduceLE, Int.reduceLT, Int.reduceEq, Int.reduceNe, Int.reduceNeg, Int.reduceToNat, i0, i1, h1]
  refine ok_compR (R := NoteR) j.N (fun _ => true) noteD ?_ (by have := h.len; omega) (fun x e _ hx => ?_) ?_
  · simp only [sv_0, sv_1, sv_2, reduceIte, reduceDIte, reduceCtorEq, Nat.reduceAdd, Nat.reduceSub, Nat.reduceMul, Nat.reduceLT, Nat.reduceLeDiff, Nat.reduceEqDiff, Int.reduceAdd, Int.reduceSub, Int.reduceMul, Int.reduceLE, Int.reduceLT, Int.reduceEq, Int.reduceNe, Int.reduceNeg, Int.reduceToNat, h1, h2]
    exact h3
  · cases hx <;> simp only [sv_0, sv_1, sv_2, reduceIte, reduceDIte, reduceCtorEq, Nat.reduceAdd, Nat.reduceSub, Nat.reduceMul, Nat.reduceLT, Nat.reduceLeDiff, Nat.reduceEqDiff, Int.reduceAdd, Int.reduceSub, Int.reduceMul, Int.reduceLE, Int.reduceLT, Int.reduceEq, Int.reduceNe, Int.reduceNeg, Int.reduceToNat, noteD]
  · rw [List.filter_eq_self.mpr (fun _ _ => rfl)]
    simp only [sv_0, sv_1, sv_2, reduceIte, reduceDIte, reduceCtorEq, Nat.reduceAdd, Nat.reduceSub, Nat.reduceMul, Nat.reduceLT, Nat.reduceLeDiff, Nat.reduceEqDiff, Int.reduceAdd, Int.reduceSub, Int.reduceMul, Int.reduceLE, Int.reduceLT, Int.reduceEq, Int.reduceNe, Int.reduceNeg, Int.reduceToNat, jD]
/-! ### begun -/
theorem sortOk_notes {l : List Note} (h : l.length ≤ 100000) : sortOk (l.map noteD) = true := by
  unfold sortOk
  simp only [Bool.and_eq_true, Bool.or_eq_true, decide_eq_true_eq, List.all_eq_true, List.length_map]
  refine ⟨⟨⟨fun d hd => ?_, .inl fun d hd => ?_⟩, fun d hd e he => ?_⟩, h⟩
  · obtain ⟨l, _, rfl⟩ := List.mem_map.mp hd
    simp [noteD, fitN, kd_ok]
  · obtain ⟨l, _, rfl⟩ := List.mem_map.mp hd
    rfl
  · obtain ⟨l, _, rfl⟩ := List.mem_map.mp hd
    obtain ⟨m, _, rfl⟩ := List.mem_map.mp he
    simp [noteD, toPy, toPys, PySem.W.alike, PySem.W.alikeAll]
def noteLe (a b : Note) : Bool := dle (noteD a) (noteD b)
def sortN (l : List Note) : List Note := l.mergeSort noteLe
theorem sortN_eq (l : List Note) : dSort (l.map noteD) = (sortN l).map noteD := by
  unfold dSort sortN
  exact (List.map_mergeSort (r := noteLe) (s := dle) (f := noteD) (l := l) fun a _ b _ => rfl).symm
theorem sortN_perm (l : List Note) : (sortN l).Perm l := List.mergeSort_perm _ _
theorem enumD_ints : ∀ (l : List Int) (i : Nat), enumD i (l.map D.int) = (enumN i l).map fun x => D.tup [.int x.t, .int x.v]
  | [], i => rfl
  | p :: l, i => by
    rw [List.map_cons]
    unfold enumD enumN
    rw [List.map_cons, enumD_ints l]
def begunF (j : J) (pre : List Int) : J := ⟨j.n, j.m, sortN ((j.N.filter fun x => x.k == false || decide ((pre.length : Int) ≤ x.t)) ++ enumN 0 pre)⟩
theorem begun_ok (j : J) (pre : List Int) : Begun j pre (begunF j pre) := ⟨rfl, rfl, sortN_perm _⟩
theorem fEq_end (k : Bool) (S : Sto) : fEq (.str (kd k)) (.str "end") S = .ok (.v (.bl (k == false))) S := by
  have := kd_eq k false
  rw [ev_eq S (by show PyData.strOk (kd k) = true; exact kd_ok k) (by show PyData.strOk (kd false) = true; exact kd_ok false)]
  show Res.ok (R.v (D.bl (kd k == kd false))) S = _
  rw [this]
theorem fEq_closed (k : Bool) (S : Sto) : fEq (.str (kd k)) (.str "closed") S = .ok (.v (.bl (k == true))) S := by
  have := kd_eq k true
  rw [ev_eq S (by show PyData.strOk (kd k) = true; exact kd_ok k) (by show PyData.strOk (kd true) = true; exact kd_ok true)]
  show Res.ok (R.v (D.bl (kd k == kd true))) S = _
  rw [this]
theorem sp_begun {B : Tb} {n : Nat} {S : Sto} {d : D} {j : J} {pre : List Int} (hP : B i_plain = some q_plain) (hB : B i_begun = some q_begun) (h : JR d j) (hl : pre.length ≤ 1000) : callN B (n + 2) i_begun [d, .tup (pre.map D.int)] S = .ok (.v (jD (begunF j pre))) S := by
  have p1 : ∀ S, callN B (n + 1) 408 [d] S = .ok (.v (jD j)) S := fun S => sp_plain hP h
  have hlen := h.len
  refine eq_of_ok (ok_call (hB.trans rfl) rfl ?_)
  unfold b_begun
  simp only [sv_0, sv_1, sv_2, reduceIte, reduceDIte, reduceCtorEq, Nat.reduceAdd, Nat.reduceSub, Nat.reduceMul, Nat.reduceLT, Nat.reduceLeDiff, Nat.reduceEqDiff, Int.reduceAdd, Int.reduceSub, Int.reduceMul, Int.reduceLE, Int.reduceLT, Int.reduceEq, Int.reduceNe, Int.reduceNeg, Int.reduceToNat, p1, jD]
  refine ok_comp j.N noteD (fun x => x.k == false || decide ((pre.length : Int) ≤ x.t)) noteD (by simp only [sv_0, sv_1, sv_2, reduceIte, reduceDIte, reduceCtorEq, Nat.reduceAdd, Nat.reduceSub, Nat.reduceMul, Nat.reduceLT, Nat.reduceLeDiff, Nat.reduceEqDiff, Int.reduceAdd, Int.reduceSub, Int.reduceMul, Int.reduceLE, Int.reduceLT, Int.reduceEq, Int.reduceNe, Int.reduceNeg, Int.reduceToNat]) (by omega) (fun x _ => ?_) ?_
  · simp only [sv_0, sv_1, sv_2, reduceIte, reduceDIte, reduceCtorEq, Nat.reduceAdd, Nat.reduceSub, Nat.reduceMul, Nat.reduceLT, Nat.reduceLeDiff, Nat.reduceEqDiff, Int.reduceAdd, Int.reduceSub, Int.reduceMul, Int.reduceLE, Int.reduceLT, Int.reduceEq, Int.reduceNe, Int.reduceNeg, Int.reduceToNat, noteD, fEq_end]
    cases x.k <;> simp [sv_0, sv_1, sv_2, reduceIte, reduceDIte, reduceCtorEq, Nat.reduceAdd, Nat.reduceSub, Nat.reduceMul, Nat.reduceLT, Nat.reduceLeDiff, Nat.reduceEqDiff, Int.reduceAdd, Int.reduceSub, Int.reduceMul, Int.reduceLE, Int.reduceLT, Int.reduceEq, Int.reduceNe, Int.reduceNeg, Int.reduceToNat, okE_ite]
  · have lf := List.length_filter_le (fun x : Note => x.k == false || decide ((pre.length : Int) ≤ x.t)) j.N
    simp only [sv_0, sv_1, sv_2, reduceIte, reduceDIte, reduceCtorEq, Nat.reduceAdd, Nat.reduceSub, Nat.reduceMul, Nat.reduceLT, Nat.reduceLeDiff, Nat.reduceEqDiff, Int.reduceAdd, Int.reduceSub, Int.reduceMul, Int.reduceLE, Int.reduceLT, Int.reduceEq, Int.reduceNe, Int.reduceNeg, Int.reduceToNat]
    refine ok_compA (enumN 0 pre) (fun x => D.tup [.int x.t, .int x.v]) noteD ?_ (by rw [enumN_len]; omega) (fun x hx => ?_) ?_
    · simp only [sv_0, sv_1, sv_2, reduceIte, reduceDIte, reduceCtorEq, Nat.reduceAdd, Nat.reduceSub, Nat.reduceMul, Nat.reduceLT, Nat.reduceLeDiff, Nat.reduceEqDiff, Int.reduceAdd, Int.reduceSub, Int.reduceMul, Int.reduceLE, Int.reduceLT, Int.reduceEq, Int.reduceNe, Int.reduceNeg, Int.reduceToNat, enumD_ints]
    · have hk := (mem_enumN.mp hx).1
      simp only [sv_0, sv_1, sv_2, reduceIte, reduceDIte, reduceCtorEq, Nat.reduceAdd, Nat.reduceSub, Nat.reduceMul, Nat.reduceLT, Nat.reduceLeDiff, Nat.reduceEqDiff, Int.reduceAdd, Int.reduceSub, Int.reduceMul, Int.reduceLE, Int.reduceLT, Int.reduceEq, Int.reduceNe, Int.reduceNeg, Int.reduceToNat, noteD, kd, hk, if_true]
    · have so := sortOk_notes (l := (j.N.filter fun x => x.k == false || decide ((pre.length : Int) ≤ x.t)) ++ enumN 0 pre) (by rw [List.length_append, enumN_len]; omega)
      simp only [sv_0, sv_1, sv_2, reduceIte, reduceDIte, reduceCtorEq, Nat.reduceAdd, Nat.reduceSub, Nat.reduceMul, Nat.reduceLT, Nat.reduceLeDiff, Nat.reduceEqDiff, Int.reduceAdd, Int.reduceSub, Int.reduceMul, Int.reduceLE, Int.reduceLT, Int.reduceEq, Int.reduceNe, Int.reduceNeg, Int.reduceToNat]
      rw [ev_addL _ (by rw [List.length_map, List.length_map, enumN_len]; omega), ← List.map_append]
      simp only [sv_0, sv_1, sv_2, reduceIte, reduceDIte, reduceCtorEq, Nat.reduceAdd, Nat.reduceSub, Nat.reduceMul, Nat.reduceLT, Nat.reduceLeDiff, Nat.reduceEqDiff, Int.reduceAdd, Int.reduceSub, Int.reduceMul, Int.reduceLE, Int.reduceLT, Int.reduceEq, Int.reduceNe, Int.reduceNeg, Int.reduceToNat, bSorted, so, if_true, sortN_eq, begunF]
theorem begun_jr {j : J} {pre : List Int} (w : JW j) (hN : j.N.length ≤ 5000) (hr : ∀ p ∈ pre, 0 ≤ p ∧ p < j.n) (hl : pre.length ≤ j.m.toNat) : JR (jD (begunF j pre)) (begunF j pre) := by
  have wm := w.m1
  refine jr_jD ((begun_ok j pre).jw w hr hl) ?_
  rw [(begun_ok j pre).N.length_eq, List.length_append, enumN_len]
  have := List.length_filter_le (fun x : Note => x.k == false || decide ((pre.length : Int) ≤ x.t)) j.N
  omega
/-! ### count_after -/
structure Lb (B : Tb) : Prop where
  noted : B i_noted = some q_noted
  span : B i_span = some q_span
  sound : B i_is_sound = some q_is_sound
  count : B i_count_orders = some q_count_orders
  plain : B i_plain = some q_plain
  begun : B i_begun = some q_begun
  after : B i_count_after = some q_count_after
  next : B i_next_counts = some q_next_counts
/-- a journal that the numbers' defs can take -/
structure JK (d : D) (j : J) : Prop where
  r : JR d j
  s : j.N.length ≤ 5000
theorem ixD_row {l : List Int} {t : Int} {p : Int} (h0 : 0 ≤ t) (h : l[t.toNat]? = some p) : ixD (l.map D.int) t = some (.int p) := ixD_at' h0 (by rw [List.getElem?_map, h]; rfl)
theorem sp_after {B : Tb} {n : Nat} {S : Sto} {d : D} {j : J} {pre : List Int} (L : Lb B) (h : JK d j) (nd : pre.Nodup) (hr : ∀ p ∈ pre, 0 ≤ p ∧ p < j.n) (hl : pre.length ≤ j.m.toNat) : callN B (n + 5) i_count_after [d, .tup (pre.map D.int)] S = .ok (.v (.int (cntA j pre))) S := by
  have w := h.r.w
  have wm := w.m1
  have n1 : ∀ S, callN B (n + 4) 399 [d, .str "closed"] S = .ok (.o (.l ((notedL j true).map lkD))) S := fun S => sp_noted (n := n + 3) true L.noted h.r
  have b1 : ∀ S, callN B (n + 4) 288 [d, .tup (pre.map D.int)] S = .ok (.v (jD (begunF j pre))) S := fun S => sp_begun (n := n + 2) L.plain L.begun h.r (by omega)
  have c1 : ∀ S, callN B (n + 4) 295 [jD (begunF j pre)] S = .ok (.v (.int (countF (begunF j pre)))) S := fun S => sp_count (n := n) L.noted L.span L.sound L.count (begun_jr w h.s hr hl)
  have hlen := h.s
  have l1 : (notedL j true).length ≤ 100000 := Nat.le_trans notedL_len (by omega)
  have ae := after_eq (begun_ok j pre) w nd hr hl
  refine eq_of_ok (ok_call (L.after.trans rfl) rfl ?_)
  unfold b_count_after
  simp only [sv_0, sv_1, sv_2, reduceIte, reduceDIte, reduceCtorEq, Nat.reduceAdd, Nat.reduceSub, Nat.reduceMul, Nat.reduceLT, Nat.reduceLeDiff, Nat.reduceEqDiff, Int.reduceAdd, Int.reduceSub, Int.reduceMul, Int.reduceLE, Int.reduceLT, Int.reduceEq, Int.reduceNe, Int.reduceNeg, Int.reduceToNat]
  refine ok_compA (notedL j true) lkD (fun x => .bl (decide ((pre.length : Int) ≤ x.1) || decide (pre[x.1.toNat]? = some x.2))) (by simp only [sv_0, sv_1, sv_2, reduceIte, reduceDIte, reduceCtorEq, Nat.reduceAdd, Nat.reduceSub, Nat.reduceMul, Nat.reduceLT, Nat.reduceLeDiff, Nat.reduceEqDiff, Int.reduceAdd, Int.reduceSub, Int.reduceMul, Int.reduceLE, Int.reduceLT, Int.reduceEq, Int.reduceNe, Int.reduceNeg, Int.reduceToNat, n1]) l1 (fun x hx => ?_) ?_
  · simp only [sv_0, sv_1, sv_2, reduceIte, reduceDIte, reduceCtorEq, Nat.reduceAdd, Nat.reduceSub, Nat.reduceMul, Nat.reduceLT, Nat.reduceLeDiff, Nat.reduceEqDiff, Int.reduceAdd, Int.reduceSub, Int.reduceMul, Int.reduceLE, Int.reduceLT, Int.reduceEq, Int.reduceNe, Int.reduceNeg, Int.reduceToNat, lkD, okE_ite]
    by_cases c : (pre.length : Int) ≤ x.1
    · simp [c]
    · have h0 := (noted_inr w hx).1
      have e : pre[x.1.toNat]? = some pre[x.1.toNat] := List.getElem?_eq_getElem (by omega)
      simp only [c, if_false, ixD_row h0 e, sv_0, sv_1, sv_2, reduceIte, reduceDIte, reduceCtorEq, Nat.reduceAdd, Nat.reduceSub, Nat.reduceMul, Nat.reduceLT, Nat.reduceLeDiff, Nat.reduceEqDiff, Int.reduceAdd, Int.reduceSub, Int.reduceMul, Int.reduceLE, Int.reduceLT, Int.reduceEq, Int.reduceNe, Int.reduceNeg, Int.reduceToNat, e]
      simp
  · simp only [sv_0, sv_1, sv_2, reduceIte, reduceDIte, reduceCtorEq, Nat.reduceAdd, Nat.reduceSub, Nat.reduceMul, Nat.reduceLT, Nat.reduceLeDiff, Nat.reduceEqDiff, Int.reduceAdd, Int.reduceSub, Int.reduceMul, Int.reduceLE, Int.reduceLT, Int.reduceEq, Int.reduceNe, Int.reduceNeg, Int.reduceToNat, bAll_map, b1, c1]
    have e : ((notedL j true).all fun x => decide ((pre.length : Int) ≤ x.1) || decide (pre[x.1.toNat]? = some x.2)) = agreeF j pre := rfl
    rw [e, ← ae]
    cases agreeF j pre <;> simp [sv_0, sv_1, sv_2, reduceIte, reduceDIte, reduceCtorEq, Nat.reduceAdd, Nat.reduceSub, Nat.reduceMul, Nat.reduceLT, Nat.reduceLeDiff, Nat.reduceEqDiff, Int.reduceAdd, Int.reduceSub, Int.reduceMul, Int.reduceLE, Int.reduceLT, Int.reduceEq, Int.reduceNe, Int.reduceNeg, Int.reduceToNat]
theorem snoc_ok {j : J} {pre : List Int} {p : Int} (w : JW j) (nd : pre.Nodup) (hr : ∀ p ∈ pre, 0 ≤ p ∧ p < j.n) (hp : p ∈ freeT j.n.toNat pre) : (pre ++ [p]).Nodup ∧ ∀ q ∈ pre ++ [p], 0 ≤ q ∧ q < j.n := by
  have wn := w.n0
  obtain ⟨h1, h2⟩ := mem_freeT.mp hp
  constructor
  · rw [List.nodup_append]
    exact ⟨nd, by simp, fun a ha b hb => by
      have : b = p := by simpa using hb
      intro e
      exact h2 (by rw [← this, ← e]; exact ha)⟩
  · intro q hq
    rcases List.mem_append.mp hq with hq | hq
    · exact hr q hq
    · have : q = p := by simpa using hq
      omega
/-! ### next_counts -/
theorem freeT_len (n : Nat) (pre : List Int) : (freeT n pre).length ≤ n := by
  have := List.length_filter_le (fun p => !decide (p ∈ pre)) (rng n)
  rw [rng_len] at this
  exact this
theorem sp_next {B : Tb} {n : Nat} {S : Sto} {d : D} {j : J} {pre : List Int} (L : Lb B) (h : JK d j) (nd : pre.Nodup) (hr : ∀ p ∈ pre, 0 ≤ p ∧ p < j.n) (hl : pre.length < j.m.toNat) : callN B (n + 6) i_next_counts [d, .tup (pre.map D.int)] S = .ok (.o (.l ((nextF j pre).map lkD))) S := by
  have w := h.r.w
  have wm := w.m1
  have wn := w.n1
  have wn0 := w.n0
  obtain ⟨nn, en⟩ : ∃ a : Nat, j.n = a := ⟨j.n.toNat, by omega⟩
  have en2 : (j.n).toNat = nn := by omega
  have i0 := h.r.ix0
  refine eq_of_ok (ok_call (L.next.trans rfl) rfl ?_)
  unfold b_next_counts
  simp only [sv_0, sv_1, sv_2, reduceIte, reduceDIte, reduceCtorEq, Nat.reduceAdd, Nat.reduceSub, Nat.reduceMul, Nat.reduceLT, Nat.reduceLeDiff, Nat.reduceEqDiff, Int.reduceAdd, Int.reduceSub, Int.reduceMul, Int.reduceLE, Int.reduceLT, Int.reduceEq, Int.reduceNe, Int.reduceNeg, Int.reduceToNat]
  refine ok_comp (rng nn) D.int (fun p => !decide (p ∈ pre)) (fun p => lkD (p, cntA j (pre ++ [p]))) (by simp only [sv_0, sv_1, sv_2, reduceIte, reduceDIte, reduceCtorEq, Nat.reduceAdd, Nat.reduceSub, Nat.reduceMul, Nat.reduceLT, Nat.reduceLeDiff, Nat.reduceEqDiff, Int.reduceAdd, Int.reduceSub, Int.reduceMul, Int.reduceLE, Int.reduceLT, Int.reduceEq, Int.reduceNe, Int.reduceNeg, Int.reduceToNat, i0, en]; rw [rg1_i S (by omega)]; simp only [sv_0, sv_1, sv_2, reduceIte, reduceDIte, reduceCtorEq, Nat.reduceAdd, Nat.reduceSub, Nat.reduceMul, Nat.reduceLT, Nat.reduceLeDiff, Nat.reduceEqDiff, Int.reduceAdd, Int.reduceSub, Int.reduceMul, Int.reduceLE, Int.reduceLT, Int.reduceEq, Int.reduceNe, Int.reduceNeg, Int.reduceToNat, rangeD_rng]) (by rw [rng_len]; omega) (fun p hp => ?_) ?_
  · simp only [sv_0, sv_1, sv_2, reduceIte, reduceDIte, reduceCtorEq, Nat.reduceAdd, Nat.reduceSub, Nat.reduceMul, Nat.reduceLT, Nat.reduceLeDiff, Nat.reduceEqDiff, Int.reduceAdd, Int.reduceSub, Int.reduceMul, Int.reduceLE, Int.reduceLT, Int.reduceEq, Int.reduceNe, Int.reduceNeg, Int.reduceToNat, fNotIn_tup]
    intro hpp
    have hpf : p ∈ freeT j.n.toNat pre := by rw [en2]; exact mem_freeT.mpr ⟨mem_rng.mp hp, hpp⟩
    obtain ⟨g1, g2⟩ := snoc_ok w nd hr hpf
    have c1 := sp_after (B := B) (n := n) (S := S) L h g1 g2 (by simp; omega)
    rw [List.map_append] at c1
    have c1 : callN B (n + 5) 293 [d, .tup (pre.map D.int ++ [.int p])] S = _ := c1
    rw [ev_addT _ (by simp; omega)]
    simp only [sv_0, sv_1, sv_2, reduceIte, reduceDIte, reduceCtorEq, Nat.reduceAdd, Nat.reduceSub, Nat.reduceMul, Nat.reduceLT, Nat.reduceLeDiff, Nat.reduceEqDiff, Int.reduceAdd, Int.reduceSub, Int.reduceMul, Int.reduceLE, Int.reduceLT, Int.reduceEq, Int.reduceNe, Int.reduceNeg, Int.reduceToNat, c1, lkD]
  · have e : (List.filter (fun p => !decide (p ∈ pre)) (rng nn)).map (fun p => lkD (p, cntA j (pre ++ [p]))) = ((freeT j.n.toNat pre).map fun p => (p, cntA j (pre ++ [p]))).map lkD := by
      rw [List.map_map, en2]
      rfl
    simp only [sv_0, sv_1, sv_2, reduceIte, reduceDIte, reduceCtorEq, Nat.reduceAdd, Nat.reduceSub, Nat.reduceMul, Nat.reduceLT, Nat.reduceLeDiff, Nat.reduceEqDiff, Int.reduceAdd, Int.reduceSub, Int.reduceMul, Int.reduceLE, Int.reduceLT, Int.reduceEq, Int.reduceNe, Int.reduceNeg, Int.reduceToNat]
    rw [e]
    refine ok_comp ((freeT j.n.toNat pre).map fun p => (p, cntA j (pre ++ [p]))) lkD (fun x => decide (0 < x.2)) lkD (by simp only [sv_0, sv_1, sv_2, reduceIte, reduceDIte, reduceCtorEq, Nat.reduceAdd, Nat.reduceSub, Nat.reduceMul, Nat.reduceLT, Nat.reduceLeDiff, Nat.reduceEqDiff, Int.reduceAdd, Int.reduceSub, Int.reduceMul, Int.reduceLE, Int.reduceLT, Int.reduceEq, Int.reduceNe, Int.reduceNeg, Int.reduceToNat]) (by rw [List.length_map]; have := freeT_len j.n.toNat pre; omega) (fun x _ => ?_) ?_
    · simp only [sv_0, sv_1, sv_2, reduceIte, reduceDIte, reduceCtorEq, Nat.reduceAdd, Nat.reduceSub, Nat.reduceMul, Nat.reduceLT, Nat.reduceLeDiff, Nat.reduceEqDiff, Int.reduceAdd, Int.reduceSub, Int.reduceMul, Int.reduceLE, Int.reduceLT, Int.reduceEq, Int.reduceNe, Int.reduceNeg, Int.reduceToNat, lkD]
    · simp only [sv_0, sv_1, sv_2, reduceIte, reduceDIte, reduceCtorEq, Nat.reduceAdd, Nat.reduceSub, Nat.reduceMul, Nat.reduceLT, Nat.reduceLeDiff, Nat.reduceEqDiff, Int.reduceAdd, Int.reduceSub, Int.reduceMul, Int.reduceLE, Int.reduceLT, Int.reduceEq, Int.reduceNe, Int.reduceNeg, Int.reduceToNat]
      rfl
end MP

namespace MP
open PySem PySem.Spec
theorem mapInt_snoc (l : List Int) (p : Int) : l.map D.int ++ [D.int p] = (l ++ [p]).map D.int := by simp
theorem pick_drop {t : List Lk} {k : Nat} {x : Lk} (h : t[k]? = some x) (r : Int) : pick (t.drop k) r = if r < x.2 then some (x.1, r) else pick (t.drop (k + 1)) (r - x.2) := by
  have hk := (List.getElem?_eq_some_iff.mp h)
  rw [List.drop_eq_getElem_cons hk.1, hk.2]
  rfl
theorem nextF_len {j : J} {pre : List Int} : (nextF j pre).length ≤ j.n.toNat := by
  unfold nextF
  refine Nat.le_trans (List.length_filter_le _ _) ?_
  rw [List.length_map]
  exact freeT_len _ _
theorem sp_at {B : Tb} {n : Nat} {S : Sto} {d : D} {j : J} {k : Int} {l : List Int} (L : Lb B) (hA : B i_order_at = some q_order_at) (h : JK d j) (h0 : 0 ≤ k) (hk : (blk j [])[k.toNat]? = some l) : callN B (n + 7) i_order_at [d, .int k] S = .ok (.v (.tup (l.map D.int))) S := by
  have w := h.r.w
  have wm := w.m1
  have wm0 := w.m0
  obtain ⟨mm, em⟩ : ∃ a : Nat, j.m = a := ⟨j.m.toNat, by omega⟩
  have em2 : (j.m).toNat = mm := by omega
  have i1 := h.r.ix1
  have c1 : ∀ S, callN B (n + 6) 295 [d] S = .ok (.v (.int (countF j))) S := fun S => sp_count (n := n + 2) L.noted L.span L.sound L.count h.r
  have kc : k < countF j := by
    have := (List.getElem?_eq_some_iff.mp hk).1
    rw [count_eq w]
    omega
  refine eq_of_ok (ok_call (hA.trans rfl) rfl ?_)
  unfold b_order_at
  refine ok_seqG fun N' hN => ?_
  simp only [sv_0, sv_1, sv_2, reduceIte, reduceDIte, reduceCtorEq, Nat.reduceAdd, Nat.reduceSub, Nat.reduceMul, Nat.reduceLT, Nat.reduceLeDiff, Nat.reduceEqDiff, Int.reduceAdd, Int.reduceSub, Int.reduceMul, Int.reduceLE, Int.reduceLT, Int.reduceEq, Int.reduceNe, Int.reduceNeg, Int.reduceToNat, c1, h0, kc, if_true, decide_true, if_false]
  refine hN _ _ ?_
  refine ok_seqG fun N' hN => ?_
  simp only [sv_0, sv_1, sv_2, reduceIte, reduceDIte, reduceCtorEq, Nat.reduceAdd, Nat.reduceSub, Nat.reduceMul, Nat.reduceLT, Nat.reduceLeDiff, Nat.reduceEqDiff, Int.reduceAdd, Int.reduceSub, Int.reduceMul, Int.reduceLE, Int.reduceLT, Int.reduceEq, Int.reduceNe, Int.reduceNeg, Int.reduceToNat]
  refine hN _ _ ?_
  refine ok_seqG fun N' hN => ?_
  simp only [sv_0, sv_1, sv_2, reduceIte, reduceDIte, reduceCtorEq, Nat.reduceAdd, Nat.reduceSub, Nat.reduceMul, Nat.reduceLT, Nat.reduceLeDiff, Nat.reduceEqDiff, Int.reduceAdd, Int.reduceSub, Int.reduceMul, Int.reduceLE, Int.reduceLT, Int.reduceEq, Int.reduceNe, Int.reduceNeg, Int.reduceToNat, i1, em]
  rw [rg1_i S (by omega)]
  simp only [sv_0, sv_1, sv_2, reduceIte, reduceDIte, reduceCtorEq, Nat.reduceAdd, Nat.reduceSub, Nat.reduceMul, Nat.reduceLT, Nat.reduceLeDiff, Nat.reduceEqDiff, Int.reduceAdd, Int.reduceSub, Int.reduceMul, Int.reduceLE, Int.reduceLT, Int.reduceEq, Int.reduceNe, Int.reduceNeg, Int.reduceToNat, rangeD_rng]
  refine ok_for0 [2, 3, 4, 5, 6] (rng mm) D.int (fun i vs S' => ∃ (pre : List Int) (r : Int) (a b c : Sl), vs = [a, .va (.tup (pre.map D.int)), .va (.int r), b, c] ∧ S' = S ∧ pre.length = i ∧ pre.Nodup ∧ (∀ p ∈ pre, 0 ≤ p ∧ p < j.n) ∧ 0 ≤ r ∧ (blk j pre)[r.toNat]? = some l) [.no, .va (.tup []), .va (.int k), .no, .no] rfl ⟨[], k, .no, .no, .no, rfl, rfl, rfl, List.nodup_nil, fun p hp => (nomatch hp), h0, hk⟩ ?_ ?_
  · rintro N1 K1 T1 hK hT i x vs S' hx ⟨pre, r, a, b, c, rfl, rfl, hl, nd, hr, hr0, hb⟩ hN1
    obtain ⟨hi, rfl⟩ := rng_succ_get hx
    have nx : ∀ S, callN B (n + 6) 396 [d, .tup (pre.map D.int)] S = .ok (.o (.l ((nextF j pre).map lkD))) S := fun S => sp_next L h nd hr (by omega)
    obtain ⟨p, r', k1, k2, k3, k4⟩ := pick_next (by omega) hr0 hb
    obtain ⟨g1, g2⟩ := snoc_ok w nd hr k2
    simp only [sv_0, sv_1, sv_2, reduceIte, reduceDIte, reduceCtorEq, Nat.reduceAdd, Nat.reduceSub, Nat.reduceMul, Nat.reduceLT, Nat.reduceLeDiff, Nat.reduceEqDiff, Int.reduceAdd, Int.reduceSub, Int.reduceMul, Int.reduceLE, Int.reduceLT, Int.reduceEq, Int.reduceNe, Int.reduceNeg, Int.reduceToNat, nx]
    refine ok_for0 [4, 5, 6] (nextF j pre) lkD (fun i vs S2 => ∃ (r : Int) (b c : Sl), vs = [.va (.int r), b, c] ∧ S2 = S' ∧ pick ((nextF j pre).drop i) r = some (p, r')) [.va (.int r), b, c] rfl ⟨r, b, c, rfl, rfl, k1⟩ ?_ ?_
    · rintro N2 K2 T2 hK2 hT2 q x vs S2 hq ⟨r1, b1, c2, rfl, rfl, hp⟩ hN2
      rw [pick_drop hq] at hp
      simp only [sv_0, sv_1, sv_2, reduceIte, reduceDIte, reduceCtorEq, Nat.reduceAdd, Nat.reduceSub, Nat.reduceMul, Nat.reduceLT, Nat.reduceLeDiff, Nat.reduceEqDiff, Int.reduceAdd, Int.reduceSub, Int.reduceMul, Int.reduceLE, Int.reduceLT, Int.reduceEq, Int.reduceNe, Int.reduceNeg, Int.reduceToNat, lkD]
      by_cases z : r1 < x.2
      · rw [if_pos z] at hp
        cases hp
        rw [ev_addT _ (by simp; omega)]
        simp only [z, if_true, sv_0, sv_1, sv_2, reduceIte, reduceDIte, reduceCtorEq, Nat.reduceAdd, Nat.reduceSub, Nat.reduceMul, Nat.reduceLT, Nat.reduceLeDiff, Nat.reduceEqDiff, Int.reduceAdd, Int.reduceSub, Int.reduceMul, Int.reduceLE, Int.reduceLT, Int.reduceEq, Int.reduceNe, Int.reduceNeg, Int.reduceToNat, mapInt_snoc]
        exact hK2 _ _ (hN1 [_, _, _, _, _] _ ⟨_, _, _, _, _, rfl, rfl, by simp; omega, g1, g2, k3, k4⟩)
      · rw [if_neg z] at hp
        simp only [z, if_false, sv_0, sv_1, sv_2, reduceIte, reduceDIte, reduceCtorEq, Nat.reduceAdd, Nat.reduceSub, Nat.reduceMul, Nat.reduceLT, Nat.reduceLeDiff, Nat.reduceEqDiff, Int.reduceAdd, Int.reduceSub, Int.reduceMul, Int.reduceLE, Int.reduceLT, Int.reduceEq, Int.reduceNe, Int.reduceNeg, Int.reduceToNat]
        exact hN2 [_, _, _] _ ⟨_, _, _, rfl, rfl, hp⟩
    · rintro vs S2 ⟨r1, b1, c2, rfl, rfl, hp⟩
      rw [List.drop_of_length_le (Nat.le_refl _)] at hp
      cases hp
  · rintro vs S' ⟨pre, r, a, b, c, rfl, rfl, hl, nd, hr, hr0, hb⟩
    rw [rng_len] at hl
    refine hN _ _ ?_
    simp only [sv_0, sv_1, sv_2, reduceIte, reduceDIte, reduceCtorEq, Nat.reduceAdd, Nat.reduceSub, Nat.reduceMul, Nat.reduceLT, Nat.reduceLeDiff, Nat.reduceEqDiff, Int.reduceAdd, Int.reduceSub, Int.reduceMul, Int.reduceLE, Int.reduceLT, Int.reduceEq, Int.reduceNe, Int.reduceNeg, Int.reduceToNat]
    rw [blk_full (by omega) (List.mem_of_getElem? hb)]
/-! ### misfit, look_order -/
theorem take_cut (l : List Int) (t : Int) (h : 0 ≤ t) : cutD (l.map D.int) none (some (t + 1)) = (l.take (t.toNat + 1)).map D.int := by
  rw [cut_to _ _ h, List.map_take]
theorem take_cut0 (l : List Int) (t : Int) (h : 0 ≤ t) : cutD (l.map D.int) none (some t) = (l.take t.toNat).map D.int := by
  have e : HT.sIx (l.map D.int).length (l.map D.int).length (some t) = min t.toNat (l.map D.int).length := by
    show (if t < 0 then _ else min t.toNat (l.map D.int).length) = _
    rw [if_neg (by omega)]
  unfold cutD
  rw [e]
  show ((l.map D.int).drop 0).take (min t.toNat (l.map D.int).length - 0) = _
  rw [List.drop_zero, Nat.sub_zero, ← List.take_eq_take_min, List.map_take]
theorem Ord.after {j : J} (w : JW j) {l : List Int} (h : Ord j l) (i : Nat) : (l.take i).Nodup ∧ (∀ p ∈ l.take i, 0 ≤ p ∧ p < j.n) ∧ (l.take i).length ≤ j.m.toNat ∧ 0 < cntA j (l.take i) := by
  have hl := h.len
  have a1 : (l.take i).Nodup := h.nd.sublist (List.take_sublist _ _)
  have a2 : ∀ p ∈ l.take i, 0 ≤ p ∧ p < j.n := fun p hp => h.inr p ((List.take_sublist _ _).subset hp)
  have a3 : (l.take i).length ≤ j.m.toNat := by rw [List.length_take]; omega
  refine ⟨a1, a2, a3, ?_⟩
  have := List.length_pos_of_mem ((mem_blk w a1 a2 a3).mpr ⟨List.take_prefix i l, h⟩)
  unfold cntA
  omega
theorem sp_misfit {B : Tb} {n : Nat} {S : Sto} {d : D} {j : J} {l : List Int} (L : Lb B) (hM : B i_misfit = some q_misfit) (h : JK d j) (o : Ord j l) : callN B (n + 6) i_misfit [d, .tup (l.map D.int)] S = .ok (.v .non) S := by
  have w := h.r.w
  have wm := w.m1
  have hl := o.len
  refine eq_of_ok (ok_call (hM.trans rfl) rfl ?_)
  unfold b_misfit
  refine ok_seqG fun N' hN => ?_
  simp only [sv_0, sv_1, sv_2, reduceIte, reduceDIte, reduceCtorEq, Nat.reduceAdd, Nat.reduceSub, Nat.reduceMul, Nat.reduceLT, Nat.reduceLeDiff, Nat.reduceEqDiff, Int.reduceAdd, Int.reduceSub, Int.reduceMul, Int.reduceLE, Int.reduceLT, Int.reduceEq, Int.reduceNe, Int.reduceNeg, Int.reduceToNat]
  rw [rg1_i S (by omega)]
  simp only [sv_0, sv_1, sv_2, reduceIte, reduceDIte, reduceCtorEq, Nat.reduceAdd, Nat.reduceSub, Nat.reduceMul, Nat.reduceLT, Nat.reduceLeDiff, Nat.reduceEqDiff, Int.reduceAdd, Int.reduceSub, Int.reduceMul, Int.reduceLE, Int.reduceLT, Int.reduceEq, Int.reduceNe, Int.reduceNeg, Int.reduceToNat, rangeD_rng]
  refine ok_for0 [2] (rng l.length) D.int (fun i vs S' => ∃ (a : Sl), vs = [a] ∧ S' = S) [.no] rfl ⟨.no, rfl, rfl⟩ ?_ ?_
  · rintro N1 K1 T1 hK hT i x vs S' hx ⟨a, rfl, rfl⟩ hN1
    obtain ⟨hi, rfl⟩ := rng_succ_get hx
    obtain ⟨a1, a2, a3, a4⟩ := o.after w (i + 1)
    have c1 : callN B (n + 5) 293 [d, .tup ((l.take (i + 1)).map D.int)] S' = _ := sp_after L h a1 a2 a3
    have ne : ¬ cntA j (l.take (i + 1)) = 0 := by omega
    simp only [sv_0, sv_1, sv_2, reduceIte, reduceDIte, reduceCtorEq, Nat.reduceAdd, Nat.reduceSub, Nat.reduceMul, Nat.reduceLT, Nat.reduceLeDiff, Nat.reduceEqDiff, Int.reduceAdd, Int.reduceSub, Int.reduceMul, Int.reduceLE, Int.reduceLT, Int.reduceEq, Int.reduceNe, Int.reduceNeg, Int.reduceToNat, take_cut l _ (Int.natCast_nonneg i), Int.toNat_natCast, c1, ne, if_false]
    exact hN1 [_] _ ⟨_, rfl, rfl⟩
  · rintro vs S' ⟨a, rfl, rfl⟩
    refine hN _ _ ?_
    simp only [sv_0, sv_1, sv_2, reduceIte, reduceDIte, reduceCtorEq, Nat.reduceAdd, Nat.reduceSub, Nat.reduceMul, Nat.reduceLT, Nat.reduceLeDiff, Nat.reduceEqDiff, Int.reduceAdd, Int.reduceSub, Int.reduceMul, Int.reduceLE, Int.reduceLT, Int.reduceEq, Int.reduceNe, Int.reduceNeg, Int.reduceToNat]
theorem sp_lookO {B : Tb} {n : Nat} {S : Sto} {d : D} {j : J} {l : List Int} (L : Lb B) (hM : B i_misfit = some q_misfit) (hO : B i_look_order = some q_look_order) (h : JK d j) (o : Ord j l) : callN B (n + 7) i_look_order [d, .tup (l.map D.int)] S = .ok (.v .non) S := by
  have m1 : ∀ S, callN B (n + 6) 394 [d, .tup (l.map D.int)] S = .ok (.v .non) S := fun S => sp_misfit L hM h o
  refine eq_of_ok (ok_call (hO.trans rfl) rfl ?_)
  unfold b_look_order
  simp only [sv_0, sv_1, sv_2, reduceIte, reduceDIte, reduceCtorEq, Nat.reduceAdd, Nat.reduceSub, Nat.reduceMul, Nat.reduceLT, Nat.reduceLeDiff, Nat.reduceEqDiff, Int.reduceAdd, Int.reduceSub, Int.reduceMul, Int.reduceLE, Int.reduceLT, Int.reduceEq, Int.reduceNe, Int.reduceNeg, Int.reduceToNat, m1, if_false]
/-! ### number_of -/
theorem bSum_ints (l : List Int) (S : Sto) : bSum [.lst (l.map D.int)] S = .ok (.v (.int l.sum)) S := by
  unfold bSum
  simp only [intsOf_map]
def enumL (l : List Int) : List Lk := (enumN 0 l).map fun x => (x.t, x.v)
theorem enumD_lk (l : List Int) : enumD 0 (l.map D.int) = (enumL l).map lkD := by
  rw [enumD_ints]
  unfold enumL
  rw [List.map_map]
  rfl
theorem enumN_at : ∀ {l : List Int} {i k : Nat} {x : Note}, (enumN i l)[k]? = some x → x.t = i + k ∧ l[k]? = some x.v
  | [], i, k, x, h => by simp [enumN] at h
  | p :: l, i, 0, x, h => by
    simp [enumN] at h
    subst h
    simp
  | p :: l, i, k + 1, x, h => by
    have := enumN_at (l := l) (i := i + 1) (k := k) (x := x) (by simpa [enumN] using h)
    refine ⟨by omega, by simpa using this.2⟩
theorem enumL_at {l : List Int} {k : Nat} {x : Lk} (h : (enumL l)[k]? = some x) : x.1 = k ∧ l[k]? = some x.2 := by
  unfold enumL at h
  rw [List.getElem?_map] at h
  obtain ⟨y, h1, h2⟩ := Option.map_eq_some_iff.mp h
  have := enumN_at h1
  subst h2
  exact ⟨by have := this.1; simp at this; exact this, this.2⟩
theorem enumL_len (l : List Int) : (enumL l).length = l.length := by
  unfold enumL
  rw [List.length_map, enumN_len]
theorem sp_num {B : Tb} {n : Nat} {S : Sto} {d : D} {j : J} {l : List Int} (L : Lb B) (hM : B i_misfit = some q_misfit) (hO : B i_look_order = some q_look_order) (hN : B i_number_of = some q_number_of) (h : JK d j) (o : Ord j l) : callN B (n + 8) i_number_of [d, .tup (l.map D.int)] S = .ok (.v (.int (numTo j l l.length))) S := by
  have w := h.r.w
  have wm := w.m1
  have wn := w.n1
  have hl := o.len
  have m1 : ∀ S, callN B (n + 7) 388 [d, .tup (l.map D.int)] S = .ok (.v .non) S := fun S => sp_lookO L hM hO h o
  refine eq_of_ok (ok_call (hN.trans rfl) rfl ?_)
  unfold b_number_of
  simp only [sv_0, sv_1, sv_2, reduceIte, reduceDIte, reduceCtorEq, Nat.reduceAdd, Nat.reduceSub, Nat.reduceMul, Nat.reduceLT, Nat.reduceLeDiff, Nat.reduceEqDiff, Int.reduceAdd, Int.reduceSub, Int.reduceMul, Int.reduceLE, Int.reduceLT, Int.reduceEq, Int.reduceNe, Int.reduceNeg, Int.reduceToNat, m1, enumD_lk]
  refine ok_for0 [2, 3, 4] (enumL l) lkD (fun i vs S' => ∃ (a b : Sl), vs = [.va (.int (numTo j l i)), a, b] ∧ S' = S) [.va (.int 0), .no, .no] rfl ⟨.no, .no, rfl, rfl⟩ ?_ ?_
  · rintro N1 K1 T1 hK hT i x vs S' hx ⟨a, b, rfl, rfl⟩ hN1
    obtain ⟨x1, x2⟩ := enumL_at hx
    have hi : i < l.length := (List.getElem?_eq_some_iff.mp x2).1
    obtain ⟨a1, a2, a3, a4⟩ := o.after w i
    have nx : ∀ S, callN B (n + 7) 396 [d, .tup ((l.take i).map D.int)] S = .ok (.o (.l ((nextF j (l.take i)).map lkD))) S := fun S => sp_next (n := n + 1) L h a1 a2 (by rw [List.length_take]; omega)
    simp only [sv_0, sv_1, sv_2, reduceIte, reduceDIte, reduceCtorEq, Nat.reduceAdd, Nat.reduceSub, Nat.reduceMul, Nat.reduceLT, Nat.reduceLeDiff, Nat.reduceEqDiff, Int.reduceAdd, Int.reduceSub, Int.reduceMul, Int.reduceLE, Int.reduceLT, Int.reduceEq, Int.reduceNe, Int.reduceNeg, Int.reduceToNat, lkD]
    refine ok_comp (nextF j (l.take i)) lkD (fun y => decide (y.1 < x.2)) (fun y => .int y.2) ?_ (by have := nextF_len (j := j) (pre := l.take i); omega) (fun y _ => ?_) ?_
    · simp only [sv_0, sv_1, sv_2, reduceIte, reduceDIte, reduceCtorEq, Nat.reduceAdd, Nat.reduceSub, Nat.reduceMul, Nat.reduceLT, Nat.reduceLeDiff, Nat.reduceEqDiff, Int.reduceAdd, Int.reduceSub, Int.reduceMul, Int.reduceLE, Int.reduceLT, Int.reduceEq, Int.reduceNe, Int.reduceNeg, Int.reduceToNat, x1, take_cut0 l _ (Int.natCast_nonneg i), Int.toNat_natCast, nx]
    · simp only [sv_0, sv_1, sv_2, reduceIte, reduceDIte, reduceCtorEq, Nat.reduceAdd, Nat.reduceSub, Nat.reduceMul, Nat.reduceLT, Nat.reduceLeDiff, Nat.reduceEqDiff, Int.reduceAdd, Int.reduceSub, Int.reduceMul, Int.reduceLE, Int.reduceLT, Int.reduceEq, Int.reduceNe, Int.reduceNeg, Int.reduceToNat, lkD]
    · have e : (List.filter (fun y => decide (y.1 < x.2)) (nextF j (l.take i))).map (fun y => D.int y.2) = (((nextF j (l.take i)).filter fun y => decide (y.1 < x.2)).map (·.2)).map D.int := by simp
      simp only [sv_0, sv_1, sv_2, reduceIte, reduceDIte, reduceCtorEq, Nat.reduceAdd, Nat.reduceSub, Nat.reduceMul, Nat.reduceLT, Nat.reduceLeDiff, Nat.reduceEqDiff, Int.reduceAdd, Int.reduceSub, Int.reduceMul, Int.reduceLE, Int.reduceLT, Int.reduceEq, Int.reduceNe, Int.reduceNeg, Int.reduceToNat, e, bSum_ints]
      have e2 : numTo j l i + (((nextF j (l.take i)).filter fun y => decide (y.1 < x.2)).map (·.2)).sum = numTo j l (i + 1) := by
        show _ = numTo j l i + belowF j (l.take i) (l.getD i 0)
        rw [List.getD_eq_getElem?_getD, x2]
        rfl
      rw [e2]
      exact hN1 [_, _, _] _ ⟨_, _, rfl, rfl⟩
  · rintro vs S' ⟨a, b, rfl, rfl⟩
    simp only [sv_0, sv_1, sv_2, reduceIte, reduceDIte, reduceCtorEq, Nat.reduceAdd, Nat.reduceSub, Nat.reduceMul, Nat.reduceLT, Nat.reduceLeDiff, Nat.reduceEqDiff, Int.reduceAdd, Int.reduceSub, Int.reduceMul, Int.reduceLE, Int.reduceLT, Int.reduceEq, Int.reduceNe, Int.reduceNeg, Int.reduceToNat, enumL_len]
/-! ### first_order -/
theorem sp_lookP {B : Tb} {n : Nat} {S : Sto} {d : D} {j : J} (L : Lb B) (hI : B i_is_possible = some q_is_possible) (hP : B i_look_possible = some q_look_possible) (h : JK d j) (hc : 0 < countF j) : callN B (n + 6) i_look_possible [d] S = .ok (.v .non) S := by
  have p1 : ∀ S, callN B (n + 5) 315 [d] S = .ok (.v (.bl (decide (0 < countF j)))) S := fun S => sp_possible L.noted L.span L.sound L.count hI h.r
  refine eq_of_ok (ok_call (hP.trans rfl) rfl ?_)
  unfold b_look_possible
  simp only [sv_0, sv_1, sv_2, reduceIte, reduceDIte, reduceCtorEq, Nat.reduceAdd, Nat.reduceSub, Nat.reduceMul, Nat.reduceLT, Nat.reduceLeDiff, Nat.reduceEqDiff, Int.reduceAdd, Int.reduceSub, Int.reduceMul, Int.reduceLE, Int.reduceLT, Int.reduceEq, Int.reduceNe, Int.reduceNeg, Int.reduceToNat, p1, hc, decide_true, if_false]
theorem sp_first {B : Tb} {n : Nat} {S : Sto} {d : D} {j : J} {l : List Int} (L : Lb B) (hA : B i_order_at = some q_order_at) (hI : B i_is_possible = some q_is_possible) (hP : B i_look_possible = some q_look_possible) (hF : B i_first_order = some q_first_order) (h : JK d j) (hk : (blk j [])[0]? = some l) : callN B (n + 8) i_first_order [d] S = .ok (.v (.tup (l.map D.int))) S := by
  have hc : 0 < countF j := by
    have := (List.getElem?_eq_some_iff.mp hk).1
    rw [count_eq h.r.w]
    omega
  have a1 : ∀ S, callN B (n + 7) 403 [d, .int 0] S = .ok (.v (.tup (l.map D.int))) S := fun S => sp_at L hA h (Int.le_refl _) hk
  have p1 : ∀ S, callN B (n + 7) 390 [d] S = .ok (.v .non) S := fun S => sp_lookP (n := n + 1) L hI hP h hc
  refine eq_of_ok (ok_call (hF.trans rfl) rfl ?_)
  unfold b_first_order
  simp only [sv_0, sv_1, sv_2, reduceIte, reduceDIte, reduceCtorEq, Nat.reduceAdd, Nat.reduceSub, Nat.reduceMul, Nat.reduceLT, Nat.reduceLeDiff, Nat.reduceEqDiff, Int.reduceAdd, Int.reduceSub, Int.reduceMul, Int.reduceLE, Int.reduceLT, Int.reduceEq, Int.reduceNe, Int.reduceNeg, Int.reduceToNat, p1, a1]
end MP

namespace MP
open PySem PySem.Spec
/-- _law_take, of larger numbers -/
theorem sp_takeB {B : Tb} {b : Nat} (hB : B i__law_take = some q__law_take) : ∀ (d n k : Nat) (S : Sto) (m : Int), Bx S b (k + d + 1) → 0 < m → m ≤ 9000000 ^ (d + 1) → d ≤ 20 →
    ∃ (r : Int) (S' : Sto), callN B (n + d + 1) i__law_take [.loc b, .int m] S = .ok (.v (.int r)) S' ∧ 0 ≤ r ∧ r < m ∧ Bx S' b k
  := by
  intro d
  induction d with
  | zero =>
    intro n k S m hb h0 h1 _
    have e : (9000000 : Int) ^ (0 + 1) = 9000000 := by decide
    exact sp_take hB hb h0 (by omega)
  | succ d ih =>
    intro n k S m hb h0 h1 hd
    by_cases cm : m ≤ 10000000
    · exact sp_take (n := n + (d + 1)) hB (hb.mono (by omega)) h0 cm
    have hmb : m.natAbs < big := by
      have h2 : (9000000 : Int) ^ (d + 1 + 1) = ((9000000 ^ (d + 1 + 1) : Nat) : Int) := by simp
      have h3 : 9000000 ^ (d + 1 + 1) ≤ 9000000 ^ 22 := Nat.pow_le_pow_right (by decide) (by omega)
      have h4 : 9000000 ^ 22 < big := by unfold big; decide +kernel
      rw [h2] at h1
      omega
    obtain ⟨x, y, z, g1, g2, g3, g4⟩ := hb.ex
    have hbl : b < S.length := (List.getElem?_eq_some_iff.mp g1).1
    by_cases c : 0 < x
    · refine ⟨x % m, S.set b (.l [.int (x / m), .int y, .int z]), ?_, Int.emod_nonneg _ (by omega), Int.emod_lt_of_pos _ h0, ⟨x / m, y, z, ?_, Int.ediv_nonneg g2 (by omega), g3, by omega⟩⟩
      · rw [show n + (d + 1) + 1 = (n + d + 1) + 1 by omega, callN_eq hB]
        simp [q__law_take, b__law_take, callF, startE, finO, dSeqS, dSet, slOf, dRet, dRetN, dIfS, dSkip, dVar, dBVar, dMv, dC, fz, rv, dOp, dUn, dNil, dCons, dTup, dLst, dB, dAndT, dOrT, dNotT, dAnd, dOr, dNot, dIf, dIfR, dCall, dBlt, dOp2, dSeq, itemsOf, dFrz, frzE, dPar, rCons, rNil, setSls, dAug, dUnp, bindTg, bindTgs, wipeE, dYes, dChain, Res.bind, Res.map, R.val, O.toD, fIx_tup, fIx_lst, fIx_loc, fIx_scr, ixD, fGt_i, fLt_i, fLe_i, fGe_i, fSub_i, fIAdd_i, fMod, fDiv, fAdd, fPow, fEq, fNe, fIsN, fNotN, isNon, bLen, bList, bTuple, bAbs, bInt, bMax2, bMin2, dPutL, listSlot, isL, mutL, fPut, dIxL, dMut1, fApp, List.getElem?_cons_zero, List.getElem?_cons_succ, List.set_cons_zero, List.set_cons_succ, List.map_cons, List.map_nil, List.cons_append, List.nil_append, List.length_cons, List.length_nil, List.replicate, if_true, if_false, ite_true, ite_false, Bool.false_eq_true, reduceIte, decide_true, decide_false, Option.map_some, Option.bind_some, g1, c, h0, hmb]
      · rw [List.getElem?_set_self hbl]
    · have c0 : x = 0 := by omega
      subst c0
      obtain ⟨r1, S1, a1, a2, a3, a4⟩ := sp_take (n := n + d) (m := 10000000) (k := k + d + 1) hB (hb.mono (by omega)) (by decide) (by decide)
      have p9 : (9000000 : Int) ^ (d + 1 + 1) = 9000000 ^ (d + 1) * 9000000 := Int.pow_succ ..
      have pn : (0 : Int) < 9000000 ^ d := Int.pow_pos (by decide)
      have p8 : (9000000 : Int) ^ (d + 1) = 9000000 ^ d * 9000000 := Int.pow_succ ..
      obtain ⟨r2, S2, b1, b2, b3, b4⟩ := ih n k S1 (m / 10000000 + 1) (a4.mono (by omega)) (by omega) (by omega) (by omega)
      have a1 : callN B (n + d + 1) 238 [.loc b, .int 10000000] S = .ok (.v (.int r1)) S1 := a1
      have b1 : callN B (n + d + 1) 238 [.loc b, .int (m / 10000000 + 1)] S1 = .ok (.v (.int r2)) S2 := b1
      refine ⟨(r1 + 10000000 * r2) % m, S2, ?_, Int.emod_nonneg _ (by omega), Int.emod_lt_of_pos _ h0, b4⟩
      rw [show n + (d + 1) + 1 = (n + d + 1) + 1 by omega, callN_eq hB]
      have m1 : mulOk 10000000 r2 = true := mulOk_small1 (by decide)
      have bb : (10000000 : Nat) < big := Nat.lt_trans (by decide) big_gt
      have cm' : 10000000 < m := by omega
      simp [q__law_take, b__law_take, callF, startE, finO, dSeqS, dSet, slOf, dRet, dRetN, dIfS, dSkip, dVar, dBVar, dMv, dC, fz, rv, dOp, dUn, dNil, dCons, dTup, dLst, dB, dAndT, dOrT, dNotT, dAnd, dOr, dNot, dIf, dIfR, dCall, dBlt, dOp2, dSeq, itemsOf, dFrz, frzE, dPar, rCons, rNil, setSls, dAug, dUnp, bindTg, bindTgs, wipeE, dYes, dChain, Res.bind, Res.map, R.val, O.toD, fIx_tup, fIx_lst, fIx_loc, fIx_scr, ixD, fGt_i, fLt_i, fLe_i, fGe_i, fSub_i, fIAdd_i, fMod, fDiv, fAdd, fPow, fEq, fNe, fIsN, fNotN, isNon, bLen, bList, bTuple, bAbs, bInt, bMax2, bMin2, dPutL, listSlot, isL, mutL, fPut, dIxL, dMut1, fApp, List.getElem?_cons_zero, List.getElem?_cons_succ, List.set_cons_zero, List.set_cons_succ, List.map_cons, List.map_nil, List.cons_append, List.nil_append, List.length_cons, List.length_nil, List.replicate, if_true, if_false, ite_true, ite_false, Bool.false_eq_true, reduceIte, decide_true, decide_false, Option.map_some, Option.bind_some, g1, a1, b1, m1, bb, cm', h0, fMul]
/-! ### evaluation, more -/
section
variable (env : Envm) (S : Sto)
theorem ev_isB (a b : Bool) : fIsN (.bl a) (.bl b) S = .ok (.v (.bl (decide (a = b)))) S := rfl
theorem ev_notB (a b : Bool) : fNotN (.bl a) (.bl b) S = .ok (.v (.bl (!decide (a = b)))) S := rfl
def lenSetR : D → Sto → Res R := fun d S1 => match seqInts d with
  | some ns => if ns.length ≤ 1000 then .ok (.v (.int (usort ns).length)) S1 else .bad
  | none => .bad
theorem ev_dLenSet (de : DE) : dLenSet de env S = (de env S).bind lenSetR := rfl
theorem lenSet_tup {l : List Int} (h : l.length ≤ 1000) : lenSetR (.tup (l.map D.int)) S = .ok (.v (.int (usort l).length)) S := by
  show (match intsOf (l.map D.int) with
    | some ns => if ns.length ≤ 1000 then Res.ok (R.v (.int (usort ns).length)) S else .bad
    | none => .bad) = _
  rw [intsOf_map]
  show (if _ then _ else _) = _
  rw [if_pos h]
end
end MP

namespace MP
open PySem PySem.Spec
/-! ### tuples of numbers compared -/
theorem blt_ii (i j : Int) : PyProof.Rows.itemOrd.blt (.inl i) (.inl j) = decide (i < j) := rfl
theorem lexR_cons (x y : Int ⊕ List Nat) (r t : List (Int ⊕ List Nat)) : PyProof.Rows.lexLt PyProof.Rows.itemOrd (x :: r) (y :: t) = (PyProof.Rows.itemOrd.blt x y || (!PyProof.Rows.itemOrd.blt y x && PyProof.Rows.lexLt PyProof.Rows.itemOrd r t)) := PyProof.Rows.lex_cons (O := PyProof.Rows.itemOrd) x y r t
theorem lt_toks : ∀ a b : List Int, PyProof.Rows.lexLt PyProof.Rows.itemOrd (PySem.W.keyToksAll (toPys (a.map D.int))) (PySem.W.keyToksAll (toPys (b.map D.int))) = lexLt a b
  | [], [] => rfl
  | [], y :: b => by
    show PyProof.Rows.lexLt PyProof.Rows.itemOrd [.inl 0] (.inl 1 :: _) = _
    rw [lexR_cons, blt_ii]
    rfl
  | x :: a, [] => by
    show PyProof.Rows.lexLt PyProof.Rows.itemOrd (.inl 1 :: _) [.inl 0] = _
    rw [lexR_cons, blt_ii, blt_ii]
    rfl
  | x :: a, y :: b => by
    show PyProof.Rows.lexLt PyProof.Rows.itemOrd (.inl 1 :: (.inl x :: PySem.W.keyToksAll (toPys (a.map D.int)))) (.inl 1 :: (.inl y :: PySem.W.keyToksAll (toPys (b.map D.int)))) = _
    rw [lexR_cons, blt_ii, lexR_cons, blt_ii, blt_ii, lt_toks a b]
    show (decide ((1 : Int) < 1) || (!decide ((1 : Int) < 1) && (decide (x < y) || (!decide (y < x) && lexLt a b)))) = if x = y then lexLt a b else decide (x < y)
    by_cases h2 : x = y
    · subst h2
      simp
    · by_cases h1 : x < y
      · simp [h1, h2]
      · have : y < x := by omega
        simp [h1, h2, this]
theorem ltD_ints (a b : List Int) : ltD (.tup (a.map D.int)) (.tup (b.map D.int)) = lexLt a b := lt_toks a b
theorem alike_ints : ∀ a b : List Int, PySem.W.alikeAll (toPys (a.map D.int)) (toPys (b.map D.int)) = true
  | [], _ => rfl
  | _ :: _, [] => rfl
  | x :: a, y :: b => by
    show (PySem.W.alike (.int x) (.int y) && PySem.W.alikeAll (toPys (a.map D.int)) (toPys (b.map D.int))) = true
    rw [alike_ints a b]
    rfl
theorem cmpOk_ints (a b : List Int) : cmpOk (.tup (a.map D.int)) (.tup (b.map D.int)) = true := by
  unfold cmpOk
  have h1 : fitN 20 (.tup (a.map D.int)) = true := fit_ints 19 a
  have h2 : fitN 20 (.tup (b.map D.int)) = true := fit_ints 19 b
  have h3 : PySem.W.alike (toPy (.tup (a.map D.int))) (toPy (.tup (b.map D.int))) = true := alike_ints a b
  rw [h1, h2, h3]
  rfl
section
variable (a b : List Int) (S : Sto)
theorem ev_ltT : fLt (.tup (a.map D.int)) (.tup (b.map D.int)) S = .ok (.v (.bl (lexLt a b))) S := by
  show (if _ then _ else _) = _
  rw [if_pos (cmpOk_ints a b), ltD_ints]
theorem ev_leT : fLe (.tup (a.map D.int)) (.tup (b.map D.int)) S = .ok (.v (.bl (!lexLt b a))) S := by
  show (if _ then _ else _) = _
  rw [if_pos (cmpOk_ints a b), ltD_ints]
theorem ev_gtT : fGt (.tup (a.map D.int)) (.tup (b.map D.int)) S = .ok (.v (.bl (lexLt b a))) S := by
  show (if _ then _ else _) = _
  rw [if_pos (cmpOk_ints a b), ltD_ints]
theorem ev_geT : fGe (.tup (a.map D.int)) (.tup (b.map D.int)) S = .ok (.v (.bl (!lexLt a b))) S := by
  show (if _ then _ else _) = _
  rw [if_pos (cmpOk_ints a b), ltD_ints]
theorem fit_row : fitN 20 (.tup (a.map D.int)) = true := fit_ints 19 a
theorem deq_row : deq (.tup (a.map D.int)) (.tup (b.map D.int)) = decide (a = b) := deqs_ints a b
theorem ev_eqT : fEq (.tup (a.map D.int)) (.tup (b.map D.int)) S = .ok (.v (.bl (decide (a = b)))) S := by
  rw [ev_eq S (fit_row a) (fit_row b), deq_row]
theorem ev_neT : fNe (.tup (a.map D.int)) (.tup (b.map D.int)) S = .ok (.v (.bl (!decide (a = b)))) S := by
  rw [ev_ne S (fit_row a) (fit_row b), deq_row]
end
theorem lexLt_asym : ∀ {a b : List Int}, lexLt a b = true → lexLt b a = false
  | [], [], h => by cases h
  | [], _ :: _, _ => rfl
  | _ :: _, [], h => by cases h
  | x :: a, y :: b, h => by
    have h : (if x = y then lexLt a b else decide (x < y)) = true := h
    show (if y = x then lexLt b a else decide (y < x)) = false
    by_cases c : x = y
    · subst c
      rw [if_pos rfl] at h ⊢
      exact lexLt_asym h
    · rw [if_neg c] at h
      have h := of_decide_eq_true h
      rw [if_neg (by omega)]
      exact decide_eq_false (by omega)
theorem blk_le {j : J} {i k : Nat} {a b : List Int} (h1 : (blk j [])[i]? = some a) (h2 : (blk j [])[k]? = some b) (h : i ≤ k) : lexLt b a = false := by
  by_cases e : i = k
  · subst e
    rw [h1] at h2
    cases h2
    exact lexLt_irr a
  · obtain ⟨l1, g1⟩ := List.getElem?_eq_some_iff.mp h1
    obtain ⟨l2, g2⟩ := List.getElem?_eq_some_iff.mp h2
    have := List.pairwise_iff_getElem.mp (blk_lt j []) i k l1 l2 (by omega)
    rw [g1, g2] at this
    exact lexLt_asym this
theorem blk_inj {j : J} {i k : Nat} {a : List Int} (h1 : (blk j [])[i]? = some a) (h2 : (blk j [])[k]? = some a) : i = k := by
  obtain ⟨l1, g1⟩ := List.getElem?_eq_some_iff.mp h1
  obtain ⟨l2, g2⟩ := List.getElem?_eq_some_iff.mp h2
  exact (List.getElem_inj (blk_nodup j [])).mp (g1.trans g2.symm)
theorem blk_ord {j : J} (w : JW j) {i : Nat} {a : List Int} (h : (blk j [])[i]? = some a) : Ord j a := (mem_blk0 w).mp (List.mem_of_getElem? h)
/-- the number of an order is its place -/
theorem num_place {j : J} (w : JW j) {i : Nat} {a : List Int} (h : (blk j [])[i]? = some a) : numTo j a a.length = i := by
  obtain ⟨h1, h2⟩ := num_full w (blk_ord w h)
  have := blk_inj h2 h
  omega
theorem blk_some {j : J} (w : JW j) {k : Int} (h0 : 0 ≤ k) (h1 : k < countF j) : ∃ l, (blk j [])[k.toNat]? = some l := by
  rw [count_eq w] at h1
  exact ⟨_, List.getElem?_eq_getElem (by omega)⟩
theorem drop_cut (l : List Int) (t : Int) (h : 0 ≤ t) : cutD (l.map D.int) (some t) none = (l.drop t.toNat).map D.int := by
  have e : HT.sIx (l.map D.int).length 0 (some t) = min t.toNat (l.map D.int).length := by
    show (if t < 0 then _ else min t.toNat (l.map D.int).length) = _
    rw [if_neg (by omega)]
  have e2 : HT.sIx (l.map D.int).length (l.map D.int).length none = (l.map D.int).length := rfl
  unfold cutD
  rw [e, e2, List.take_of_length_le (by rw [List.length_drop]; omega), List.map_drop]
  by_cases c : t.toNat ≤ (l.map D.int).length
  · rw [Nat.min_eq_left c]
  · rw [Nat.min_eq_right (by omega), List.drop_of_length_le (Nat.le_refl _), List.drop_of_length_le (by omega)]
/-! ### all ends noted -/
def endN : Nat → List Int → List Note
  | _, [] => []
  | i, e :: l => ⟨i, false, e⟩ :: endN (i + 1) l
theorem mem_endN : ∀ {l : List Int} {i : Nat} {x : Note}, x ∈ endN i l ↔ x.k = false ∧ (i : Int) ≤ x.t ∧ l[(x.t - i).toNat]? = some x.v
  | [], i, x => by simp [endN]
  | e :: l, i, x => by
    unfold endN
    rw [List.mem_cons, mem_endN]
    constructor
    · rintro (rfl | ⟨h1, h2, h3⟩)
      · simp
      · refine ⟨h1, by omega, ?_⟩
        rw [show (x.t - i).toNat = (x.t - (i + 1 : Nat)).toNat + 1 by omega]
        simpa using h3
    · rintro ⟨h1, h2, h3⟩
      by_cases c : x.t = i
      · left
        rw [c] at h3
        simp at h3
        cases x
        simp_all
      · right
        refine ⟨h1, by omega, ?_⟩
        rw [show (x.t - i).toNat = (x.t - (i + 1 : Nat)).toNat + 1 by omega] at h3
        simpa using h3
theorem endN_so : ∀ (l : List Int) (i : Nat), (endN i l).Pairwise fun x y => x.t < y.t
  | [], _ => .nil
  | e :: l, i => by
    refine List.pairwise_cons.mpr ⟨fun y hy => ?_, endN_so l (i + 1)⟩
    have := (mem_endN.mp hy).2.1
    show (i : Int) < y.t
    omega
theorem endN_len : ∀ (l : List Int) (i : Nat), (endN i l).length = l.length
  | [], _ => rfl
  | e :: l, i => by simp [endN, endN_len l]
def jE (c : Nat) (E : List Int) : J := ⟨c, E.length, endN 0 E⟩
theorem enumD_end : ∀ (l : List Int) (i : Nat), enumD i (l.map D.int) = (endN i l).map fun x => D.tup [.int x.t, .int x.v]
  | [], _ => rfl
  | e :: l, i => by
    rw [List.map_cons]
    show D.tup [.int i, .int e] :: enumD (i + 1) (l.map D.int) = _
    rw [enumD_end l (i + 1)]
    rfl
section
variable {c : Nat} {E : List Int}
theorem jE_w (hc : c ≤ 60) (hl : E.length ≤ c) (hr : ∀ e ∈ E, 0 ≤ e ∧ e < c) : JW (jE c E) := by
  refine ⟨by show (0 : Int) ≤ c; omega, by show (c : Int) ≤ 60; omega, by show (0 : Int) ≤ E.length; omega, by show (E.length : Int) ≤ 60; omega, fun x hx => ?_, (endN_so E 0).imp fun {x y} h e => by omega⟩
  obtain ⟨h1, h2, h3⟩ := mem_endN.mp hx
  have := (List.getElem?_eq_some_iff.mp h3).1
  have := hr _ (List.mem_of_getElem? h3)
  exact ⟨by omega, by show x.t < (E.length : Int); omega, this.1, this.2⟩
theorem jE_closed : notedL (jE c E) true = [] := by
  refine List.eq_nil_iff_forall_not_mem.mpr fun y hy => ?_
  obtain ⟨x, hx, hk, _⟩ := mem_noted.mp hy
  have := (mem_endN.mp hx).1
  rw [hk] at this
  cases this
theorem jE_end {t p : Int} : (t, p) ∈ notedL (jE c E) false ↔ 0 ≤ t ∧ E[t.toNat]? = some p := by
  rw [mem_noted]
  constructor
  · rintro ⟨x, hx, _, e⟩
    cases e
    have := mem_endN.mp hx
    simpa using this.2
  · rintro ⟨h1, h2⟩
    exact ⟨⟨t, false, p⟩, mem_endN.mpr ⟨rfl, by simpa using h1, by simpa using h2⟩, rfl, rfl⟩
/-- the open towns less those still to come -/
def facE (c : Nat) (E : List Int) (t : Nat) : Int := (c : Int) - t - ((usort (E.drop t)).length : Int)
def dueTo (c : Nat) (E : List Int) : Nat → Int
  | 0 => 1
  | i + 1 => dueTo c E i * facE c E i
theorem fac_le (t : Nat) : facE c E t ≤ c := by unfold facE; omega
theorem fac_pos (hl : E.length < c) {t : Nat} (ht : t < E.length) : 1 ≤ facE c E t := by
  unfold facE
  have := usort_le (E.drop t)
  rw [List.length_drop] at this
  omega
theorem due_pos (hl : E.length < c) : ∀ i : Nat, i ≤ E.length → 1 ≤ dueTo c E i ∧ dueTo c E i ≤ (c : Int) ^ i
  | 0, _ => by unfold dueTo; simp
  | i + 1, h => by
    have ih := due_pos hl i (by omega)
    have f1 := fac_pos hl (t := i) (by omega)
    have f2 := fac_le (c := c) (E := E) i
    unfold dueTo
    constructor
    · have := Int.mul_le_mul ih.1 f1 (by omega) (by omega)
      omega
    · rw [Int.pow_succ]
      exact Int.mul_le_mul ih.2 f2 (by omega) (by omega)
theorem jE_cnt (hr : ∀ e ∈ E, 0 ≤ e ∧ e < c) (t : Nat) : cntLe (startsF (jE c E)) t = (c : Int) - ((usort (E.drop t)).length : Int) := by
  have tw : townsF (jE c E) = [] := by unfold townsF; rw [jE_closed]; rfl
  have h1 : startsF (jE c E) = (rng c).map fun p => (spanF (jE c E) p).1 := by
    unfold startsF
    rw [tw]
    show ((rng (c : Int).toNat).filter fun p => !decide (p ∈ [])).map _ = _
    rw [Int.toNat_natCast, List.filter_eq_self.mpr (by simp)]
  unfold cntLe
  rw [h1, len_map_filter]
  have h2 : ((rng c).filter fun p => decide ((spanF (jE c E) p).1 ≤ t)) = (rng c).filter fun p => !decide (p ∈ usort (E.drop t)) := by
    refine filter_congr' fun p hp => bool_iff ?_
    rw [decide_eq_true_eq, Bool.not_eq_true', decide_eq_false_iff_not, mem_usort]
    constructor
    · intro h hm
      obtain ⟨i, hi⟩ := List.mem_iff_getElem?.mp hm
      rw [List.getElem?_drop] at hi
      have := le_start.2 (jE_end (c := c).mpr ⟨show (0 : Int) ≤ ((t + i : Nat) : Int) by omega, by rw [Int.toNat_natCast]; exact hi⟩)
      omega
    · intro h
      refine start_le (by omega) (fun s hs => ?_) fun s hs => ?_
      · rw [jE_closed] at hs; cases hs
      · obtain ⟨h3, h4⟩ := jE_end.mp hs
        by_cases z : s < t
        · exact z
        · exfalso
          refine h (List.mem_iff_getElem?.mpr ⟨s.toNat - t, ?_⟩)
          rw [List.getElem?_drop, show t + (s.toNat - t) = s.toNat by omega]
          exact h4
  rw [h2]
  have nd : (usort (E.drop t)).Nodup := (usort_lt _).imp fun h => by omega
  have := filter_not_len nd (n := c) fun p hp => hr p ((List.drop_sublist _ _).subset (mem_usort.mp hp))
  omega
theorem jE_count (hl : E.length < c) (hr : ∀ e ∈ E, 0 ≤ e ∧ e < c) : countF (jE c E) = dueTo c E E.length := by
  have tk : timesF (jE c E) true = [] := by unfold timesF; rw [jE_closed]; rfl
  have s : soundF (jE c E) = true := by unfold soundF; rw [jE_closed]; rfl
  have key : ∀ i : Nat, i ≤ E.length → (rng i).foldl (cntStep [] (startsF (jE c E))) (1, 0) = (dueTo c E i, (i : Int)) := by
    intro i
    induction i with
    | zero => intro _; rfl
    | succ i ih =>
      intro h
      rw [rng_succ, List.foldl_append, ih (by omega)]
      have f1 := fac_pos hl (t := i) (by omega)
      have cn := jE_cnt hr i
      have e : pos0 (cntLe (startsF (jE c E)) i - i) = facE c E i := by
        rw [cn]
        unfold facE at f1 ⊢
        rw [pos0_pos (by omega)]
        omega
      show cntStep [] (startsF (jE c E)) (dueTo c E i, (i : Int)) (i : Int) = _
      unfold cntStep
      rw [if_neg (by simp)]
      show (dueTo c E i * pos0 (cntLe (startsF (jE c E)) i - i), (i : Int) + 1) = (dueTo c E (i + 1), ((i + 1 : Nat) : Int))
      rw [e]
      simp [dueTo]
  unfold countF
  rw [if_pos s, tk]
  show ((rng ((E.length : Nat) : Int).toNat).foldl (cntStep [] (startsF (jE c E))) (1, 0)).1 = _
  rw [Int.toNat_natCast, key E.length (Nat.le_refl _)]
theorem jE_lost : lostF (jE c E) = 1 := by
  unfold lostF
  have : ∀ (l : List Int), (∀ t ∈ l, t ∈ timesF (jE c E) false) → ∀ a : Int, l.foldl (fun a t => if t ∈ timesF (jE c E) false then a else a * ((jE c E).n - 1 - t)) a = a := by
    intro l
    induction l with
    | nil => exact fun _ a => rfl
    | cons x l ih =>
      intro h a
      rw [List.foldl_cons, if_pos (h x List.mem_cons_self)]
      exact ih (fun t ht => h t (List.mem_cons_of_mem _ ht)) a
  refine this _ (fun t ht => ?_) 1
  have ht : 0 ≤ t ∧ t < (E.length : Int) := by
    have := mem_rng.mp ht
    have e : ((jE c E).m.toNat : Int) = E.length := by show ((((E.length : Nat) : Int).toNat : Nat) : Int) = _; rw [Int.toNat_natCast]
    omega
  exact mem_times.mpr ⟨E[t.toNat]'(by omega), jE_end.mpr ⟨ht.1, List.getElem?_eq_getElem (by omega)⟩⟩
theorem jE_ord {s : Nat} {Q : List Int} {N : List Note} (T : Tale c s Q E N) : Ord (jE c E) Q := by
  have := T.ql
  have := T.el
  refine ⟨by show (Q.length : Int) = (E.length : Int); omega, T.qr, T.nd, fun x hx => ?_, fun x hx => ?_⟩
  · rw [jE_closed] at hx; cases hx
  · obtain ⟨h1, h2⟩ := jE_end.mp hx
    exact T.op _ _ h2
end
def sv_3 := And.intro @ev_isB (And.intro @ev_notB (@ev_dLenSet))
/-- journal_of -/
theorem sp_journal {B : Tb} {n c : Nat} {S : Sto} {Q E : List Int} (hJ : B i_journal_of = some q_journal_of) (he : Q.length = E.length) (hl : E.length ≤ 1000) : callN B (n + 1) i_journal_of [.int c, .tup (Q.map D.int), .tup (E.map D.int)] S = .ok (.v (jD (jE c E))) S := by
  have dj : jD (jE c E) = .tup [.int c, .int E.length, .tup ((endN 0 E).map noteD)] := rfl
  refine eq_of_ok (ok_call (hJ.trans rfl) rfl ?_)
  unfold b_journal_of
  simp only [sv_0, sv_1, sv_2, sv_3, reduceIte, reduceDIte, reduceCtorEq, Nat.reduceAdd, Nat.reduceSub, Nat.reduceMul, Nat.reduceLT, Nat.reduceLeDiff, Nat.reduceEqDiff, Int.reduceAdd, Int.reduceSub, Int.reduceMul, Int.reduceLE, Int.reduceLT, Int.reduceEq, Int.reduceNe, Int.reduceNeg, Int.reduceToNat, he]
  refine ok_compA (endN 0 E) (fun x => D.tup [.int x.t, .int x.v]) noteD ?_ (by rw [endN_len]; omega) (fun x hx => ?_) ?_
  · simp only [sv_0, sv_1, sv_2, sv_3, reduceIte, reduceDIte, reduceCtorEq, Nat.reduceAdd, Nat.reduceSub, Nat.reduceMul, Nat.reduceLT, Nat.reduceLeDiff, Nat.reduceEqDiff, Int.reduceAdd, Int.reduceSub, Int.reduceMul, Int.reduceLE, Int.reduceLT, Int.reduceEq, Int.reduceNe, Int.reduceNeg, Int.reduceToNat, enumD_end]
  · have hk := (mem_endN.mp hx).1
    simp only [sv_0, sv_1, sv_2, sv_3, reduceIte, reduceDIte, reduceCtorEq, Nat.reduceAdd, Nat.reduceSub, Nat.reduceMul, Nat.reduceLT, Nat.reduceLeDiff, Nat.reduceEqDiff, Int.reduceAdd, Int.reduceSub, Int.reduceMul, Int.reduceLE, Int.reduceLT, Int.reduceEq, Int.reduceNe, Int.reduceNeg, Int.reduceToNat, noteD, kd, hk, if_false, Bool.false_eq_true]
  simp only [sv_0, sv_1, sv_2, sv_3, reduceIte, reduceDIte, reduceCtorEq, Nat.reduceAdd, Nat.reduceSub, Nat.reduceMul, Nat.reduceLT, Nat.reduceLeDiff, Nat.reduceEqDiff, Int.reduceAdd, Int.reduceSub, Int.reduceMul, Int.reduceLE, Int.reduceLT, Int.reduceEq, Int.reduceNe, Int.reduceNeg, Int.reduceToNat, ← dj]
end MP

namespace MP
open PySem PySem.Spec
/-! ### the two shapes of a law -/
def shR (i : Nat) (N : PN) (env : Envm) : R → Sto → Prop := fun r S1 => match r with
  | .o x => N (env.set i (.va (.loc S1.length))) (S1 ++ [x])
  | .v (.loc n) => N (env.set i (.va (.loc n))) S1
  | _ => False
theorem ok_dSh (env : Envm) (S : Sto) (i : Nat) (N : PN) (T : PT) (K C : PN) (dr : DR) : okO (dSh i dr env S) N T K C = okE (dr env S) (shR i N env) := by
  unfold dSh
  cases dr env S with
  | ok r S1 =>
    rw [okE_ok]
    cases r with
    | o x => rfl
    | v d => cases d <;> rfl
  | xn c x S1 => exact propext ⟨fun h => False.elim h, fun ⟨_, _, h, _⟩ => (nomatch h)⟩
  | bad => rw [okE_bad]; rfl
theorem shR_o (i : Nat) (N : PN) (env : Envm) (x : O) (S1 : Sto) : shR i N env (.o x) S1 = N (env.set i (.va (.loc S1.length))) (S1 ++ [x]) := rfl
def shE1 : R → Sto → Res D := fun r S1 => match r with
  | .o x => .ok (.loc S1.length) (S1 ++ [x])
  | .v d => .ok d S1
theorem ev_shE (env : Envm) (S : Sto) (dr : DR) : shE dr env S = (dr env S).bind shE1 := by
  unfold shE
  cases dr env S with
  | ok r S1 => cases r <;> rfl
  | xn c x S1 => rfl
  | bad => rfl
theorem shE1_o (x : O) (S1 : Sto) : shE1 (.o x) S1 = .ok (.loc S1.length) (S1 ++ [x]) := rfl
theorem bAll_true {ys : List D} (h : ∀ y ∈ ys, y = .bl true) (S : Sto) : bAll [.lst ys] S = .ok (.v (.bl true)) S := by
  have e : ys = ys.map fun _ => D.bl true := by
    clear S
    induction ys with
    | nil => rfl
    | cons y ys ih =>
      rw [List.map_cons, ← ih fun z hz => h z (List.mem_cons_of_mem _ hz), h y List.mem_cons_self]
  rw [e, bAll_map ys (fun _ => true)]
  simp
def sv_4 := And.intro @ok_dSh (And.intro @shR_o (And.intro @ev_shE (@shE1_o)))
theorem lawA {B : Tb} {ns : List Int} {rid lid T u : Nat} {t : Int} {x : Str} (ht : t = T) (hT : T ≤ 100) (hC : B i__law_cell_at = some q__law_cell_at) (hX : B i__law_box = some q__law_box)
    (hL : B lid = some ⟨x, 1, 4, fun C => (dSeqS (dFor (dRange1 (dC (.int 2))) (.nm 1) (dSeqS (dSh 2 (dCall C 24 (dCons (dVar 0) (dCons (dVar 1) dNil)))) (dIfS (dNotT (dB (fz (dBlt bAll (dCons (fz (dComp (dRange1 (dC (.int t))) [3] (.nm 3) dYes (fz (dCall C rid (dCons (dVar 2) dNil))))) dNil))))) (dRet (rv (dC (.bl false)))) dSkip))) (dRet (rv (dC (.bl true)))))⟩)
    (hu : u ≤ 10000000000) (hR : ∀ S b k, Bx S b (k + u) → ∃ S', callN B 59 rid [.loc b] S = .ok (.v (.bl true)) S' ∧ Bx S' b k) : ∃ S', callN B 60 lid [.scr ns] [] = .ok (.v (.bl true)) S' := by
  suffices h : okE (callN B 60 lid [.scr ns] []) fun x _ => x = .v (.bl true) by
    obtain ⟨x, S1, g1, rfl⟩ := h
    exact ⟨_, g1⟩
  refine ok_call hL rfl ?_
  simp only [sv_0, sv_1, sv_2, sv_3, sv_4, reduceIte, reduceDIte, reduceCtorEq, Nat.reduceAdd, Nat.reduceSub, Nat.reduceMul, Nat.reduceLT, Nat.reduceLeDiff, Nat.reduceEqDiff, Int.reduceAdd, Int.reduceSub, Int.reduceMul, Int.reduceLE, Int.reduceLT, Int.reduceEq, Int.reduceNe, Int.reduceNeg, Int.reduceToNat]
  rw [rg1_i [] (by decide)]
  simp only [sv_0, sv_1, sv_2, sv_3, sv_4, reduceIte, reduceDIte, reduceCtorEq, Nat.reduceAdd, Nat.reduceSub, Nat.reduceMul, Nat.reduceLT, Nat.reduceLeDiff, Nat.reduceEqDiff, Int.reduceAdd, Int.reduceSub, Int.reduceMul, Int.reduceLE, Int.reduceLT, Int.reduceEq, Int.reduceNe, Int.reduceNeg, Int.reduceToNat]
  rw [show rangeD 0 2 = (rng 2).map D.int from rfl]
  refine ok_for0 [1, 2] (rng 2) D.int (fun i vs S => ∃ a c, vs = [a, c]) [.no, .no] rfl ⟨.no, .no, rfl⟩ ?_ ?_
  · rintro N1 K1 T1 hK hT' j p vs S hp ⟨a, c, rfl⟩ hN
    obtain ⟨hj, rfl⟩ := rng_succ_get hp
    obtain ⟨x, y, hx, bx⟩ := sp_box (B := B) (n := 57) (S := S) (ns := ns) (k := j) hC hX
    have bx : callN B 59 24 [.scr ns, .int j] S = .ok (.o (.l [.int x, .int y, .int 0])) S := bx
    simp only [sv_0, sv_1, sv_2, sv_3, sv_4, reduceIte, reduceDIte, reduceCtorEq, Nat.reduceAdd, Nat.reduceSub, Nat.reduceMul, Nat.reduceLT, Nat.reduceLeDiff, Nat.reduceEqDiff, Int.reduceAdd, Int.reduceSub, Int.reduceMul, Int.reduceLE, Int.reduceLT, Int.reduceEq, Int.reduceNe, Int.reduceNeg, Int.reduceToNat, bx]
    refine ok_compI (rng T) D.int (fun i ys S' => i ≤ T → (∀ y ∈ ys, y = .bl true) ∧ Bx S' S.length ((T - i) * u)) ?_ (by rw [rng_len]; omega) (fun _ => ⟨fun y hy => (nomatch hy), ?_⟩) ?_ ?_
    · simp only [sv_0, sv_1, sv_2, sv_3, sv_4, reduceIte, reduceDIte, reduceCtorEq, Nat.reduceAdd, Nat.reduceSub, Nat.reduceMul, Nat.reduceLT, Nat.reduceLeDiff, Nat.reduceEqDiff, Int.reduceAdd, Int.reduceSub, Int.reduceMul, Int.reduceLE, Int.reduceLT, Int.reduceEq, Int.reduceNe, Int.reduceNeg, Int.reduceToNat, ht]
      rw [rg1_i _ (by omega)]
      simp only [sv_0, sv_1, sv_2, sv_3, sv_4, reduceIte, reduceDIte, reduceCtorEq, Nat.reduceAdd, Nat.reduceSub, Nat.reduceMul, Nat.reduceLT, Nat.reduceLeDiff, Nat.reduceEqDiff, Int.reduceAdd, Int.reduceSub, Int.reduceMul, Int.reduceLE, Int.reduceLT, Int.reduceEq, Int.reduceNe, Int.reduceNeg, Int.reduceToNat, rangeD_rng]
    · refine ⟨x, y, 0, by simp, hx, by decide, ?_⟩
      have h1 : (T - 0) * u ≤ 100 * 10000000000 := Nat.mul_le_mul (by omega) hu
      omega
    · rintro i q ys S1 hq hI
      obtain ⟨hi, rfl⟩ := rng_succ_get hq
      obtain ⟨m1, m2⟩ := hI (by omega)
      obtain ⟨S2, r1, r2⟩ := hR S1 S.length ((T - (i + 1)) * u) (m2.mono (by rw [show T - i = (T - (i + 1)) + 1 by omega, Nat.succ_mul]; omega))
      simp only [sv_0, sv_1, sv_2, sv_3, sv_4, reduceIte, reduceDIte, reduceCtorEq, Nat.reduceAdd, Nat.reduceSub, Nat.reduceMul, Nat.reduceLT, Nat.reduceLeDiff, Nat.reduceEqDiff, Int.reduceAdd, Int.reduceSub, Int.reduceMul, Int.reduceLE, Int.reduceLT, Int.reduceEq, Int.reduceNe, Int.reduceNeg, Int.reduceToNat, r1]
      refine fun _ => ⟨fun y hy => ?_, r2⟩
      rcases List.mem_append.mp hy with hy | hy
      · exact m1 y hy
      · exact List.mem_singleton.mp hy
    · intro ys S1 hI
      rw [rng_len] at hI
      simp only [sv_0, sv_1, sv_2, sv_3, sv_4, reduceIte, reduceDIte, reduceCtorEq, Nat.reduceAdd, Nat.reduceSub, Nat.reduceMul, Nat.reduceLT, Nat.reduceLeDiff, Nat.reduceEqDiff, Int.reduceAdd, Int.reduceSub, Int.reduceMul, Int.reduceLE, Int.reduceLT, Int.reduceEq, Int.reduceNe, Int.reduceNeg, Int.reduceToNat, bAll_true (hI (Nat.le_refl _)).1]
      exact hN [_, _] _ ⟨_, _, rfl⟩
  · rintro vs S ⟨a, c, rfl⟩
    simp only [sv_0, sv_1, sv_2, sv_3, sv_4, reduceIte, reduceDIte, reduceCtorEq, Nat.reduceAdd, Nat.reduceSub, Nat.reduceMul, Nat.reduceLT, Nat.reduceLeDiff, Nat.reduceEqDiff, Int.reduceAdd, Int.reduceSub, Int.reduceMul, Int.reduceLE, Int.reduceLT, Int.reduceEq, Int.reduceNe, Int.reduceNeg, Int.reduceToNat]
theorem lawB {B : Tb} {ns : List Int} {rid lid u : Nat} {t : Int} {x : Str} (h0 : 0 ≤ t) (h1 : t ≤ 100) (hl : ns.length ≤ 63) (hC : B i__law_cell_at = some q__law_cell_at) (hX : B i__law_box = some q__law_box)
    (hL : B lid = some ⟨x, 1, 2, fun C => (dRet (dBlt bAll (dCons (fz (dComp (dRange1 (fz (dOp fAdd (dC (.int 1)) (fz (dBlt bMin2 (dCons (dC (.int t)) (dCons (fz (dBlt bLen (dCons (dBVar 0) dNil))) dNil))))))) [1] (.nm 1) dYes (fz (dCall C rid (dCons (shE (dCall C 24 (dCons (dVar 0) (dCons (dVar 1) dNil)))) dNil))))) dNil)))⟩)
    (hu : u ≤ 10000000000) (hR : ∀ S b, Bx S b u → ∃ S', callN B 59 rid [.loc b] S = .ok (.v (.bl true)) S') : ∃ S', callN B 60 lid [.scr ns] [] = .ok (.v (.bl true)) S' := by
  suffices h : okE (callN B 60 lid [.scr ns] []) fun x _ => x = .v (.bl true) by
    obtain ⟨x, S1, g1, rfl⟩ := h
    exact ⟨_, g1⟩
  refine ok_call hL rfl ?_
  simp only [sv_0, sv_1, sv_2, sv_3, sv_4, reduceIte, reduceDIte, reduceCtorEq, Nat.reduceAdd, Nat.reduceSub, Nat.reduceMul, Nat.reduceLT, Nat.reduceLeDiff, Nat.reduceEqDiff, Int.reduceAdd, Int.reduceSub, Int.reduceMul, Int.reduceLE, Int.reduceLT, Int.reduceEq, Int.reduceNe, Int.reduceNeg, Int.reduceToNat]
  obtain ⟨q, eq⟩ : ∃ q : Nat, 1 + (if (ns.length : Int) < t then (ns.length : Int) else t) = q := ⟨(1 + (if (ns.length : Int) < t then (ns.length : Int) else t)).toNat, by split <;> omega⟩
  have hq : q ≤ 101 := by
    split at eq <;> omega
  refine ok_compI (rng q) D.int (fun i ys S' => ∀ y ∈ ys, y = .bl true) ?_ (by rw [rng_len]; omega) (fun y hy => (nomatch hy)) ?_ ?_
  · simp only [sv_0, sv_1, sv_2, sv_3, sv_4, reduceIte, reduceDIte, reduceCtorEq, Nat.reduceAdd, Nat.reduceSub, Nat.reduceMul, Nat.reduceLT, Nat.reduceLeDiff, Nat.reduceEqDiff, Int.reduceAdd, Int.reduceSub, Int.reduceMul, Int.reduceLE, Int.reduceLT, Int.reduceEq, Int.reduceNe, Int.reduceNeg, Int.reduceToNat, eq]
    rw [rg1_i _ (by omega)]
    simp only [sv_0, sv_1, sv_2, sv_3, sv_4, reduceIte, reduceDIte, reduceCtorEq, Nat.reduceAdd, Nat.reduceSub, Nat.reduceMul, Nat.reduceLT, Nat.reduceLeDiff, Nat.reduceEqDiff, Int.reduceAdd, Int.reduceSub, Int.reduceMul, Int.reduceLE, Int.reduceLT, Int.reduceEq, Int.reduceNe, Int.reduceNeg, Int.reduceToNat, rangeD_rng]
  · rintro i p ys S hp hI
    obtain ⟨hi, rfl⟩ := rng_succ_get hp
    obtain ⟨x, y, hx, bx⟩ := sp_box (B := B) (n := 57) (S := S) (ns := ns) (k := i) hC hX
    have bx : callN B 59 24 [.scr ns, .int i] S = .ok (.o (.l [.int x, .int y, .int 0])) S := bx
    obtain ⟨S2, r1⟩ := hR (S ++ [.l [.int x, .int y, .int 0]]) S.length ⟨x, y, 0, by simp, hx, by decide, by omega⟩
    simp only [sv_0, sv_1, sv_2, sv_3, sv_4, reduceIte, reduceDIte, reduceCtorEq, Nat.reduceAdd, Nat.reduceSub, Nat.reduceMul, Nat.reduceLT, Nat.reduceLeDiff, Nat.reduceEqDiff, Int.reduceAdd, Int.reduceSub, Int.reduceMul, Int.reduceLE, Int.reduceLT, Int.reduceEq, Int.reduceNe, Int.reduceNeg, Int.reduceToNat, bx, r1]
    intro y hy
    rcases List.mem_append.mp hy with hy | hy
    · exact hI y hy
    · exact List.mem_singleton.mp hy
  · intro ys S1 hI
    simp only [sv_0, sv_1, sv_2, sv_3, sv_4, reduceIte, reduceDIte, reduceCtorEq, Nat.reduceAdd, Nat.reduceSub, Nat.reduceMul, Nat.reduceLT, Nat.reduceLeDiff, Nat.reduceEqDiff, Int.reduceAdd, Int.reduceSub, Int.reduceMul, Int.reduceLE, Int.reduceLT, Int.reduceEq, Int.reduceNe, Int.reduceNeg, Int.reduceToNat, bAll_true hI]
end MP

namespace MP
open PySem PySem.Spec
/-! ### notes ascend -/
def ntLt (a b : Note) : Bool := decide (a.t < b.t) || (decide (a.t = b.t) && ((a.k && !b.k) || (a.k == b.k && decide (a.v < b.v))))
def kcp (k : Bool) : List Nat := (kd k).cps.toList
theorem blt_kk : ∀ a b : Bool, PyProof.Rows.itemOrd.blt (.inr (kcp a)) (.inr (kcp b)) = (a && !b) := by decide +kernel
theorem itemLt_ii (i j : Int) : PyProof.Rows.itemLt (.inl i) (.inl j) = decide (i < j) := rfl
theorem itemLt_kk (a b : Bool) : PyProof.Rows.itemLt (.inr (kcp a)) (.inr (kcp b)) = (a && !b) := blt_kk a b
theorem note_toks (x : Note) : PySem.W.keyToks (toPy (noteD x)) = [.inl 1, .inl x.t, .inl 1, .inr (kcp x.k), .inl 1, .inl x.v, .inl 0] := rfl
theorem ltD_note (a b : Note) : ltD (noteD a) (noteD b) = ntLt a b := by
  unfold ltD PySem.W.dataLt
  rw [note_toks, note_toks, lexR_cons, lexR_cons, lexR_cons, lexR_cons, lexR_cons, lexR_cons, lexR_cons]
  simp only [PyProof.Rows.itemOrd, itemLt_ii, itemLt_kk]
  unfold ntLt
  have e0 : PyProof.Rows.lexLt PyProof.Rows.itemOrd [] [] = false := rfl
  rw [e0]
  by_cases h1 : a.t < b.t
  · simp [h1]
  · by_cases h2 : a.t = b.t
    · have h3 : ¬ b.t < a.t := by omega
      simp only [h1, h2, h3]
      cases a.k <;> cases b.k <;> simp
    · have h3 : b.t < a.t := by omega
      simp [h1, h2, h3]
theorem noteLe_eq (a b : Note) : noteLe a b = !ntLt b a := by
  rw [← ltD_note]
  rfl
theorem ntLt_iff {a b : Note} : ntLt a b = true ↔ a.t < b.t ∨ (a.t = b.t ∧ ((a.k = true ∧ b.k = false) ∨ (a.k = b.k ∧ a.v < b.v))) := by
  unfold ntLt
  cases a.k <;> cases b.k <;> simp
theorem ntLt_asym {a b : Note} (h : ntLt a b = true) : ntLt b a = false := by
  cases hb : ntLt b a with
  | false => rfl
  | true =>
    rw [ntLt_iff] at h hb
    exfalso
    rcases h with h | ⟨h1, h2⟩
    · rcases hb with hb | ⟨h3, _⟩ <;> omega
    · rcases hb with hb | ⟨_, h4⟩
      · omega
      · rcases h2 with ⟨h5, h6⟩ | ⟨h5, h6⟩ <;> rcases h4 with ⟨h7, h8⟩ | ⟨h7, h8⟩ <;> first | (rw [h5] at h8; cases h8) | (rw [h5] at h7; rw [h7] at h6; cases h6) | (rw [h7] at h5; rw [h5] at h8; cases h8) | omega | simp_all
theorem ntLt_tot {a b : Note} (h1 : ntLt a b = false) (h2 : ntLt b a = false) : a = b := by
  have n1 := mt ntLt_iff.mpr (by rw [h1]; simp)
  have n2 := mt ntLt_iff.mpr (by rw [h2]; simp)
  have et : a.t = b.t := by omega
  have ek : a.k = b.k := by
    cases ha : a.k <;> cases hb : b.k <;> first | rfl | (exfalso; exact n1 (.inr ⟨et, .inl ⟨ha, hb⟩⟩)) | (exfalso; exact n2 (.inr ⟨et.symm, .inl ⟨hb, ha⟩⟩))
  have ev : a.v = b.v := by
    by_cases c : a.v < b.v
    · exact absurd (.inr ⟨et, .inr ⟨ek, c⟩⟩) n1
    · by_cases d : b.v < a.v
      · exact absurd (.inr ⟨et.symm, .inr ⟨ek.symm, d⟩⟩) n2
      · omega
  cases a; cases b
  simp_all
theorem ntLt_trans {a b c : Note} (h1 : ntLt a b = true) (h2 : ntLt b c = true) : ntLt a c = true := by
  rw [ntLt_iff] at h1 h2 ⊢
  rcases h1 with h1 | ⟨h1, h3⟩
  · rcases h2 with h2 | ⟨h2, _⟩
    · exact .inl (by omega)
    · exact .inl (by omega)
  · rcases h2 with h2 | ⟨h2, h4⟩
    · exact .inl (by omega)
    · refine .inr ⟨h1.trans h2, ?_⟩
      rcases h3 with ⟨h5, h6⟩ | ⟨h5, h6⟩ <;> rcases h4 with ⟨h7, h8⟩ | ⟨h7, h8⟩
      · rw [h6] at h7; cases h7
      · exact .inl ⟨h5, by rw [← h7, h6]⟩
      · exact .inl ⟨h5.trans h7, h8⟩
      · exact .inr ⟨h5.trans h7, by omega⟩
theorem sortN_le (l : List Note) : (sortN l).Pairwise fun a b => ntLt b a = false := by
  have := List.pairwise_mergeSort (le := noteLe) (fun a b c h1 h2 => ?_) (fun a b => ?_) l
  · refine this.imp fun {a b} h => ?_
    rw [noteLe_eq] at h
    simpa using h
  · rw [noteLe_eq] at h1 h2 ⊢
    have h1 : ntLt b a = false := by simpa using h1
    have h2 : ntLt c b = false := by simpa using h2
    cases h : ntLt c a with
    | false => rfl
    | true =>
      exfalso
      cases h3 : ntLt a b with
      | true =>
        have := ntLt_trans h h3
        rw [h2] at this; cases this
      | false =>
        have e := ntLt_tot h3 h1
        subst e
        rw [h2] at h; cases h
  · rw [noteLe_eq, noteLe_eq]
    cases h : ntLt b a with
    | false => simp
    | true => rw [ntLt_asym h]; simp
def NS (l : List Note) : Prop := l.Pairwise fun a b => ntLt a b = true
theorem NS.of {l : List Note} (h1 : l.Pairwise fun a b => ntLt b a = false) (h2 : l.Nodup) : NS l := by
  unfold NS
  induction l with
  | nil => exact .nil
  | cons a l ih =>
    obtain ⟨g1, g2⟩ := List.pairwise_cons.mp h1
    obtain ⟨g3, g4⟩ := List.nodup_cons.mp h2
    refine List.pairwise_cons.mpr ⟨fun b hb => ?_, ih g2 g4⟩
    cases h : ntLt a b with
    | true => rfl
    | false =>
      have := ntLt_tot h (g1 b hb)
      subst this
      exact absurd hb g3
theorem NS.uniq : ∀ {l m : List Note}, NS l → NS m → l.Perm m → l = m
  | [], m, _, _, p => (List.nil_perm.mp p).symm
  | a :: l, [], _, _, p => by cases (List.perm_nil.mp p)
  | a :: l, b :: m, h1, h2, p => by
    obtain ⟨g1, g2⟩ := List.pairwise_cons.mp h1
    obtain ⟨g3, g4⟩ := List.pairwise_cons.mp h2
    have e : a = b := by
      rcases List.mem_cons.mp (p.subset List.mem_cons_self) with e | e
      · exact e
      · rcases List.mem_cons.mp (p.symm.subset List.mem_cons_self) with e2 | e2
        · exact e2.symm
        · have := ntLt_asym (g1 b e2)
          rw [g3 a e] at this; cases this
    subst e
    rw [NS.uniq g2 g4 (List.perm_cons a |>.mp p)]
theorem NS.nodup {l : List Note} (h : NS l) : l.Nodup := h.imp fun {a b} h e => by
  subst e
  have := ntLt_asym h
  rw [h] at this; cases this
theorem sortN_ns {l : List Note} (h : l.Nodup) : NS (sortN l) := NS.of (sortN_le l) ((sortN_perm l).nodup_iff.mpr h)
theorem so_nodup {l : List Note} (h : l.Pairwise fun x y => ¬ (x.t = y.t ∧ x.k = y.k)) : l.Nodup := h.imp fun {a b} h e => h (by subst e; exact ⟨rfl, rfl⟩)
/-! ### with_note, without_note -/
def addF (j : J) (x : Note) : J := ⟨j.n, j.m, sortN (j.N ++ [x])⟩
theorem add_ok (j : J) (x : Note) : Add j x (addF j x) := ⟨rfl, rfl, (sortN_perm _).trans (List.perm_append_comm.trans (List.Perm.refl _))⟩
def remF (j : J) (x : Note) : J := ⟨j.n, j.m, j.N.filter fun y => !decide (y = x)⟩
theorem rem_perm {x : Note} : ∀ {l : List Note}, l.Nodup → x ∈ l → l.Perm (x :: l.filter fun y => !decide (y = x))
  | [], _, h => by cases h
  | y :: l, nd, h => by
    obtain ⟨n1, n2⟩ := List.nodup_cons.mp nd
    by_cases c : y = x
    · subst c
      rw [List.filter_cons_of_neg (by simp), List.filter_eq_self.mpr]
      intro z hz
      have : z ≠ y := fun e => n1 (e ▸ hz)
      simp [this]
    · have hx : x ∈ l := by
        rcases List.mem_cons.mp h with e | e
        · exact absurd e.symm c
        · exact e
      rw [List.filter_cons_of_pos (by simp [c])]
      exact ((rem_perm n2 hx).cons y).trans (List.Perm.swap x y _)
theorem rem_ok {j : J} (w : JW j) {x : Note} (h : x ∈ j.N) : Add (remF j x) x j := ⟨rfl, rfl, rem_perm (so_nodup w.so) h⟩
theorem add_rem {j : J} (w : JW j) (s : NS j.N) {x : Note} (h : x ∈ j.N) : addF (remF j x) x = j := by
  have p : (sortN ((remF j x).N ++ [x])).Perm j.N := (sortN_perm _).trans (List.perm_append_comm.trans (rem_perm (so_nodup w.so) h).symm)
  have e : sortN ((remF j x).N ++ [x]) = j.N := (sortN_ns (((sortN_perm _).symm.trans p).nodup_iff.mpr (so_nodup w.so))).uniq s p
  show (⟨j.n, j.m, sortN ((remF j x).N ++ [x])⟩ : J) = j
  rw [e]
theorem cut2 (a b c : D) : cutD [a, b, c] none (some 2) = [a, b] := rfl
theorem deq_kd (a b : Bool) : deq (.str (kd a)) (.str (kd b)) = (a == b) := kd_eq a b
theorem fEq_key (t1 t2 : Int) (k1 k2 : Bool) (S : Sto) : fEq (.tup [.int t1, .str (kd k1)]) (.tup [.int t2, .str (kd k2)]) S = .ok (.v (.bl (decide (t1 = t2) && (k1 == k2)))) S := by
  have f : ∀ (t : Int) (k : Bool), fitN 20 (.tup [.int t, .str (kd k)]) = true := fun t k => by
    show ([D.int t, .str (kd k)].all (fitN 19)) = true
    simp [fitN, kd_ok]
  rw [ev_eq S (f _ _) (f _ _)]
  have : deq (.tup [.int t1, .str (kd k1)]) (.tup [.int t2, .str (kd k2)]) = (deq (.int t1) (.int t2) && (deq (.str (kd k1)) (.str (kd k2)) && true)) := rfl
  rw [this, deq_kd, deq_ii, Bool.and_true]
theorem fit_note (n : Nat) (x : Note) : fitN (n + 1) (noteD x) = true := by
  show ([D.int x.t, .str (kd x.k), .int x.v].all (fitN n)) = true
  cases n <;> simp [fitN, kd_ok]
theorem deq_note (a b : Note) : deq (noteD a) (noteD b) = decide (a = b) := by
  have : deq (noteD a) (noteD b) = (deq (.int a.t) (.int b.t) && (deq (.str (kd a.k)) (.str (kd b.k)) && (deq (.int a.v) (.int b.v) && true))) := rfl
  rw [this, deq_kd, deq_ii, deq_ii, Bool.and_true]
  obtain ⟨t1, k1, v1⟩ := a
  obtain ⟨t2, k2, v2⟩ := b
  cases k1 <;> cases k2 <;> simp
theorem fNe_note (a b : Note) (S : Sto) : fNe (noteD a) (noteD b) S = .ok (.v (.bl (!decide (a = b)))) S := by
  rw [ev_ne S (fit_note 19 a) (fit_note 19 b), deq_note]
theorem deqs_notes : ∀ a b : List Note, deqs (a.map noteD) (b.map noteD) = decide (a = b)
  | [], [] => rfl
  | [], _ :: _ => rfl
  | _ :: _, [] => rfl
  | x :: a, y :: b => by
    show (deq (noteD x) (noteD y) && deqs (a.map noteD) (b.map noteD)) = _
    rw [deq_note, deqs_notes a b]
    simp
theorem fit_notes (n : Nat) (l : List Note) : (l.map noteD).all (fitN (n + 1)) = true := by
  rw [List.all_eq_true]
  intro d hd
  obtain ⟨x, _, rfl⟩ := List.mem_map.mp hd
  exact fit_note n x
theorem fit_jD (j : J) : fitN 20 (jD j) = true := by
  have h : fitN 19 (.tup (j.N.map noteD)) = true := fit_notes 17 j.N
  show ([D.int j.n, .int j.m, .tup (j.N.map noteD)].all (fitN 19)) = true
  rw [List.all_cons, List.all_cons, List.all_cons, h]
  rfl
instance decJ : DecidableEq J := fun a b => if h : a.n = b.n ∧ a.m = b.m ∧ a.N = b.N then isTrue (by cases a; cases b; simp_all) else isFalse (by rintro rfl; exact h ⟨rfl, rfl, rfl⟩)
theorem deq_jD (a b : J) : deq (jD a) (jD b) = decide (a = b) := by
  have : deq (jD a) (jD b) = (deq (.int a.n) (.int b.n) && (deq (.int a.m) (.int b.m) && (deqs (a.N.map noteD) (b.N.map noteD) && true))) := rfl
  rw [this, deqs_notes, deq_ii, deq_ii, Bool.and_true]
  refine bool_iff ?_
  rw [Bool.and_eq_true, Bool.and_eq_true, decide_eq_true_eq, decide_eq_true_eq, decide_eq_true_eq, decide_eq_true_eq]
  cases a; cases b
  simp
theorem fNe_jD (a b : J) (S : Sto) : fNe (jD a) (jD b) S = .ok (.v (.bl (!decide (a = b)))) S := by
  rw [ev_ne S (fit_jD a) (fit_jD b), deq_jD]
theorem any_notes (x : Note) : ∀ l : List Note, ((l.map noteD).any fun z => deq z (noteD x)) = decide (x ∈ l)
  | [] => rfl
  | y :: l => by
    rw [List.map_cons, List.any_cons, any_notes x l, deq_note]
    by_cases c : y = x
    · simp [c]
    · have : ¬ x = y := fun e => c e.symm
      simp [c, this]
theorem fNotIn_note (x : Note) (l : List Note) (S : Sto) : fNotIn (noteD x) (.tup (l.map noteD)) S = .ok (.v (.bl (!decide (x ∈ l)))) S := by
  have e : din (noteD x) (.tup (l.map noteD)) = some (decide (x ∈ l)) := by
    show (if fitN 20 (noteD x) = true ∧ (l.map noteD).all (fitN 19) = true then some ((l.map noteD).any fun z => deq z (noteD x)) else none) = _
    rw [if_pos ⟨fit_note 19 x, fit_notes 18 l⟩, any_notes]
  unfold fNotIn
  rw [e]
theorem bTuple_note {x : Note} {d : D} (h : NoteR x d) (S : Sto) : bTuple [d] S = .ok (.v (noteD x)) S := by cases h <;> rfl
theorem sp_with {B : Tb} {n : Nat} {S : Sto} {d dn : D} {j : J} {x : Note} (hP : B i_plain = some q_plain) (hB : B i_with_note = some q_with_note) (h : JR d j) (hx : NoteR x dn) (no : ∀ y ∈ j.N, ¬ (y.t = x.t ∧ y.k = x.k)) : callN B (n + 2) i_with_note [d, dn] S = .ok (.v (jD (addF j x))) S := by
  have p1 : ∀ S, callN B (n + 1) 408 [d] S = .ok (.v (jD j)) S := fun S => sp_plain hP h
  have tx := bTuple_note hx
  have hlen := h.len
  have so := sortOk_notes (l := j.N ++ [x]) (by simp; omega)
  refine eq_of_ok (ok_call (hB.trans rfl) rfl ?_)
  unfold b_with_note
  simp only [sv_0, sv_1, sv_2, sv_3, sv_4, reduceIte, reduceDIte, reduceCtorEq, Nat.reduceAdd, Nat.reduceSub, Nat.reduceMul, Nat.reduceLT, Nat.reduceLeDiff, Nat.reduceEqDiff, Int.reduceAdd, Int.reduceSub, Int.reduceMul, Int.reduceLE, Int.reduceLT, Int.reduceEq, Int.reduceNe, Int.reduceNeg, Int.reduceToNat, p1, jD]
  refine ok_for0 [2] j.N noteD (fun i vs S' => ∃ a, vs = [a] ∧ S' = S) [.no] rfl ⟨.no, rfl, rfl⟩ ?_ ?_
  · rintro N1 K1 T1 hK hT i y vs S' hy ⟨a, rfl, rfl⟩ hN1
    have ny := no y (List.mem_of_getElem? hy)
    have e : (decide (y.t = x.t) && (y.k == x.k)) = false := by
      by_cases c : y.t = x.t
      · have : y.k ≠ x.k := fun e => ny ⟨c, e⟩
        simp [c, this]
      · simp [c]
    simp only [sv_0, sv_1, sv_2, sv_3, sv_4, reduceIte, reduceDIte, reduceCtorEq, Nat.reduceAdd, Nat.reduceSub, Nat.reduceMul, Nat.reduceLT, Nat.reduceLeDiff, Nat.reduceEqDiff, Int.reduceAdd, Int.reduceSub, Int.reduceMul, Int.reduceLE, Int.reduceLT, Int.reduceEq, Int.reduceNe, Int.reduceNeg, Int.reduceToNat, tx, noteD, cut2, fEq_key, e, if_false]
    exact hN1 [_] _ ⟨_, rfl, rfl⟩
  · rintro vs S' ⟨a, rfl, rfl⟩
    simp only [sv_0, sv_1, sv_2, sv_3, sv_4, reduceIte, reduceDIte, reduceCtorEq, Nat.reduceAdd, Nat.reduceSub, Nat.reduceMul, Nat.reduceLT, Nat.reduceLeDiff, Nat.reduceEqDiff, Int.reduceAdd, Int.reduceSub, Int.reduceMul, Int.reduceLE, Int.reduceLT, Int.reduceEq, Int.reduceNe, Int.reduceNeg, Int.reduceToNat, tx]
    rw [ev_addT _ (by simp; omega), show j.N.map noteD ++ [noteD x] = (j.N ++ [x]).map noteD by simp]
    simp only [sv_0, sv_1, sv_2, sv_3, sv_4, reduceIte, reduceDIte, reduceCtorEq, Nat.reduceAdd, Nat.reduceSub, Nat.reduceMul, Nat.reduceLT, Nat.reduceLeDiff, Nat.reduceEqDiff, Int.reduceAdd, Int.reduceSub, Int.reduceMul, Int.reduceLE, Int.reduceLT, Int.reduceEq, Int.reduceNe, Int.reduceNeg, Int.reduceToNat, bSorted, so, if_true, sortN_eq, addF]
theorem sp_without {B : Tb} {n : Nat} {S : Sto} {d dn : D} {j : J} {x : Note} (hP : B i_plain = some q_plain) (hB : B i_without_note = some q_without_note) (h : JR d j) (hx : NoteR x dn) (hm : x ∈ j.N) : callN B (n + 2) i_without_note [d, dn] S = .ok (.v (jD (remF j x))) S := by
  have p1 : ∀ S, callN B (n + 1) 408 [d] S = .ok (.v (jD j)) S := fun S => sp_plain hP h
  have tx := bTuple_note hx
  have hlen := h.len
  refine eq_of_ok (ok_call (hB.trans rfl) rfl ?_)
  unfold b_without_note
  have dj : jD j = .tup [.int j.n, .int j.m, .tup (j.N.map noteD)] := rfl
  simp only [sv_0, sv_1, sv_2, sv_3, sv_4, reduceIte, reduceDIte, reduceCtorEq, Nat.reduceAdd, Nat.reduceSub, Nat.reduceMul, Nat.reduceLT, Nat.reduceLeDiff, Nat.reduceEqDiff, Int.reduceAdd, Int.reduceSub, Int.reduceMul, Int.reduceLE, Int.reduceLT, Int.reduceEq, Int.reduceNe, Int.reduceNeg, Int.reduceToNat, p1, dj, tx, fNotIn_note, hm, decide_true, if_false]
  refine ok_comp j.N noteD (fun y => !decide (y = x)) noteD (by simp only [sv_0, sv_1, sv_2, sv_3, sv_4, reduceIte, reduceDIte, reduceCtorEq, Nat.reduceAdd, Nat.reduceSub, Nat.reduceMul, Nat.reduceLT, Nat.reduceLeDiff, Nat.reduceEqDiff, Int.reduceAdd, Int.reduceSub, Int.reduceMul, Int.reduceLE, Int.reduceLT, Int.reduceEq, Int.reduceNe, Int.reduceNeg, Int.reduceToNat]) (by omega) (fun y _ => ?_) ?_
  · simp only [sv_0, sv_1, sv_2, sv_3, sv_4, reduceIte, reduceDIte, reduceCtorEq, Nat.reduceAdd, Nat.reduceSub, Nat.reduceMul, Nat.reduceLT, Nat.reduceLeDiff, Nat.reduceEqDiff, Int.reduceAdd, Int.reduceSub, Int.reduceMul, Int.reduceLE, Int.reduceLT, Int.reduceEq, Int.reduceNe, Int.reduceNeg, Int.reduceToNat, tx, fNe_note]
  · simp only [sv_0, sv_1, sv_2, sv_3, sv_4, reduceIte, reduceDIte, reduceCtorEq, Nat.reduceAdd, Nat.reduceSub, Nat.reduceMul, Nat.reduceLT, Nat.reduceLeDiff, Nat.reduceEqDiff, Int.reduceAdd, Int.reduceSub, Int.reduceMul, Int.reduceLE, Int.reduceLT, Int.reduceEq, Int.reduceNe, Int.reduceNeg, Int.reduceToNat, jD, remF]
end MP

namespace MP
open PySem PySem.Spec
/-! ### d[k] = v -/
def okP (o : Option O) (P : O → Prop) : Prop := match o with
  | some x => P x
  | none => False
theorem okP_some (x : O) (P : O → Prop) : okP (some x) P = P x := rfl
def putR (k v : D) (P : O → Prop) : Option Sl → Prop := fun o => match o with
  | some (.ow x) => okP (putO k v x) P
  | _ => False
theorem putR_ow (k v : D) (P : O → Prop) (x : O) : putR k v P (some (.ow x)) = okP (putO k v x) P := rfl
theorem ok_dPutD (env : Envm) (S : Sto) (i : Nat) (N : PN) (T : PT) (K C : PN) (dk dv : DE) : okO (dPutD i dk dv env S) N T K C = okE (dv env S) fun v S1 => okE (dk env S1) fun k S2 => putR k v (fun o => N (env.set i (.ow o)) S2) env[i]? := by
  unfold dPutD
  cases dv env S with
  | xn c x S1 => exact propext ⟨fun h => False.elim h, fun ⟨_, _, h, _⟩ => (nomatch h)⟩
  | bad => rw [okE_bad]; rfl
  | ok v S1 =>
    rw [okE_ok]
    show okO (match dk env S1 with
      | .ok k S2 => (match env[i]? with
        | some (.ow o) => (match putO k v o with
          | some o' => .nx (env.set i (.ow o')) S2
          | none => .bad)
        | _ => .bad)
      | .xn c x S2 => .xn c x S2
      | .bad => .bad) N T K C = _
    cases dk env S1 with
    | xn c x S2 => exact propext ⟨fun h => False.elim h, fun ⟨_, _, h, _⟩ => (nomatch h)⟩
    | bad => rw [okE_bad]; rfl
    | ok k S2 =>
      rw [okE_ok]
      cases env[i]? with
      | none => rfl
      | some s =>
        cases s with
        | no => rfl
        | va d => rfl
        | ow o =>
          show okO (match putO k v o with
            | some o' => .nx (env.set i (.ow o')) S2
            | none => .bad) N T K C = okP (putO k v o) _
          cases putO k v o <;> rfl
/-! ### a dict of notes -/
def keyT (x : Note) : List L2.Key := [.inl x.t, .inr (kd x.k)]
def same (y x : Note) : Bool := decide (y.t = x.t) && (y.k == x.k)
def setN (M : List Note) (x : Note) : List Note := if M.any (same · x) = true then M.map (fun y => if same y x = true then x else y) else M ++ [x]
def dicN (M : List Note) : O := .t (M.map keyT) (M.map fun x => .int x.v)
theorem same_iff {y x : Note} : same y x = true ↔ y.t = x.t ∧ y.k = x.k := by
  unfold same
  rw [Bool.and_eq_true, decide_eq_true_eq, beq_iff_eq]
theorem keyT_iff {y x : Note} : keyT y = keyT x ↔ same y x = true := by
  rw [same_iff]
  unfold keyT
  constructor
  · intro h
    injection h with h1 h2
    injection h2 with h3 h4
    have e1 : y.t = x.t := by injection h1
    have e2 : kd y.k = kd x.k := by injection h3
    refine ⟨e1, ?_⟩
    have := kd_eq y.k x.k
    rw [e2] at this
    have t : (kd x.k == kd x.k) = true := by simp
    rw [t] at this
    simpa using this.symm
  · rintro ⟨h1, h2⟩
    rw [h1, h2]
theorem mem_keyT {M : List Note} {x : Note} : keyT x ∈ M.map keyT ↔ M.any (same · x) = true := by
  rw [List.mem_map, List.any_eq_true]
  constructor
  · rintro ⟨y, hy, e⟩
    exact ⟨y, hy, keyT_iff.mp e⟩
  · rintro ⟨y, hy, e⟩
    exact ⟨y, hy, keyT_iff.mpr e⟩
theorem putVs_note (x : Note) : ∀ M : List Note, putVs (M.map keyT) (M.map fun y => D.int y.v) (keyT x) (.int x.v) = (M.map (fun y => if same y x = true then x else y)).map fun y => D.int y.v
  | [] => rfl
  | y :: M => by
    rw [List.map_cons, List.map_cons]
    show ((if keyT y = keyT x then D.int x.v else D.int y.v) :: putVs (M.map keyT) (M.map fun y => D.int y.v) (keyT x) (.int x.v)) = _
    rw [putVs_note x M, List.map_cons, List.map_cons]
    by_cases c : same y x = true
    · rw [if_pos (keyT_iff.mpr c), if_pos c]
    · rw [if_neg fun e => c (keyT_iff.mp e), if_neg c]
theorem put_note {M : List Note} {x : Note} (h : M.Pairwise fun a b => ¬ (a.t = b.t ∧ a.k = b.k)) (hl : M.length < 100000) : putO (.tup [.int x.t, .str (kd x.k)]) (.int x.v) (dicN M) = some (dicN (setN M x)) := by
  have e : MP.keysOf (.tup [.int x.t, .str (kd x.k)]) = some (keyT x) := rfl
  unfold dicN putO
  show (MP.keysOf (.tup [.int x.t, .str (kd x.k)])).bind _ = _
  rw [e, Option.bind_some, if_pos (by rw [List.length_map]; exact hl)]
  unfold setN putKs putDs
  by_cases c : M.any (same · x) = true
  · rw [if_pos c, if_pos (mem_keyT.mpr c), if_pos (mem_keyT.mpr c), putVs_note x M]
    congr 2
    rw [List.map_map]
    refine List.map_congr_left fun y _ => ?_
    show keyT y = keyT (if same y x = true then x else y)
    split
    · rename_i e; exact keyT_iff.mpr e
    · rfl
  · rw [if_neg c, if_neg fun e => c (mem_keyT.mp e), if_neg fun e => c (mem_keyT.mp e)]
    simp
structure DN (n m : Int) (M : List Note) : Prop where
  inr : ∀ x ∈ M, 0 ≤ x.t ∧ x.t < m ∧ 0 ≤ x.v ∧ x.v < n
  so : M.Pairwise fun x y => ¬ (x.t = y.t ∧ x.k = y.k)
theorem setN_len (M : List Note) (x : Note) : (setN M x).length ≤ M.length + 1 := by
  unfold setN
  split <;> simp
theorem DN.set {n m : Int} {M : List Note} {x : Note} (h : DN n m M) (hx : 0 ≤ x.t ∧ x.t < m ∧ 0 ≤ x.v ∧ x.v < n) : DN n m (setN M x) := by
  unfold setN
  split
  · refine ⟨fun y hy => ?_, ?_⟩
    · obtain ⟨z, hz, rfl⟩ := List.mem_map.mp hy
      split
      · exact hx
      · exact h.inr z hz
    · refine List.pairwise_map.mpr (h.so.imp fun {a b} g => ?_)
      have f : ∀ y : Note, (if same y x = true then x else y).t = y.t ∧ (if same y x = true then x else y).k = y.k := fun y => by
        split
        · rename_i e
          have := same_iff.mp e
          exact ⟨this.1.symm, this.2.symm⟩
        · exact ⟨rfl, rfl⟩
      rw [(f a).1, (f a).2, (f b).1, (f b).2]
      exact g
  · rename_i c
    refine ⟨fun y hy => ?_, ?_⟩
    · rcases List.mem_append.mp hy with hy | hy
      · exact h.inr y hy
      · rw [List.mem_singleton.mp hy]; exact hx
    · refine List.pairwise_append.mpr ⟨h.so, by simp, fun a ha b hb => ?_⟩
      rw [List.mem_singleton.mp hb]
      intro e
      exact c (List.any_eq_true.mpr ⟨a, ha, same_iff.mpr e⟩)
theorem look_note : ∀ {M : List Note} {x : Note}, (M.Pairwise fun a b => ¬ (a.t = b.t ∧ a.k = b.k)) → x ∈ M → lookK (M.map keyT) (M.map fun y => D.int y.v) (keyT x) = some (.int x.v)
  | [], _, _, h => by cases h
  | y :: M, x, so, h => by
    obtain ⟨h1, h2⟩ := List.pairwise_cons.mp so
    rw [List.map_cons, List.map_cons]
    unfold lookK
    by_cases c : keyT y = keyT x
    · rw [if_pos c]
      rcases List.mem_cons.mp h with rfl | h
      · rfl
      · exact absurd (same_iff.mp (keyT_iff.mp c)) (h1 x h)
    · rw [if_neg c]
      rcases List.mem_cons.mp h with rfl | h
      · exact absurd rfl c
      · exact look_note h2 h
/-- what a journal of the law's is -/
structure Book (j : J) (m : Nat) : Prop where
  w : JW j
  s : NS j.N
  n1 : 1 ≤ j.n
  n2 : j.n ≤ m
  m1 : j.m < j.n
  l : j.N.length ≤ 200
theorem Book.jr {j : J} {m : Nat} (h : Book j m) : JR (jD j) j := jr_jD h.w (by have := h.l; omega)
theorem Book.jk {j : J} {m : Nat} (h : Book j m) : JK (jD j) j := ⟨h.jr, by have := h.l; omega⟩
def sv_5 := And.intro @okP_some (And.intro @putR_ow (@ok_dPutD))
theorem sp_spoilt {B : Tb} {n b k m : Nat} {S : Sto} {j : J} (hT : B i__law_take = some q__law_take) (hO : B i__law_of = some q__law_of) (hP : B i__law_spoilt_v0 = some q__law_spoilt_v0) (h : Book j m) (hm : m ≤ 60) (hl : j.N.length ≤ 150) (hb : Bx S b (k + 100)) :
    ∃ (j' : J) (S' : Sto), callN B (n + 3) i__law_spoilt_v0 [.loc b, jD j] S = .ok (.v (jD j')) S' ∧ Book j' m ∧ j'.N.length ≤ 160 ∧ j'.n = j.n ∧ j'.m = j.m ∧ Bx S' b k := by
  have hn2 := h.n2
  have w := h.w
  have wm0 := w.m0
  have hm1 := h.m1
  obtain ⟨q, S1, a1, a2, a3, a4⟩ := sp_take (n := n + 1) (m := 4) (k := k + 99) (S := S) hT hb (by decide) (by decide)
  have a1 : callN B (n + 2) 238 [.loc b, .int 4] S = .ok (.v (.int q)) S1 := a1
  obtain ⟨r, er⟩ : ∃ r : Nat, (1 + q) * (if 0 < j.m then 1 else 0) = r := ⟨((1 + q) * (if 0 < j.m then 1 else 0)).toNat, by split <;> omega⟩
  have hr : r ≤ 4 ∧ (0 < r → 0 < j.m) := by split at er <;> omega
  suffices hh : okE (callN B (n + 3) i__law_spoilt_v0 [.loc b, jD j] S) fun x S' => ∃ j', x = .v (jD j') ∧ Book j' m ∧ j'.N.length ≤ 160 ∧ j'.n = j.n ∧ j'.m = j.m ∧ Bx S' b k by
    obtain ⟨x, S', g1, j', rfl, g2⟩ := hh
    exact ⟨j', S', g1, g2⟩
  refine ok_call (hP.trans rfl) rfl ?_
  unfold b__law_spoilt_v0
  simp only [sv_0, sv_1, sv_2, sv_3, sv_4, sv_5, reduceIte, reduceDIte, reduceCtorEq, Nat.reduceAdd, Nat.reduceSub, Nat.reduceMul, Nat.reduceLT, Nat.reduceLeDiff, Nat.reduceEqDiff, Int.reduceAdd, Int.reduceSub, Int.reduceMul, Int.reduceLE, Int.reduceLT, Int.reduceEq, Int.reduceNe, Int.reduceNeg, Int.reduceToNat, jD]
  refine ok_for0 [2, 7, 8, 9] j.N noteD (fun i vs S' => ∃ M a b c, vs = [.ow (dicN M), a, b, c] ∧ S' = S ∧ DN j.n j.m M ∧ M.length ≤ i) [.ow (.t [] []), .no, .no, .no] rfl ⟨[], .no, .no, .no, rfl, rfl, ⟨fun x hx => (nomatch hx), .nil⟩, by simp⟩ ?_ ?_
  · rintro N1 K1 T1 hK hT i y vs S' hy ⟨M, a, b, c, rfl, rfl, dn, ml⟩ hN1
    have hi := (List.getElem?_eq_some_iff.mp hy).1
    simp only [sv_0, sv_1, sv_2, sv_3, sv_4, sv_5, reduceIte, reduceDIte, reduceCtorEq, Nat.reduceAdd, Nat.reduceSub, Nat.reduceMul, Nat.reduceLT, Nat.reduceLeDiff, Nat.reduceEqDiff, Int.reduceAdd, Int.reduceSub, Int.reduceMul, Int.reduceLE, Int.reduceLT, Int.reduceEq, Int.reduceNe, Int.reduceNeg, Int.reduceToNat, noteD, put_note (x := y) dn.so (by omega)]
    exact hN1 [_, _, _, _] _ ⟨setN M y, _, _, _, rfl, rfl, dn.set (w.inr y (List.mem_of_getElem? hy)), by have := setN_len M y; omega⟩
  · rintro vs S' ⟨M, a, b1, c, rfl, rfl, dn, ml⟩
    simp only [sv_0, sv_1, sv_2, sv_3, sv_4, sv_5, reduceIte, reduceDIte, reduceCtorEq, Nat.reduceAdd, Nat.reduceSub, Nat.reduceMul, Nat.reduceLT, Nat.reduceLeDiff, Nat.reduceEqDiff, Int.reduceAdd, Int.reduceSub, Int.reduceMul, Int.reduceLE, Int.reduceLT, Int.reduceEq, Int.reduceNe, Int.reduceNeg, Int.reduceToNat, a1, decide_eq_true_eq]
    rw [ev_mul _ (mulOk_small1 (by omega))]
    simp only [sv_0, sv_1, sv_2, sv_3, sv_4, sv_5, reduceIte, reduceDIte, reduceCtorEq, Nat.reduceAdd, Nat.reduceSub, Nat.reduceMul, Nat.reduceLT, Nat.reduceLeDiff, Nat.reduceEqDiff, Int.reduceAdd, Int.reduceSub, Int.reduceMul, Int.reduceLE, Int.reduceLT, Int.reduceEq, Int.reduceNe, Int.reduceNeg, Int.reduceToNat, er]
    rw [rg1_i S1 (by omega)]
    simp only [sv_0, sv_1, sv_2, sv_3, sv_4, sv_5, reduceIte, reduceDIte, reduceCtorEq, Nat.reduceAdd, Nat.reduceSub, Nat.reduceMul, Nat.reduceLT, Nat.reduceLeDiff, Nat.reduceEqDiff, Int.reduceAdd, Int.reduceSub, Int.reduceMul, Int.reduceLE, Int.reduceLT, Int.reduceEq, Int.reduceNe, Int.reduceNeg, Int.reduceToNat, rangeD_rng]
    refine ok_for0 [2, 3] (rng r) D.int (fun i vs S' => i ≤ 4 → ∃ M a, vs = [.ow (dicN M), a] ∧ DN j.n j.m M ∧ M.length ≤ 150 + i ∧ Bx S' b (k + 99 - 3 * i)) [.ow (dicN M), .no] rfl (fun _ => ⟨M, .no, rfl, dn, by omega, a4⟩) ?_ ?_
    · rintro N2 K2 T2 hK2 hT2 i x vs S2 hx hI hN2
      obtain ⟨hi, rfl⟩ := rng_succ_get hx
      obtain ⟨M, a, rfl, dn, ml, bx⟩ := hI (by omega)
      obtain ⟨v, S3, b1, b2, b3, b4⟩ := sp_take (n := n + 1) (m := j.n) (k := k + 99 - 3 * i - 1) (S := S2) hT (bx.mono (by omega)) (by omega) (by omega)
      have b1 : callN B (n + 2) 238 [.loc b, .int j.n] S2 = .ok (.v (.int v)) S3 := b1
      obtain ⟨t, S4, c1, c2, c3, c4⟩ := sp_take (n := n + 1) (m := j.m) (k := k + 99 - 3 * i - 2) (S := S3) hT (b4.mono (by omega)) (by omega) (by omega)
      have c1 : callN B (n + 2) 238 [.loc b, .int j.m] S3 = .ok (.v (.int t)) S4 := c1
      obtain ⟨kk, S5, d1, d2, d3⟩ := sp_of (n := n) (k := k + 99 - 3 * (i + 1)) (S := S4) (d := .lst [.str "end", .str "closed", .str "closed"]) (xs := [.str "end", .str "closed", .str "closed"]) hT hO (c4.mono (by omega)) (.lst _) (by decide) (by decide)
      have d1 : callN B (n + 2) 110 [.loc b, .lst [.str "end", .str "closed", .str "closed"]] S4 = .ok (.v kk) S5 := d1
      obtain ⟨kb, rfl⟩ : ∃ kb : Bool, kk = .str (kd kb) := by
        simp only [List.mem_cons, List.not_mem_nil, or_false] at d2
        rcases d2 with rfl | rfl | rfl
        · exact ⟨false, rfl⟩
        · exact ⟨true, rfl⟩
        · exact ⟨true, rfl⟩
      have pn := put_note (x := ⟨t, kb, v⟩) dn.so (by omega)
      have pn : putO (.tup [.int t, .str (kd kb)]) (.int v) (dicN M) = some (dicN (setN M ⟨t, kb, v⟩)) := pn
      simp only [sv_0, sv_1, sv_2, sv_3, sv_4, sv_5, reduceIte, reduceDIte, reduceCtorEq, Nat.reduceAdd, Nat.reduceSub, Nat.reduceMul, Nat.reduceLT, Nat.reduceLeDiff, Nat.reduceEqDiff, Int.reduceAdd, Int.reduceSub, Int.reduceMul, Int.reduceLE, Int.reduceLT, Int.reduceEq, Int.reduceNe, Int.reduceNeg, Int.reduceToNat, b1, c1, d1, pn]
      exact hN2 [_, _] _ fun _ => ⟨setN M ⟨t, kb, v⟩, _, rfl, dn.set ⟨c2, c3, b2, b3⟩, by have := setN_len M ⟨t, kb, v⟩; omega, d3⟩
    · intro vs S2 hI
      rw [rng_len] at hI
      obtain ⟨M, a, rfl, dn, ml, bx⟩ := hI hr.1
      simp only [sv_0, sv_1, sv_2, sv_3, sv_4, sv_5, reduceIte, reduceDIte, reduceCtorEq, Nat.reduceAdd, Nat.reduceSub, Nat.reduceMul, Nat.reduceLT, Nat.reduceLeDiff, Nat.reduceEqDiff, Int.reduceAdd, Int.reduceSub, Int.reduceMul, Int.reduceLE, Int.reduceLT, Int.reduceEq, Int.reduceNe, Int.reduceNeg, Int.reduceToNat, dicN]
      have so := sortOk_notes (l := M) (by omega)
      refine ok_compA M (fun x => .tup ((keyT x).map keyD)) noteD ?_ (by omega) (fun x hx => ?_) ?_
      · simp only [sv_0, sv_1, sv_2, sv_3, sv_4, sv_5, reduceIte, reduceDIte, reduceCtorEq, Nat.reduceAdd, Nat.reduceSub, Nat.reduceMul, Nat.reduceLT, Nat.reduceLeDiff, Nat.reduceEqDiff, Int.reduceAdd, Int.reduceSub, Int.reduceMul, Int.reduceLE, Int.reduceLT, Int.reduceEq, Int.reduceNe, Int.reduceNeg, Int.reduceToNat, List.map_map]
        rfl
      · have lk : fIx (.ft (M.map keyT) (M.map fun x => .int x.v)) (.tup [.int x.t, .str (kd x.k)]) S2 = .ok (.v (.int x.v)) S2 := by
          show (match (match some (keyT x) with | some q => some (lookK (M.map keyT) (M.map fun x => D.int x.v) q) | none => none) with | some (some z) => Res.ok (R.v z) S2 | _ => .bad) = _
          simp only [look_note dn.so hx]
        simp only [sv_0, sv_1, sv_2, sv_3, sv_4, sv_5, reduceIte, reduceDIte, reduceCtorEq, Nat.reduceAdd, Nat.reduceSub, Nat.reduceMul, Nat.reduceLT, Nat.reduceLeDiff, Nat.reduceEqDiff, Int.reduceAdd, Int.reduceSub, Int.reduceMul, Int.reduceLE, Int.reduceLT, Int.reduceEq, Int.reduceNe, Int.reduceNeg, Int.reduceToNat, keyT, List.map_cons, List.map_nil, keyD, lk, noteD]
      · simp only [sv_0, sv_1, sv_2, sv_3, sv_4, sv_5, reduceIte, reduceDIte, reduceCtorEq, Nat.reduceAdd, Nat.reduceSub, Nat.reduceMul, Nat.reduceLT, Nat.reduceLeDiff, Nat.reduceEqDiff, Int.reduceAdd, Int.reduceSub, Int.reduceMul, Int.reduceLE, Int.reduceLT, Int.reduceEq, Int.reduceNe, Int.reduceNeg, Int.reduceToNat, bSorted, so, if_true, sortN_eq]
        refine ⟨⟨j.n, j.m, sortN M⟩, rfl, ⟨⟨w.n0, w.n1, w.m0, w.m1, fun x hx => dn.inr x ((sortN_perm M).mem_iff.mp hx), ?_⟩, sortN_ns (so_nodup dn.so), h.n1, h.n2, h.m1, ?_⟩, ?_, rfl, rfl, bx.mono (by omega)⟩
        · exact ((sortN_perm M).pairwise_iff fun {x y} z => by
            rintro ⟨e1, e2⟩
            exact z ⟨e1.symm, e2.symm⟩).mpr dn.so
        · show (sortN M).length ≤ 200
          rw [(sortN_perm M).length_eq]
          omega
        · show (sortN M).length ≤ 160
          rw [(sortN_perm M).length_eq]
          omega
theorem Story.book {c s m : Nat} {L : List Lk} {Q E : List Int} {N : List Note} (h : Story c s L Q E N) (hc : c ≤ m) (hm : m ≤ 50) : Book (jk c s N 0) m ∧ N.length ≤ 100 := by
  have T := h.tale
  have c1 := h.c1
  have tl := T.told.len
  have sc := T.sc
  refine ⟨⟨T.jw (by omega) (by decide), T.told.so.imp fun {x y} z => ntLt_iff.mpr ?_, ?_, ?_, ?_, ?_⟩, by omega⟩
  · rcases z with z | ⟨z1, z2, z3⟩
    · exact .inl z
    · exact .inr ⟨z1, .inl ⟨z2, z3⟩⟩
  · show (1 : Int) ≤ (c : Int) + (0 : Nat); omega
  · show (c : Int) + (0 : Nat) ≤ m; omega
  · show (s : Int) < (c : Int) + (0 : Nat); omega
  · show N.length ≤ 200; omega
theorem sp_book {B : Tb} {n b k m : Nat} {S : Sto} (hT : B i__law_take = some q__law_take) (hO : B i__law_of = some q__law_of) (hM : B i__law_mates = some q__law_mates) (hS : B i__law_strewn = some q__law_strewn) (hW : B i__law_wood_v0 = some q__law_wood_v0) (hH : B i__law_shut_v1 = some q__law_shut_v1)
    (hN : B i__law_notes_v0 = some q__law_notes_v0) (hY : B i__law_story_v0 = some q__law_story_v0) (hP : B i__law_spoilt_v0 = some q__law_spoilt_v0) (hK : B i__law_book_v0 = some q__law_book_v0) (hm : 1 ≤ m) (hm2 : m ≤ 50) (hb : Bx S b (k + 11000)) :
    ∃ (j : J) (S' : Sto), callN B (n + 5) i__law_book_v0 [.loc b, .int m] S = .ok (.v (jD j)) S' ∧ Book j m ∧ j.N.length ≤ 160 ∧ Bx S' b k := by
  obtain ⟨c, s, L, Q, E, N, S1, a1, a2, a3, a4⟩ := sp_story (B := B) (n := n) (b := b) (k := k + 1000) (m := m) (S := S) hT hO hM hS hW hH hN hY hm (by omega) (hb.mono (by omega))
  have a1 : callN B (n + 4) 228 [.loc b, .int m] S = .ok (.v (.tup [.tup (Q.map D.int), .tup (E.map D.int), jD (jk c s N 0)])) S1 := by
    rw [show callN B (n + 4) 228 [.loc b, .int m] S = _ from a1]
    simp [jD, jk]
  obtain ⟨bk, nl⟩ := a3.book a2 hm2
  obtain ⟨r, S2, b1, b2, b3, b4⟩ := sp_take (n := n + 3) (m := 2) (k := k + 999) (S := S1) hT a4 (by decide) (by decide)
  have b1 : callN B (n + 4) 238 [.loc b, .int 2] S1 = .ok (.v (.int r)) S2 := b1
  by_cases hr : r = 0
  · obtain ⟨j', S3, c1, c2, c6, c3, c4, c5⟩ := sp_spoilt (n := n + 1) (b := b) (k := k) (m := m) (S := S2) hT hO hP bk (by omega) (by show N.length ≤ 150; omega) (b4.mono (by omega))
    have c1 : callN B (n + 4) 220 [.loc b, jD (jk c s N 0)] S2 = .ok (.v (jD j')) S3 := c1
    refine ⟨j', S3, eq_of_ok (ok_call (hK.trans rfl) rfl ?_), c2, c6, c5⟩
    unfold b__law_book_v0
    simp only [sv_0, sv_1, sv_2, sv_3, sv_4, sv_5, reduceIte, reduceDIte, reduceCtorEq, Nat.reduceAdd, Nat.reduceSub, Nat.reduceMul, Nat.reduceLT, Nat.reduceLeDiff, Nat.reduceEqDiff, Int.reduceAdd, Int.reduceSub, Int.reduceMul, Int.reduceLE, Int.reduceLT, Int.reduceEq, Int.reduceNe, Int.reduceNeg, Int.reduceToNat, a1, b1, hr, c1, if_true]
  · refine ⟨jk c s N 0, S2, eq_of_ok (ok_call (hK.trans rfl) rfl ?_), bk, by show N.length ≤ 160; omega, b4.mono (by omega)⟩
    unfold b__law_book_v0
    simp only [sv_0, sv_1, sv_2, sv_3, sv_4, sv_5, reduceIte, reduceDIte, reduceCtorEq, Nat.reduceAdd, Nat.reduceSub, Nat.reduceMul, Nat.reduceLT, Nat.reduceLeDiff, Nat.reduceEqDiff, Int.reduceAdd, Int.reduceSub, Int.reduceMul, Int.reduceLE, Int.reduceLT, Int.reduceEq, Int.reduceNe, Int.reduceNeg, Int.reduceToNat, a1, b1, hr, if_false]
/-- a random row -/
theorem sp_queue {B : Tb} {n b k c s : Nat} {S : Sto} (hT : B i__law_take = some q__law_take) (hS : B i__law_strewn = some q__law_strewn) (hQ : B i__law_queue = some q__law_queue) (hc : c ≤ 1000) (hs : s ≤ c) (hb : Bx S b (k + c)) :
    ∃ (l : List Int) (S' : Sto), callN B (n + 3) i__law_queue [.loc b, .int c, .int s] S = .ok (.v (.tup (l.map D.int))) S' ∧ Row c s l ∧ Bx S' b k := by
  obtain ⟨ys, S1, a1, a2, a3⟩ := sp_strewn (n := n) (d := .lst ((rng c).map D.int)) (xs := (rng c).map D.int) (k := k) (S := S) hT hS (hb.mono (by rw [List.length_map, rng_len]; omega)) (.lst _) (by rw [List.length_map, rng_len]; omega) (fit_ints _ _)
  obtain ⟨l, hp, rfl⟩ := perm_ints a2
  have a1 : callN B (n + 2) 230 [.loc b, .lst ((rng c).map D.int)] S = .ok (.o (.l (l.map D.int))) S1 := a1
  refine ⟨l.take s, S1, eq_of_ok (ok_call (hQ.trans rfl) rfl ?_), ⟨?_, fun p hp' => ?_, ?_⟩, a3⟩
  · unfold b__law_queue
    simp only [sv_0, sv_1, sv_2, sv_3, sv_4, sv_5, reduceIte, reduceDIte, reduceCtorEq, Nat.reduceAdd, Nat.reduceSub, Nat.reduceMul, Nat.reduceLT, Nat.reduceLeDiff, Nat.reduceEqDiff, Int.reduceAdd, Int.reduceSub, Int.reduceMul, Int.reduceLE, Int.reduceLT, Int.reduceEq, Int.reduceNe, Int.reduceNeg, Int.reduceToNat]
    rw [rg1_i S (by omega)]
    simp only [sv_0, sv_1, sv_2, sv_3, sv_4, sv_5, reduceIte, reduceDIte, reduceCtorEq, Nat.reduceAdd, Nat.reduceSub, Nat.reduceMul, Nat.reduceLT, Nat.reduceLeDiff, Nat.reduceEqDiff, Int.reduceAdd, Int.reduceSub, Int.reduceMul, Int.reduceLE, Int.reduceLT, Int.reduceEq, Int.reduceNe, Int.reduceNeg, Int.reduceToNat, rangeD_rng, a1, take_cut0 l _ (Int.natCast_nonneg s), Int.toNat_natCast]
  · rw [List.length_take, hp.length_eq, rng_len]
    omega
  · exact mem_rng.mp (hp.mem_iff.mp ((List.take_sublist _ _).subset hp'))
  · exact (hp.nodup_iff.mpr (rng_nodup c)).sublist (List.take_sublist _ _)
end MP

namespace K62
open PySem PySem.Spec PyProof.Rows L2 MP
def top (i : Nat) : Stmt := PySem.Challenge.pw_lastroads_k62_whole_more_notes_and_fewer.main.body.getD i (.Pass ⟨0, 0, 0, 0⟩)

def b__law_pair_right_k62 (C : Calls) : DS :=
  (dSeqS
  (dFor (dZip (fz (dCall C 435 (dCons (dVar 1) dNil))) (fz (dCall C 435 (dCons (dVar 2) dNil)))) (.tp [(.nm 4), (.nm 5)]) (dIfS (dOrT (dB (fz (dOp fLt (fz (dOp fIx (dBVar 4) (dC (.int 0)))) (fz (dOp fIx (dBVar 5) (dC (.int 0))))))) (dB (fz (dOp fGt (fz (dOp fIx (dBVar 4) (dC (.int 1)))) (fz (dOp fIx (dBVar 5) (dC (.int 1)))))))) (dRet (rv (dC (.bl false)))) dSkip))
  (dSeqS
  (dIfS (dOrT (dB (fz (dOp fGt (fz (dCall C 295 (dCons (dVar 1) dNil))) (fz (dCall C 295 (dCons (dVar 2) dNil)))))) (dB (fz (dOp fGt (fz (dCall C 296 (dCons (dVar 1) dNil))) (fz (dCall C 296 (dCons (dVar 2) dNil))))))) (dRet (rv (dC (.bl false)))) dSkip)
  (dSeqS
  (dIfS (dOrT (dAndT (dB (fz (dCall C 315 (dCons (dVar 1) dNil)))) (dNotT (dB (fz (dCall C 315 (dCons (dVar 2) dNil)))))) (dAndT (dB (fz (dOp fNotN (fz (dCall C 303 (dCons (dVar 2) dNil))) (dC .non)))) (dB (fz (dOp fIsN (fz (dCall C 303 (dCons (dVar 1) dNil))) (dC .non)))))) (dRet (rv (dC (.bl false)))) dSkip)
  (dSeqS
  (dFor (dRange1 (dC (.int 4))) (.nm 3) (dSeqS
  (dSet 6 (dCall C 140 (dCons (dVar 0) (dCons (fz (dOp fIx (dBVar 1) (dC (.int 0)))) (dCons (fz (dOp fIx (dBVar 1) (dC (.int 1)))) dNil)))))
  (dIfS (dAndT (dB (fz (dCall C 314 (dCons (dVar 1) (dCons (dVar 6) dNil))))) (dNotT (dB (fz (dCall C 314 (dCons (dVar 2) (dCons (dVar 6) dNil))))))) (dRet (rv (dC (.bl false)))) dSkip)))
  (dRet (rv (dC (.bl true))))))))
def q__law_pair_right_k62 : FD := ⟨"_law_pair_right", 3, 7, b__law_pair_right_k62⟩

def b__law_parts_right (C : Calls) : DS :=
  (dSeqS
  (dSet 2 (dCall C 238 (dCons (dVar 0) (dCons (fz (dOp fIx (dBVar 1) (dC (.int 1)))) dNil))))
  (dSeqS
  (dFor (dSeq (dTup (dCons (dC (.str "end")) (dCons (dC (.str "closed")) dNil)))) (.nm 3) (dIfS (dB (fz (dOp fEq (fz (dComp (dSeq (fz (dOp fIx (dBVar 1) (dC (.int 2))))) [5] (.nm 5) (dB (fz (dOp fEq (fz (dSl (dBVar 5) oNone (oSome (dC (.int 2))))) (dTup (dCons (dVar 2) (dCons (dVar 3) dNil)))))) (dVar 5))) (fz (dLst dNil))))) (dSeqS
  (dSet 4 (dComp (dRange1 (fz (dOp fIx (dBVar 1) (dC (.int 0))))) [6] (.nm 6) dYes (fz (dCall C 437 (dCons (dVar 1) (dCons (dTup (dCons (dVar 2) (dCons (dVar 3) (dCons (dVar 6) dNil)))) dNil))))))
  (dSeqS
  (dIfS (dB (fz (dOp fNe (fz (dBlt bSum (dCons (fz (dComp (dSeq (dBVar 4)) [7] (.nm 7) dYes (fz (dCall C 296 (dCons (dVar 7) dNil))))) dNil))) (fz (dCall C 296 (dCons (dVar 1) dNil)))))) (dRet (rv (dC (.bl false)))) dSkip)
  (dFrz 4 (dIfS (dNotT (dB (fz (dCall C 127 (dCons (dVar 0) (dCons (fz (dCall C 110 (dCons (dVar 0) (dCons (dVar 4) dNil)))) (dCons (dVar 1) dNil))))))) (dRet (rv (dC (.bl false)))) dSkip)))) dSkip))
  (dRet (rv (dC (.bl true))))))
def q__law_parts_right : FD := ⟨"_law_parts_right", 2, 8, b__law_parts_right⟩

def b__law_right_k62 (C : Calls) : DS :=
  (dSeqS
  (dSet 1 (dCall C 15 (dCons (dVar 0) (dCons (dC (.int 12)) dNil))))
  (dSeqS
  (dFor (dSeq (fz (dSl (fz (dOp fIx (dBVar 1) (dC (.int 2)))) oNone (oSome (dC (.int 5)))))) (.nm 2) (dSeqS
  (dSet 3 (dCall C 438 (dCons (dVar 1) (dCons (dVar 2) dNil))))
  (dIfS (dOrT (dB (fz (dOp fNe (fz (dCall C 437 (dCons (dVar 3) (dCons (dVar 2) dNil)))) (dBVar 1)))) (dNotT (dB (fz (dCall C 127 (dCons (dVar 0) (dCons (dVar 1) (dCons (dVar 3) dNil)))))))) (dRet (rv (dC (.bl false)))) dSkip)))
  (dRet (rv (dOr (fz (dOp fEq (fz (dOp fIx (dBVar 1) (dC (.int 1)))) (dC (.int 0)))) (fz (dCall C 130 (dCons (dVar 0) (dCons (dVar 1) dNil)))))))))
def q__law_right_k62 : FD := ⟨"_law_right", 1, 4, b__law_right_k62⟩

def b_law_k62 (C : Calls) : DS :=
  (dSeqS
  (dFor (dRange1 (dC (.int 2))) (.nm 1) (dSeqS
  (dSh 2 (dCall C 24 (dCons (dVar 0) (dCons (dVar 1) dNil))))
  (dIfS (dNotT (dB (fz (dBlt bAll (dCons (fz (dComp (dRange1 (dC (.int 1))) [3] (.nm 3) dYes (fz (dCall C 187 (dCons (dVar 2) dNil))))) dNil))))) (dRet (rv (dC (.bl false)))) dSkip)))
  (dRet (rv (dC (.bl true)))))
def q_law_k62 : FD := ⟨"law", 1, 4, b_law_k62⟩

def tbl : List (Nat × FD) := [(312, q_is_number),
  (408, q_plain),
  (399, q_noted),
  (286, q_are_towns),
  (314, q_is_order),
  (437, q_with_note),
  (438, q_without_note),
  (422, q_span),
  (317, q_is_sound),
  (295, q_count_orders),
  (393, q_lost_ways),
  (296, q_count_stories),
  (435, q_windows),
  (392, q_lost_towns),
  (284, q_are_few),
  (303, q_evidence),
  (315, q_is_possible),
  (28, q__law_cell_at),
  (24, q__law_box),
  (238, q__law_take),
  (110, q__law_of),
  (230, q__law_strewn),
  (90, q__law_mates),
  (274, q__law_wood_v0),
  (218, q__law_shut_v1),
  (107, q__law_notes_v0),
  (228, q__law_story_v0),
  (220, q__law_spoilt_v0),
  (15, q__law_book_v0),
  (140, q__law_queue),
  (127, q__law_pair_right_k62),
  (130, q__law_parts_right),
  (187, q__law_right_k62),
  (363, q_law_k62)]

def B : Tb := fun i => tbl.lookup i
abbrev T : Nat → Option (Str × Nat) := tabOf B
section
variable {P : Program} {w : World} {K : PySem.W.Frag} {mg : Str → Option Value} {base : Heap} {f : Addr} {cdv : Value} {A : Around} {outer : List Env} {s : Shared} {H : Hp} {E : XK} {n : Nat} {C : Calls}

def N_is_number : List Str := ["thing"]

theorem s_is_number : FnScope N_is_number ["thing"] (defScope (top 4)) := ⟨rfl, rfl, rfl, by decide +kernel, rfl, by decide +kernel, by decide +kernel⟩

theorem p_is_number (F : Fx P w K mg base (A.deeper (envOfC "is_number" (defScope (top 4)) s.heap.objs.size f cdv)) n T C) (m_bool : mg "bool" = none) (m_int : mg "int" = none) (m_isinstance : mg "isinstance" = none) : PSs (XF P w K mg base N_is_number "is_number" (defScope (top 4)) f cdv A outer s H E) (defBody (top 4)) (tS K (b_is_number C)) := by
  have nd := s_is_number.nd
  have u3 := units_of F.room
  have u0 : (A.deeper (envOfC "is_number" (defScope (top 4)) s.heap.objs.size f cdv)).units + 1 < cLine := by omega
  have u1 : (A.deeper (envOfC "is_number" (defScope (top 4)) s.heap.objs.size f cdv)).units + 64 < cLine := by omega
  have u2 : (A.deeper (envOfC "is_number" (defScope (top 4)) s.heap.objs.size f cdv)).units + 65 < cLine := by omega
  exact (mss_one (ms_ret (pe_vr (me_and (pe_fz (me_callB mb_isi rfl m_isinstance PyProof.Rows.boot_isinstance (mb_cons (me_bvar 0) (mb_cons (pe_vb (me_ty rfl m_int PyProof.Rows.boot_int)) mb_nil)))) (me_one (me_not (pe_fz (me_callB mb_isi rfl m_isinstance PyProof.Rows.boot_isinstance (mb_cons (me_bvar 0) (mb_cons (pe_vb (me_ty rfl m_bool PyProof.Rows.boot_bool)) mb_nil))))))))))

def N_plain : List Str := ["journal", "note"]

theorem s_plain : FnScope N_plain ["journal"] (defScope (top 6)) := ⟨rfl, rfl, rfl, by decide +kernel, rfl, by decide +kernel, by decide +kernel⟩

theorem p_plain (F : Fx P w K mg base (A.deeper (envOfC "plain" (defScope (top 6)) s.heap.objs.size f cdv)) n T C) (m_tuple : mg "tuple" = none) : PSs (XF P w K mg base N_plain "plain" (defScope (top 6)) f cdv A outer s H E) (defBody (top 6)) (tS K (b_plain C)) := by
  have nd := s_plain.nd
  have u3 := units_of F.room
  have u0 : (A.deeper (envOfC "plain" (defScope (top 6)) s.heap.objs.size f cdv)).units + 1 < cLine := by omega
  have u1 : (A.deeper (envOfC "plain" (defScope (top 6)) s.heap.objs.size f cdv)).units + 64 < cLine := by omega
  have u2 : (A.deeper (envOfC "plain" (defScope (top 6)) s.heap.objs.size f cdv)).units + 65 < cLine := by omega
  exact (mss_one (ms_ret (pe_vr (me_tup (ma_cons (pe_fz (me_ix (mo_ix u2) (me_bvar 0) (pe_vb me_int) (fun _ _ => rfl))) (ma_cons (pe_fz (me_ix (mo_ix u2) (me_bvar 0) (pe_vb me_int) (fun _ _ => rfl))) (ma_cons (pe_fz (me_callTy mb_tuple rfl m_tuple PyProof.Rows.boot_tuple (mb_cons (pe_vb (pe_fz (me_comp (own := [("note", 1)]) rfl nd (mi_seqB (pe_vb (pe_fz (me_ix (mo_ix u2) (me_bvar 0) (pe_vb me_int) (fun _ _ => rfl))))) (blk_of (by kernel_rfl)) (fun _ _ _ _ _ => (mg_name nd (i := 1) rfl (by first | exact Or.inl rfl | exact Or.inr rfl))) (fun _ _ _ _ _ => mts_nil) (fun _ _ _ _ _ => (pe_fz (me_callTy mb_tuple rfl m_tuple PyProof.Rows.boot_tuple (mb_cons (me_bvar 1) mb_nil)))) (by decide)))) mb_nil))) ma_nil)))))))

def N_noted : List Str := ["journal", "kind", "time", "other", "town"]

theorem s_noted : FnScope N_noted ["journal", "kind"] (defScope (top 7)) := ⟨rfl, rfl, rfl, by decide +kernel, rfl, by decide +kernel, by decide +kernel⟩

theorem p_noted (F : Fx P w K mg base (A.deeper (envOfC "noted" (defScope (top 7)) s.heap.objs.size f cdv)) n T C) : PSs (XF P w K mg base N_noted "noted" (defScope (top 7)) f cdv A outer s H E) (defBody (top 7)) (tS K (b_noted C)) := by
  have nd := s_noted.nd
  have u3 := units_of F.room
  have u0 : (A.deeper (envOfC "noted" (defScope (top 7)) s.heap.objs.size f cdv)).units + 1 < cLine := by omega
  have u1 : (A.deeper (envOfC "noted" (defScope (top 7)) s.heap.objs.size f cdv)).units + 64 < cLine := by omega
  have u2 : (A.deeper (envOfC "noted" (defScope (top 7)) s.heap.objs.size f cdv)).units + 65 < cLine := by omega
  exact (mss_one (ms_ret (me_comp (own := [("time", 2), ("other", 3), ("town", 4)]) rfl nd (mi_seqB (pe_vb (pe_fz (me_ix (mo_ix u2) (me_bvar 0) (pe_vb me_int) (fun _ _ => rfl))))) (blk_of (by kernel_rfl)) (fun _ _ _ _ _ => (mg_tup rfl (mgs_cons (mg_name nd (i := 2) rfl (by first | exact Or.inl rfl | exact Or.inr rfl)) (mgs_cons (mg_name nd (i := 3) rfl (by first | exact Or.inl rfl | exact Or.inr rfl)) (mgs_cons (mg_name nd (i := 4) rfl (by first | exact Or.inl rfl | exact Or.inr rfl)) mgs_nil))) rfl)) (fun _ _ _ _ _ => (mts_one (mt_cmp (mo_eq u1) (me_bvar 3) (me_bvar 1) rfl))) (fun _ _ _ _ _ => (me_tup (ma_cons (me_var 2) (ma_cons (me_var 4) ma_nil)))) (by decide))))

def N_are_towns : List Str := ["thing", "towns", "times", "town"]

theorem s_are_towns : FnScope N_are_towns ["thing", "towns", "times"] (defScope (top 8)) := ⟨rfl, rfl, rfl, by decide +kernel, rfl, by decide +kernel, by decide +kernel⟩

theorem p_are_towns (F : Fx P w K mg base (A.deeper (envOfC "are_towns" (defScope (top 8)) s.heap.objs.size f cdv)) n T C) (m_all : mg "all" = none) (m_isinstance : mg "isinstance" = none) (m_len : mg "len" = none) (m_tuple : mg "tuple" = none) : PSs (XF P w K mg base N_are_towns "are_towns" (defScope (top 8)) f cdv A outer s H E) (defBody (top 8)) (tS K (b_are_towns C)) := by
  have nd := s_are_towns.nd
  have u3 := units_of F.room
  have u0 : (A.deeper (envOfC "are_towns" (defScope (top 8)) s.heap.objs.size f cdv)).units + 1 < cLine := by omega
  have u1 : (A.deeper (envOfC "are_towns" (defScope (top 8)) s.heap.objs.size f cdv)).units + 64 < cLine := by omega
  have u2 : (A.deeper (envOfC "are_towns" (defScope (top 8)) s.heap.objs.size f cdv)).units + 65 < cLine := by omega
  exact (mss_cons
  (ms_if (PW.pt (mw_or (mt_not (mt_val (pe_fz (me_callB mb_isi rfl m_isinstance PyProof.Rows.boot_isinstance (mb_cons (me_bvar 0) (mb_cons (pe_vb (me_ty rfl m_tuple PyProof.Rows.boot_tuple)) mb_nil)))))) (mw_or1 (mt_cmp (mo_ne u1) (pe_vb (pe_fz (me_callB mb_len rfl m_len boot_len (mb_cons (me_bvar 0) mb_nil)))) (me_bvar 2) rfl)))) (mss_one (ms_ret (pe_vr me_bl))) mss_nil)
  (mss_one (ms_ret (me_callB (mb_all rfl) rfl m_all PyProof.Rows.boot_all (mb_cons (pe_vb (pe_fz (me_comp (own := [("town", 3)]) rfl nd (mi_seqB (me_bvar 0)) (blk_of (by kernel_rfl)) (fun _ _ _ _ _ => (mg_name nd (i := 3) rfl (by first | exact Or.inl rfl | exact Or.inr rfl))) (fun _ _ _ _ _ => mts_nil) (fun _ _ _ _ _ => (me_and (pe_fz (me_call F 312 rfl rfl (ma_cons (me_var 3) ma_nil))) (me_one (me_chain (mo_le u3) (mo_lt u3) (pe_vb me_int) (me_bvar 3) (me_bvar 1))))) (by decide)))) mb_nil)))))

def N_is_order : List Str := ["journal", "thing", "time", "end", "town"]

theorem s_is_order : FnScope N_is_order ["journal", "thing"] (defScope (top 9)) := ⟨rfl, rfl, rfl, by decide +kernel, rfl, by decide +kernel, by decide +kernel⟩

theorem p_is_order (F : Fx P w K mg base (A.deeper (envOfC "is_order" (defScope (top 9)) s.heap.objs.size f cdv)) n T C) (m_all : mg "all" = none) (m_len : mg "len" = none) (m_set : mg "set" = none) : PSs (XF P w K mg base N_is_order "is_order" (defScope (top 9)) f cdv A outer s H E) (defBody (top 9)) (tS K (b_is_order C)) := by
  have nd := s_is_order.nd
  have u3 := units_of F.room
  have u0 : (A.deeper (envOfC "is_order" (defScope (top 9)) s.heap.objs.size f cdv)).units + 1 < cLine := by omega
  have u1 : (A.deeper (envOfC "is_order" (defScope (top 9)) s.heap.objs.size f cdv)).units + 64 < cLine := by omega
  have u2 : (A.deeper (envOfC "is_order" (defScope (top 9)) s.heap.objs.size f cdv)).units + 65 < cLine := by omega
  exact (mss_cons
  (ms_if (PW.pt (mw_or (mt_not (mt_val (pe_fz (me_call F 286 rfl rfl (ma_cons (me_var 1) (ma_cons (pe_fz (me_ix (mo_ix u2) (me_bvar 0) (pe_vb me_int) (fun _ _ => rfl))) (ma_cons (pe_fz (me_ix (mo_ix u2) (me_bvar 0) (pe_vb me_int) (fun _ _ => rfl))) ma_nil))))))) (mw_or1 (mt_cmp (mo_ne u1) (pe_vb (pe_fz (me_lenSet rfl rfl m_len rfl m_set (me_bvar 1)))) (pe_vb (pe_fz (me_ix (mo_ix u2) (me_bvar 0) (pe_vb me_int) (fun _ _ => rfl)))) rfl)))) (mss_one (ms_ret (pe_vr me_bl))) mss_nil)
  (mss_cons
  (ms_if (mt_not (mt_val (pe_fz (me_callB (mb_all rfl) rfl m_all PyProof.Rows.boot_all (mb_cons (pe_vb (pe_fz (me_comp (own := [("time", 2), ("town", 4)]) rfl nd (mi_seqB (pe_vb (pe_fz (me_call F 399 rfl rfl (ma_cons (me_var 0) (ma_cons me_str ma_nil)))))) (blk_of (by kernel_rfl)) (fun _ _ _ _ _ => (mg_tup rfl (mgs_cons (mg_name nd (i := 2) rfl (by first | exact Or.inl rfl | exact Or.inr rfl)) (mgs_cons (mg_name nd (i := 4) rfl (by first | exact Or.inl rfl | exact Or.inr rfl)) mgs_nil)) rfl)) (fun _ _ _ _ _ => mts_nil) (fun _ _ _ _ _ => (pe_fz (me_cmp (mo_eq u1) (pe_vb (pe_fz (me_ix (mo_ix u2) (me_bvar 1) (me_bvar 2) (fun _ _ => rfl)))) (me_bvar 4) rfl))) (by decide)))) mb_nil))))) (mss_one (ms_ret (pe_vr me_bl))) mss_nil)
  (mss_one (ms_ret (me_callB (mb_all rfl) rfl m_all PyProof.Rows.boot_all (mb_cons (pe_vb (pe_fz (me_comp (own := [("time", 2), ("end", 3)]) rfl nd (mi_seqB (pe_vb (pe_fz (me_call F 399 rfl rfl (ma_cons (me_var 0) (ma_cons me_str ma_nil)))))) (blk_of (by kernel_rfl)) (fun _ _ _ _ _ => (mg_tup rfl (mgs_cons (mg_name nd (i := 2) rfl (by first | exact Or.inl rfl | exact Or.inr rfl)) (mgs_cons (mg_name nd (i := 3) rfl (by first | exact Or.inl rfl | exact Or.inr rfl)) mgs_nil)) rfl)) (fun _ _ _ _ _ => mts_nil) (fun _ _ _ _ _ => (pe_fz (me_cmp (mo_notIn u2) (me_bvar 3) (pe_vb (pe_fz (me_sl (me_bvar 1) mp_none (mp_some (pe_fz (me_op mo_add (me_bvar 2) (pe_vb me_int))))))) rfl))) (by decide)))) mb_nil))))))

def N_with_note : List Str := ["journal", "note", "other", "towns", "times", "notes"]

theorem s_with_note : FnScope N_with_note ["journal", "note"] (defScope (top 10)) := ⟨rfl, rfl, rfl, by decide +kernel, rfl, by decide +kernel, by decide +kernel⟩

theorem p_with_note (F : Fx P w K mg base (A.deeper (envOfC "with_note" (defScope (top 10)) s.heap.objs.size f cdv)) n T C) (m_sorted : mg "sorted" = none) (m_tuple : mg "tuple" = none) : PSs (XF P w K mg base N_with_note "with_note" (defScope (top 10)) f cdv A outer s H E) (defBody (top 10)) (tS K (b_with_note C)) := by
  have nd := s_with_note.nd
  have u3 := units_of F.room
  have u0 : (A.deeper (envOfC "with_note" (defScope (top 10)) s.heap.objs.size f cdv)).units + 1 < cLine := by omega
  have u1 : (A.deeper (envOfC "with_note" (defScope (top 10)) s.heap.objs.size f cdv)).units + 64 < cLine := by omega
  have u2 : (A.deeper (envOfC "with_note" (defScope (top 10)) s.heap.objs.size f cdv)).units + 65 < cLine := by omega
  exact (mss_cons
  (ms_unp (pe_fz (me_call F 408 rfl rfl (ma_cons (me_var 0) ma_nil))) (mg_tup rfl (mgs_cons (mg_name nd (i := 3) rfl (by first | exact Or.inl rfl | exact Or.inr rfl)) (mgs_cons (mg_name nd (i := 4) rfl (by first | exact Or.inl rfl | exact Or.inr rfl)) (mgs_cons (mg_name nd (i := 5) rfl (by first | exact Or.inl rfl | exact Or.inr rfl)) mgs_nil))) rfl))
  (mss_cons
  (ms_for po_nox rfl (mi_seq (me_var 5)) (mg_name nd (i := 2) rfl (by first | exact Or.inl rfl | exact Or.inr rfl)) (mss_one (ms_if (mt_cmp (mo_eq u1) (pe_vb (pe_fz (me_sl (me_bvar 2) mp_none (mp_some me_int)))) (pe_vb (pe_fz (me_sl (pe_vb (pe_fz (me_callTy mb_tuple rfl m_tuple PyProof.Rows.boot_tuple (mb_cons (me_bvar 1) mb_nil)))) mp_none (mp_some me_int)))) rfl) (mss_one ms_never) mss_nil)))
  (mss_one (ms_ret (pe_vr (me_tup (ma_cons (me_var 3) (ma_cons (me_var 4) (ma_cons (pe_fz (me_callTy mb_tuple rfl m_tuple PyProof.Rows.boot_tuple (mb_cons (pe_vb (pe_fz (me_callB (mb_sorted u3) rfl m_sorted PyProof.Rows.boot_sorted (mb_cons (pe_vb (pe_fz (me_op mo_add (me_bvar 5) (pe_vb (me_tup (ma_cons (pe_fz (me_callTy mb_tuple rfl m_tuple PyProof.Rows.boot_tuple (mb_cons (me_bvar 1) mb_nil))) ma_nil)))))) mb_nil)))) mb_nil))) ma_nil)))))))))

def N_without_note : List Str := ["journal", "note", "towns", "times", "notes", "other"]

theorem s_without_note : FnScope N_without_note ["journal", "note"] (defScope (top 11)) := ⟨rfl, rfl, rfl, by decide +kernel, rfl, by decide +kernel, by decide +kernel⟩

theorem p_without_note (F : Fx P w K mg base (A.deeper (envOfC "without_note" (defScope (top 11)) s.heap.objs.size f cdv)) n T C) (m_tuple : mg "tuple" = none) : PSs (XF P w K mg base N_without_note "without_note" (defScope (top 11)) f cdv A outer s H E) (defBody (top 11)) (tS K (b_without_note C)) := by
  have nd := s_without_note.nd
  have u3 := units_of F.room
  have u0 : (A.deeper (envOfC "without_note" (defScope (top 11)) s.heap.objs.size f cdv)).units + 1 < cLine := by omega
  have u1 : (A.deeper (envOfC "without_note" (defScope (top 11)) s.heap.objs.size f cdv)).units + 64 < cLine := by omega
  have u2 : (A.deeper (envOfC "without_note" (defScope (top 11)) s.heap.objs.size f cdv)).units + 65 < cLine := by omega
  exact (mss_cons
  (ms_unp (pe_fz (me_call F 408 rfl rfl (ma_cons (me_var 0) ma_nil))) (mg_tup rfl (mgs_cons (mg_name nd (i := 2) rfl (by first | exact Or.inl rfl | exact Or.inr rfl)) (mgs_cons (mg_name nd (i := 3) rfl (by first | exact Or.inl rfl | exact Or.inr rfl)) (mgs_cons (mg_name nd (i := 4) rfl (by first | exact Or.inl rfl | exact Or.inr rfl)) mgs_nil))) rfl))
  (mss_cons
  (ms_if (mt_cmp (mo_notIn u2) (pe_vb (pe_fz (me_callTy mb_tuple rfl m_tuple PyProof.Rows.boot_tuple (mb_cons (me_bvar 1) mb_nil)))) (me_bvar 4) rfl) (mss_one ms_never) mss_nil)
  (mss_one (ms_ret (pe_vr (me_tup (ma_cons (me_var 2) (ma_cons (me_var 3) (ma_cons (pe_fz (me_callTy mb_tuple rfl m_tuple PyProof.Rows.boot_tuple (mb_cons (pe_vb (pe_fz (me_comp (own := [("other", 5)]) rfl nd (mi_seqB (me_bvar 4)) (blk_of (by kernel_rfl)) (fun _ _ _ _ _ => (mg_name nd (i := 5) rfl (by first | exact Or.inl rfl | exact Or.inr rfl))) (fun _ _ _ _ _ => (mts_one (mt_cmp (mo_ne u1) (me_bvar 5) (pe_vb (pe_fz (me_callTy mb_tuple rfl m_tuple PyProof.Rows.boot_tuple (mb_cons (me_bvar 1) mb_nil)))) rfl))) (fun _ _ _ _ _ => (me_var 5)) (by decide)))) mb_nil))) ma_nil)))))))))

def N_span : List Str := ["journal", "town", "came", "first", "time", "other"]

theorem s_span : FnScope N_span ["journal", "town"] (defScope (top 13)) := ⟨rfl, rfl, rfl, by decide +kernel, rfl, by decide +kernel, by decide +kernel⟩

theorem p_span (F : Fx P w K mg base (A.deeper (envOfC "span" (defScope (top 13)) s.heap.objs.size f cdv)) n T C) (m_max : mg "max" = none) (m_min : mg "min" = none) : PSs (XF P w K mg base N_span "span" (defScope (top 13)) f cdv A outer s H E) (defBody (top 13)) (tS K (b_span C)) := by
  have nd := s_span.nd
  have u3 := units_of F.room
  have u0 : (A.deeper (envOfC "span" (defScope (top 13)) s.heap.objs.size f cdv)).units + 1 < cLine := by omega
  have u1 : (A.deeper (envOfC "span" (defScope (top 13)) s.heap.objs.size f cdv)).units + 64 < cLine := by omega
  have u2 : (A.deeper (envOfC "span" (defScope (top 13)) s.heap.objs.size f cdv)).units + 65 < cLine := by omega
  exact (mss_cons
  (ms_setLc (i := 2) (own := [("time", 4), ("other", 5)]) rfl nd rfl rfl rfl (mi_seqB (pe_vb (pe_fz (me_call F 399 rfl rfl (ma_cons (me_var 0) (ma_cons me_str ma_nil)))))) (blk_of (by kernel_rfl)) (fun _ _ _ _ _ => (mg_tup rfl (mgs_cons (mg_name nd (i := 4) rfl (by first | exact Or.inl rfl | exact Or.inr rfl)) (mgs_cons (mg_name nd (i := 5) rfl (by first | exact Or.inl rfl | exact Or.inr rfl)) mgs_nil)) rfl)) (fun _ _ _ _ _ => (mts_one (mt_cmp (mo_eq u1) (me_bvar 5) (me_bvar 1) rfl))) (fun _ _ _ _ _ => (me_var 4)) (by decide))
  (mss_cons
  (ms_set nd (i := 3) rfl (by first | exact Or.inl rfl | exact Or.inr rfl) (pe_vr (me_maxD rfl rfl m_max (pe_vb (pe_fz (me_op mo_add (pe_vb (pe_fz (me_comp (own := [("time", 4), ("other", 5)]) rfl nd (mi_seqB (pe_vb (pe_fz (me_call F 399 rfl rfl (ma_cons (me_var 0) (ma_cons me_str ma_nil)))))) (blk_of (by kernel_rfl)) (fun _ _ _ _ _ => (mg_tup rfl (mgs_cons (mg_name nd (i := 4) rfl (by first | exact Or.inl rfl | exact Or.inr rfl)) (mgs_cons (mg_name nd (i := 5) rfl (by first | exact Or.inl rfl | exact Or.inr rfl)) mgs_nil)) rfl)) (fun _ _ _ _ _ => (mts_one (mt_cmp (mo_eq u1) (me_bvar 5) (me_bvar 1) rfl))) (fun _ _ _ _ _ => (pe_fz (me_op mo_add (me_bvar 4) (pe_vb me_int)))) (by decide)))) (me_bvar 2)))) me_int)))
  (mss_one (ms_ret (pe_vr (me_tup (ma_cons (me_var 3) (ma_cons (me_minD rfl rfl m_min (me_bvar 2) (pe_fz (me_op mo_sub (pe_vb (pe_fz (me_ix (mo_ix u2) (me_bvar 0) (pe_vb me_int) (fun _ _ => rfl)))) (pe_vb me_int)))) ma_nil))))))))

def N_is_sound : List Str := ["journal", "time", "town"]

theorem s_is_sound : FnScope N_is_sound ["journal"] (defScope (top 14)) := ⟨rfl, rfl, rfl, by decide +kernel, rfl, by decide +kernel, by decide +kernel⟩

theorem p_is_sound (F : Fx P w K mg base (A.deeper (envOfC "is_sound" (defScope (top 14)) s.heap.objs.size f cdv)) n T C) (m_all : mg "all" = none) : PSs (XF P w K mg base N_is_sound "is_sound" (defScope (top 14)) f cdv A outer s H E) (defBody (top 14)) (tS K (b_is_sound C)) := by
  have nd := s_is_sound.nd
  have u3 := units_of F.room
  have u0 : (A.deeper (envOfC "is_sound" (defScope (top 14)) s.heap.objs.size f cdv)).units + 1 < cLine := by omega
  have u1 : (A.deeper (envOfC "is_sound" (defScope (top 14)) s.heap.objs.size f cdv)).units + 64 < cLine := by omega
  have u2 : (A.deeper (envOfC "is_sound" (defScope (top 14)) s.heap.objs.size f cdv)).units + 65 < cLine := by omega
  exact (mss_one (ms_ret (me_callB (mb_all rfl) rfl m_all PyProof.Rows.boot_all (mb_cons (pe_vb (pe_fz (me_comp (own := [("time", 1), ("town", 2)]) rfl nd (mi_seqB (pe_vb (pe_fz (me_call F 399 rfl rfl (ma_cons (me_var 0) (ma_cons me_str ma_nil)))))) (blk_of (by kernel_rfl)) (fun _ _ _ _ _ => (mg_tup rfl (mgs_cons (mg_name nd (i := 1) rfl (by first | exact Or.inl rfl | exact Or.inr rfl)) (mgs_cons (mg_name nd (i := 2) rfl (by first | exact Or.inl rfl | exact Or.inr rfl)) mgs_nil)) rfl)) (fun _ _ _ _ _ => mts_nil) (fun _ _ _ _ _ => (pe_fz (me_cmp (mo_eq u1) (pe_vb (pe_fz (me_call F 422 rfl rfl (ma_cons (me_var 0) (ma_cons (me_var 2) ma_nil))))) (pe_vb (me_tup (ma_cons (me_var 1) (ma_cons (me_var 1) ma_nil)))) rfl))) (by decide)))) mb_nil))))

def N_count_orders : List Str := ["journal", "taken", "fixed", "starts", "time", "found", "used", "town", "start"]

theorem s_count_orders : FnScope N_count_orders ["journal"] (defScope (top 15)) := ⟨rfl, rfl, rfl, by decide +kernel, rfl, by decide +kernel, by decide +kernel⟩

theorem p_count_orders (F : Fx P w K mg base (A.deeper (envOfC "count_orders" (defScope (top 15)) s.heap.objs.size f cdv)) n T C) (m_dict : mg "dict" = none) (m_len : mg "len" = none) (m_list : mg "list" = none) (m_max : mg "max" = none) (m_range : mg "range" = none) : PSs (XF P w K mg base N_count_orders "count_orders" (defScope (top 15)) f cdv A outer s H E) (defBody (top 15)) (tS K (b_count_orders C)) := by
  have nd := s_count_orders.nd
  have u3 := units_of F.room
  have u0 : (A.deeper (envOfC "count_orders" (defScope (top 15)) s.heap.objs.size f cdv)).units + 1 < cLine := by omega
  have u1 : (A.deeper (envOfC "count_orders" (defScope (top 15)) s.heap.objs.size f cdv)).units + 64 < cLine := by omega
  have u2 : (A.deeper (envOfC "count_orders" (defScope (top 15)) s.heap.objs.size f cdv)).units + 65 < cLine := by omega
  exact (mss_cons
  (ms_if (mt_not (mt_val (pe_fz (me_call F 317 rfl rfl (ma_cons (me_var 0) ma_nil))))) (mss_one (ms_ret (pe_vr me_int))) mss_nil)
  (mss_cons
  (ms_set nd (i := 1) rfl (by first | exact Or.inl rfl | exact Or.inr rfl) (me_callTy (mb_dict rfl) rfl m_dict PyProof.Rows.boot_dict (mb_cons (pe_vb (pe_fz (me_call F 399 rfl rfl (ma_cons (me_var 0) (ma_cons me_str ma_nil))))) mb_nil)))
  (mss_cons
  (ms_set nd (i := 2) rfl (by first | exact Or.inl rfl | exact Or.inr rfl) (me_listVals rfl rfl m_list (me_bvar 1)))
  (mss_cons
  (ms_setLc (i := 3) (own := [("town", 7)]) rfl nd rfl rfl rfl (pi_fb (mi_range1 rfl m_range (pe_fz (me_ix (mo_ix u2) (me_bvar 0) (pe_vb me_int) (fun _ _ => rfl))))) (blk_of (by kernel_rfl)) (fun _ _ _ _ _ => (mg_name nd (i := 7) rfl (by first | exact Or.inl rfl | exact Or.inr rfl))) (fun _ _ _ _ _ => (mts_one (mt_cmp (mo_notIn u2) (me_bvar 7) (me_bvar 2) rfl))) (fun _ _ _ _ _ => (pe_fz (me_ix (mo_ix u2) (pe_vb (pe_fz (me_call F 422 rfl rfl (ma_cons (me_var 0) (ma_cons (me_var 7) ma_nil))))) (pe_vb me_int) (fun _ _ => rfl)))) (by decide))
  (mss_cons
  (ms_unp (me_tup (ma_cons me_int (ma_cons me_int ma_nil))) (mg_tup rfl (mgs_cons (mg_name nd (i := 5) rfl (by first | exact Or.inl rfl | exact Or.inr rfl)) (mgs_cons (mg_name nd (i := 6) rfl (by first | exact Or.inl rfl | exact Or.inr rfl)) mgs_nil)) rfl))
  (mss_cons
  (ms_for po_nox rfl (mi_range1 rfl m_range (pe_fz (me_ix (mo_ix u2) (me_bvar 0) (pe_vb me_int) (fun _ _ => rfl)))) (mg_name nd (i := 4) rfl (by first | exact Or.inl rfl | exact Or.inr rfl)) (mss_one (ms_if (mt_cmp (mo_notIn u2) (me_bvar 4) (me_bvar 1) rfl) (mss_cons
  (ms_aug nd (i := 5) rfl (by first | exact Or.inl rfl | exact Or.inr rfl) (pe_vb (pe_fz (me_callB (mb_max2 rfl) rfl m_max PyProof.Rows.boot_max (mb_cons (pe_vb me_int) (mb_cons (pe_vb (pe_fz (me_op mo_sub (pe_vb (pe_fz (me_callB mb_len rfl m_len boot_len (mb_cons (pe_vb (pe_fz (me_comp (own := [("start", 8)]) rfl nd (mi_seqB (me_bvar 3)) (blk_of (by kernel_rfl)) (fun _ _ _ _ _ => (mg_name nd (i := 8) rfl (by first | exact Or.inl rfl | exact Or.inr rfl))) (fun _ _ _ _ _ => (mts_one (mt_cmp (mo_le u3) (me_bvar 8) (me_bvar 4) rfl))) (fun _ _ _ _ _ => (me_var 8)) (by decide)))) mb_nil)))) (me_bvar 6)))) mb_nil))))) mo_imul)
  (mss_one (ms_aug nd (i := 6) rfl (by first | exact Or.inl rfl | exact Or.inr rfl) (pe_vb me_int) mo_iadd))) mss_nil)))
  (mss_one (ms_retMv 5))))))))

def N_lost_ways : List Str := ["journal", "time", "known", "found"]

theorem s_lost_ways : FnScope N_lost_ways ["journal"] (defScope (top 16)) := ⟨rfl, rfl, rfl, by decide +kernel, rfl, by decide +kernel, by decide +kernel⟩

theorem p_lost_ways (F : Fx P w K mg base (A.deeper (envOfC "lost_ways" (defScope (top 16)) s.heap.objs.size f cdv)) n T C) (m_dict : mg "dict" = none) (m_range : mg "range" = none) : PSs (XF P w K mg base N_lost_ways "lost_ways" (defScope (top 16)) f cdv A outer s H E) (defBody (top 16)) (tS K (b_lost_ways C)) := by
  have nd := s_lost_ways.nd
  have u3 := units_of F.room
  have u0 : (A.deeper (envOfC "lost_ways" (defScope (top 16)) s.heap.objs.size f cdv)).units + 1 < cLine := by omega
  have u1 : (A.deeper (envOfC "lost_ways" (defScope (top 16)) s.heap.objs.size f cdv)).units + 64 < cLine := by omega
  have u2 : (A.deeper (envOfC "lost_ways" (defScope (top 16)) s.heap.objs.size f cdv)).units + 65 < cLine := by omega
  exact (mss_cons
  (ms_par2 (i := 2) (j := 3) rfl nd rfl rfl (by decide) rfl rfl (mr_cons (me_callTy (mb_dict rfl) rfl m_dict PyProof.Rows.boot_dict (mb_cons (pe_vb (pe_fz (me_call F 399 rfl rfl (ma_cons (me_var 0) (ma_cons me_str ma_nil))))) mb_nil)) (mr_cons (pe_vr me_int) mr_nil)) rfl)
  (mss_cons
  (ms_for po_nox rfl (mi_range1 rfl m_range (pe_fz (me_ix (mo_ix u2) (me_bvar 0) (pe_vb me_int) (fun _ _ => rfl)))) (mg_name nd (i := 1) rfl (by first | exact Or.inl rfl | exact Or.inr rfl)) (mss_one (ms_if (mt_cmp (mo_notIn u2) (me_bvar 1) (me_bvar 2) rfl) (mss_one (ms_aug nd (i := 3) rfl (by first | exact Or.inl rfl | exact Or.inr rfl) (pe_vb (pe_fz (me_op mo_sub (pe_vb (pe_fz (me_op mo_sub (pe_vb (pe_fz (me_ix (mo_ix u2) (me_bvar 0) (pe_vb me_int) (fun _ _ => rfl)))) (pe_vb me_int)))) (me_bvar 1)))) mo_imul)) mss_nil)))
  (mss_one (ms_retMv 3))))

def N_count_stories : List Str := ["journal"]

theorem s_count_stories : FnScope N_count_stories ["journal"] (defScope (top 17)) := ⟨rfl, rfl, rfl, by decide +kernel, rfl, by decide +kernel, by decide +kernel⟩

theorem p_count_stories (F : Fx P w K mg base (A.deeper (envOfC "count_stories" (defScope (top 17)) s.heap.objs.size f cdv)) n T C) : PSs (XF P w K mg base N_count_stories "count_stories" (defScope (top 17)) f cdv A outer s H E) (defBody (top 17)) (tS K (b_count_stories C)) := by
  have nd := s_count_stories.nd
  have u3 := units_of F.room
  have u0 : (A.deeper (envOfC "count_stories" (defScope (top 17)) s.heap.objs.size f cdv)).units + 1 < cLine := by omega
  have u1 : (A.deeper (envOfC "count_stories" (defScope (top 17)) s.heap.objs.size f cdv)).units + 64 < cLine := by omega
  have u2 : (A.deeper (envOfC "count_stories" (defScope (top 17)) s.heap.objs.size f cdv)).units + 65 < cLine := by omega
  exact (mss_one (ms_ret (me_op mo_mul (pe_vb (pe_fz (me_call F 295 rfl rfl (ma_cons (me_var 0) ma_nil)))) (pe_vb (pe_fz (me_call F 393 rfl rfl (ma_cons (me_var 0) ma_nil)))))))

def N_windows : List Str := ["journal", "town"]

theorem s_windows : FnScope N_windows ["journal"] (defScope (top 19)) := ⟨rfl, rfl, rfl, by decide +kernel, rfl, by decide +kernel, by decide +kernel⟩

theorem p_windows (F : Fx P w K mg base (A.deeper (envOfC "windows" (defScope (top 19)) s.heap.objs.size f cdv)) n T C) (m_range : mg "range" = none) : PSs (XF P w K mg base N_windows "windows" (defScope (top 19)) f cdv A outer s H E) (defBody (top 19)) (tS K (b_windows C)) := by
  have nd := s_windows.nd
  have u3 := units_of F.room
  have u0 : (A.deeper (envOfC "windows" (defScope (top 19)) s.heap.objs.size f cdv)).units + 1 < cLine := by omega
  have u1 : (A.deeper (envOfC "windows" (defScope (top 19)) s.heap.objs.size f cdv)).units + 64 < cLine := by omega
  have u2 : (A.deeper (envOfC "windows" (defScope (top 19)) s.heap.objs.size f cdv)).units + 65 < cLine := by omega
  exact (mss_one (ms_ret (me_comp (own := [("town", 1)]) rfl nd (pi_fb (mi_range1 rfl m_range (pe_fz (me_ix (mo_ix u2) (me_bvar 0) (pe_vb me_int) (fun _ _ => rfl))))) (blk_of (by kernel_rfl)) (fun _ _ _ _ _ => (mg_name nd (i := 1) rfl (by first | exact Or.inl rfl | exact Or.inr rfl))) (fun _ _ _ _ _ => mts_nil) (fun _ _ _ _ _ => (pe_fz (me_call F 422 rfl rfl (ma_cons (me_var 0) (ma_cons (me_var 1) ma_nil))))) (by decide))))

def N_lost_towns : List Str := ["journal", "found", "time", "town"]

theorem s_lost_towns : FnScope N_lost_towns ["journal"] (defScope (top 20)) := ⟨rfl, rfl, rfl, by decide +kernel, rfl, by decide +kernel, by decide +kernel⟩

theorem p_lost_towns (F : Fx P w K mg base (A.deeper (envOfC "lost_towns" (defScope (top 20)) s.heap.objs.size f cdv)) n T C) (m_set : mg "set" = none) (m_sorted : mg "sorted" = none) : PSs (XF P w K mg base N_lost_towns "lost_towns" (defScope (top 20)) f cdv A outer s H E) (defBody (top 20)) (tS K (b_lost_towns C)) := by
  have nd := s_lost_towns.nd
  have u3 := units_of F.room
  have u0 : (A.deeper (envOfC "lost_towns" (defScope (top 20)) s.heap.objs.size f cdv)).units + 1 < cLine := by omega
  have u1 : (A.deeper (envOfC "lost_towns" (defScope (top 20)) s.heap.objs.size f cdv)).units + 64 < cLine := by omega
  have u2 : (A.deeper (envOfC "lost_towns" (defScope (top 20)) s.heap.objs.size f cdv)).units + 65 < cLine := by omega
  exact (mss_cons
  (ms_setLc (i := 1) (own := [("time", 2), ("town", 3)]) rfl nd rfl rfl rfl (mi_seqB (pe_vb (pe_fz (me_call F 399 rfl rfl (ma_cons (me_var 0) (ma_cons me_str ma_nil)))))) (blk_of (by kernel_rfl)) (fun _ _ _ _ _ => (mg_tup rfl (mgs_cons (mg_name nd (i := 2) rfl (by first | exact Or.inl rfl | exact Or.inr rfl)) (mgs_cons (mg_name nd (i := 3) rfl (by first | exact Or.inl rfl | exact Or.inr rfl)) mgs_nil)) rfl)) (fun _ _ _ _ _ => (mts_one (mt_cmp (mo_gt u3) (pe_vb (pe_fz (me_ix (mo_ix u2) (pe_vb (pe_fz (me_call F 422 rfl rfl (ma_cons (me_var 0) (ma_cons (me_var 3) ma_nil))))) (pe_vb me_int) (fun _ _ => rfl)))) (pe_vb (pe_fz (me_ix (mo_ix u2) (pe_vb (pe_fz (me_call F 422 rfl rfl (ma_cons (me_var 0) (ma_cons (me_var 3) ma_nil))))) (pe_vb me_int) (fun _ _ => rfl)))) rfl))) (fun _ _ _ _ _ => (me_var 3)) (by decide))
  (mss_one (ms_ret (me_sortSet rfl rfl m_sorted rfl m_set (me_bvar 1)))))

def N_are_few : List Str := ["journal", "time", "ready", "first", "last"]

theorem s_are_few : FnScope N_are_few ["journal", "time"] (defScope (top 21)) := ⟨rfl, rfl, rfl, by decide +kernel, rfl, by decide +kernel, by decide +kernel⟩

theorem p_are_few (F : Fx P w K mg base (A.deeper (envOfC "are_few" (defScope (top 21)) s.heap.objs.size f cdv)) n T C) (m_len : mg "len" = none) : PSs (XF P w K mg base N_are_few "are_few" (defScope (top 21)) f cdv A outer s H E) (defBody (top 21)) (tS K (b_are_few C)) := by
  have nd := s_are_few.nd
  have u3 := units_of F.room
  have u0 : (A.deeper (envOfC "are_few" (defScope (top 21)) s.heap.objs.size f cdv)).units + 1 < cLine := by omega
  have u1 : (A.deeper (envOfC "are_few" (defScope (top 21)) s.heap.objs.size f cdv)).units + 64 < cLine := by omega
  have u2 : (A.deeper (envOfC "are_few" (defScope (top 21)) s.heap.objs.size f cdv)).units + 65 < cLine := by omega
  exact (mss_cons
  (ms_setLc (i := 2) (own := [("first", 3), ("last", 4)]) rfl nd rfl rfl rfl (mi_seqB (pe_vb (pe_fz (me_call F 435 rfl rfl (ma_cons (me_var 0) ma_nil))))) (blk_of (by kernel_rfl)) (fun _ _ _ _ _ => (mg_tup rfl (mgs_cons (mg_name nd (i := 3) rfl (by first | exact Or.inl rfl | exact Or.inr rfl)) (mgs_cons (mg_name nd (i := 4) rfl (by first | exact Or.inl rfl | exact Or.inr rfl)) mgs_nil)) rfl)) (fun _ _ _ _ _ => (mts_one (PW.pt (mw_and (mt_cmp (mo_le u3) (me_bvar 3) (me_bvar 4) rfl) (mw_and1 (mt_cmp (mo_le u3) (me_bvar 3) (me_bvar 1) rfl)))))) (fun _ _ _ _ _ => (me_var 3)) (by decide))
  (mss_one (ms_ret (me_cmp (mo_le u3) (pe_vb (pe_fz (me_callB mb_len rfl m_len boot_len (mb_cons (me_bvar 2) mb_nil)))) (me_bvar 1) rfl))))

def N_evidence : List Str := ["journal", "lost", "few", "time"]

theorem s_evidence : FnScope N_evidence ["journal"] (defScope (top 22)) := ⟨rfl, rfl, rfl, by decide +kernel, rfl, by decide +kernel, by decide +kernel⟩

theorem p_evidence (F : Fx P w K mg base (A.deeper (envOfC "evidence" (defScope (top 22)) s.heap.objs.size f cdv)) n T C) (m_len : mg "len" = none) (m_range : mg "range" = none) : PSs (XF P w K mg base N_evidence "evidence" (defScope (top 22)) f cdv A outer s H E) (defBody (top 22)) (tS K (b_evidence C)) := by
  have nd := s_evidence.nd
  have u3 := units_of F.room
  have u0 : (A.deeper (envOfC "evidence" (defScope (top 22)) s.heap.objs.size f cdv)).units + 1 < cLine := by omega
  have u1 : (A.deeper (envOfC "evidence" (defScope (top 22)) s.heap.objs.size f cdv)).units + 64 < cLine := by omega
  have u2 : (A.deeper (envOfC "evidence" (defScope (top 22)) s.heap.objs.size f cdv)).units + 65 < cLine := by omega
  exact (mss_cons
  (ms_set nd (i := 1) rfl (by first | exact Or.inl rfl | exact Or.inr rfl) (me_call F 392 rfl rfl (ma_cons (me_var 0) ma_nil)))
  (mss_cons
  (ms_if (mt_cmp (mo_gt u3) (pe_vb (pe_fz (me_callB mb_len rfl m_len boot_len (mb_cons (me_bvar 1) mb_nil)))) (pe_vb me_int) rfl) (mss_one (ms_ret (pe_vr (me_tup (ma_cons me_str (ma_cons (pe_fz (me_ix (mo_ix u2) (me_bvar 1) (pe_vb me_int) (fun _ _ => rfl))) ma_nil)))))) mss_nil)
  (mss_cons
  (ms_setLc (i := 2) (own := [("time", 3)]) rfl nd rfl rfl rfl (pi_fb (mi_range1 rfl m_range (pe_fz (me_ix (mo_ix u2) (me_bvar 0) (pe_vb me_int) (fun _ _ => rfl))))) (blk_of (by kernel_rfl)) (fun _ _ _ _ _ => (mg_name nd (i := 3) rfl (by first | exact Or.inl rfl | exact Or.inr rfl))) (fun _ _ _ _ _ => (mts_one (mt_val (pe_fz (me_call F 284 rfl rfl (ma_cons (me_var 0) (ma_cons (me_var 3) ma_nil))))))) (fun _ _ _ _ _ => (me_var 3)) (by decide))
  (mss_one (ms_ret (me_ifR (mt_cmp (mo_gt u3) (pe_vb (pe_fz (me_callB mb_len rfl m_len boot_len (mb_cons (me_bvar 2) mb_nil)))) (pe_vb me_int) rfl) (pe_vr (me_tup (ma_cons me_str (ma_cons (pe_fz (me_ix (mo_ix u2) (me_bvar 2) (pe_vb me_int) (fun _ _ => rfl))) ma_nil)))) (pe_vr me_non)))))))

def N_is_possible : List Str := ["journal"]

theorem s_is_possible : FnScope N_is_possible ["journal"] (defScope (top 23)) := ⟨rfl, rfl, rfl, by decide +kernel, rfl, by decide +kernel, by decide +kernel⟩

theorem p_is_possible (F : Fx P w K mg base (A.deeper (envOfC "is_possible" (defScope (top 23)) s.heap.objs.size f cdv)) n T C) : PSs (XF P w K mg base N_is_possible "is_possible" (defScope (top 23)) f cdv A outer s H E) (defBody (top 23)) (tS K (b_is_possible C)) := by
  have nd := s_is_possible.nd
  have u3 := units_of F.room
  have u0 : (A.deeper (envOfC "is_possible" (defScope (top 23)) s.heap.objs.size f cdv)).units + 1 < cLine := by omega
  have u1 : (A.deeper (envOfC "is_possible" (defScope (top 23)) s.heap.objs.size f cdv)).units + 64 < cLine := by omega
  have u2 : (A.deeper (envOfC "is_possible" (defScope (top 23)) s.heap.objs.size f cdv)).units + 65 < cLine := by omega
  exact (mss_one (ms_ret (me_cmp (mo_gt u3) (pe_vb (pe_fz (me_call F 295 rfl rfl (ma_cons (me_var 0) ma_nil)))) (pe_vb me_int) rfl)))

def N__law_cell_at : List Str := ["_law_script", "_law_k"]

theorem s__law_cell_at : FnScope N__law_cell_at ["_law_script", "_law_k"] (defScope (top 25)) := ⟨rfl, rfl, rfl, by decide +kernel, rfl, by decide +kernel, by decide +kernel⟩

theorem p__law_cell_at (F : Fx P w K mg base (A.deeper (envOfC "_law_cell_at" (defScope (top 25)) s.heap.objs.size f cdv)) n T C) (m_len : mg "len" = none) : PSs (XF P w K mg base N__law_cell_at "_law_cell_at" (defScope (top 25)) f cdv A outer s H E) (defBody (top 25)) (tS K (b__law_cell_at C)) := by
  have nd := s__law_cell_at.nd
  have u3 := units_of F.room
  have u0 : (A.deeper (envOfC "_law_cell_at" (defScope (top 25)) s.heap.objs.size f cdv)).units + 1 < cLine := by omega
  have u1 : (A.deeper (envOfC "_law_cell_at" (defScope (top 25)) s.heap.objs.size f cdv)).units + 64 < cLine := by omega
  have u2 : (A.deeper (envOfC "_law_cell_at" (defScope (top 25)) s.heap.objs.size f cdv)).units + 65 < cLine := by omega
  exact (mss_cons
  (ms_if (mt_cmp (mo_lt u3) (me_bvar 1) (pe_vb (pe_fz (me_callB mb_len rfl m_len boot_len (mb_cons (me_bvar 0) mb_nil)))) rfl) (mss_one (ms_ret (me_ix (mo_ix u2) (me_bvar 0) (me_bvar 1) (fun _ _ => rfl)))) mss_nil)
  (mss_one (ms_ret (pe_vr me_int))))

def N__law_box : List Str := ["_law_script", "_law_k", "_law_core"]

theorem s__law_box : FnScope N__law_box ["_law_script", "_law_k"] (defScope (top 26)) := ⟨rfl, rfl, rfl, by decide +kernel, rfl, by decide +kernel, by decide +kernel⟩

theorem p__law_box (F : Fx P w K mg base (A.deeper (envOfC "_law_box" (defScope (top 26)) s.heap.objs.size f cdv)) n T C) (m_abs : mg "abs" = none) (m_int : mg "int" = none) : PSs (XF P w K mg base N__law_box "_law_box" (defScope (top 26)) f cdv A outer s H E) (defBody (top 26)) (tS K (b__law_box C)) := by
  have nd := s__law_box.nd
  have u3 := units_of F.room
  have u0 : (A.deeper (envOfC "_law_box" (defScope (top 26)) s.heap.objs.size f cdv)).units + 1 < cLine := by omega
  have u1 : (A.deeper (envOfC "_law_box" (defScope (top 26)) s.heap.objs.size f cdv)).units + 64 < cLine := by omega
  have u2 : (A.deeper (envOfC "_law_box" (defScope (top 26)) s.heap.objs.size f cdv)).units + 65 < cLine := by omega
  exact (mss_cons
  (ms_set nd (i := 2) rfl (by first | exact Or.inl rfl | exact Or.inr rfl) (me_call F 28 rfl rfl (ma_cons (me_var 0) (ma_cons (me_var 1) ma_nil))))
  (mss_one (ms_ret (me_lst (ma_cons (pe_fz (me_op mo_mul (pe_vb (pe_fz (me_callB mb_abs rfl m_abs PyProof.Rows.boot_abs (mb_cons (me_bvar 2) mb_nil)))) (pe_vb (pe_fz (me_callTy mb_int rfl m_int PyProof.Rows.boot_int (mb_cons (pe_vb (pe_fz (me_cmp (mo_ge u3) (pe_vb (pe_fz (me_callB mb_abs rfl m_abs PyProof.Rows.boot_abs (mb_cons (me_bvar 2) mb_nil)))) (pe_vb (pe_fz (me_op mo_pow (pe_vb me_int) (pe_vb me_int)))) rfl))) mb_nil)))))) (ma_cons (pe_fz (me_op mo_add (pe_vb (pe_fz (me_op mo_add (pe_vb (pe_fz (me_op mo_mod (me_bvar 2) (pe_vb me_int)))) (pe_vb (pe_fz (me_op mo_mul (pe_vb me_int) (me_bvar 1))))))) (pe_vb me_int))) (ma_cons me_int ma_nil)))))))

def N__law_take : List Str := ["_law_box_here", "_law_below", "_law_once", "_law_twice", "_law_found"]

theorem s__law_take : FnScope N__law_take ["_law_box_here", "_law_below"] (defScope (top 27)) := ⟨rfl, rfl, rfl, by decide +kernel, rfl, by decide +kernel, by decide +kernel⟩

theorem p__law_take (F : Fx P w K mg base (A.deeper (envOfC "_law_take" (defScope (top 27)) s.heap.objs.size f cdv)) n T C) : PSs (XF P w K mg base N__law_take "_law_take" (defScope (top 27)) f cdv A outer s H E) (defBody (top 27)) (tS K (b__law_take C)) := by
  have nd := s__law_take.nd
  have u3 := units_of F.room
  have u0 : (A.deeper (envOfC "_law_take" (defScope (top 27)) s.heap.objs.size f cdv)).units + 1 < cLine := by omega
  have u1 : (A.deeper (envOfC "_law_take" (defScope (top 27)) s.heap.objs.size f cdv)).units + 64 < cLine := by omega
  have u2 : (A.deeper (envOfC "_law_take" (defScope (top 27)) s.heap.objs.size f cdv)).units + 65 < cLine := by omega
  exact (mss_cons
  (ms_if (mt_cmp (mo_gt u3) (pe_vb (pe_fz (me_ix (mo_ix u2) (me_bvar 0) (pe_vb me_int) (fun _ _ => rfl)))) (pe_vb me_int) rfl) (mss_cons
  (ms_set nd (i := 4) rfl (by first | exact Or.inl rfl | exact Or.inr rfl) (me_op mo_mod (pe_vb (pe_fz (me_ix (mo_ix u2) (me_bvar 0) (pe_vb me_int) (fun _ _ => rfl)))) (me_bvar 1)))
  (mss_cons
  (ms_putL 0 (pe_fz (me_op mo_div (pe_vb (pe_fz (me_ix (mo_ix u2) (me_bvar 0) (pe_vb me_int) (fun _ _ => rfl)))) (me_bvar 1))) me_int)
  (mss_one (ms_retMv 4)))) mss_nil)
  (mss_cons
  (ms_if (mt_cmp (mo_gt u3) (me_bvar 1) (pe_vb (pe_fz (me_op mo_pow (pe_vb me_int) (pe_vb me_int)))) rfl) (mss_one (ms_ret (me_op mo_mod (pe_vb (pe_fz (me_op mo_add (pe_vb (pe_fz (me_call F 238 rfl rfl (ma_cons (me_var 0) (ma_cons (pe_fz (me_op mo_pow (pe_vb me_int) (pe_vb me_int))) ma_nil))))) (pe_vb (pe_fz (me_op mo_mul (pe_vb (pe_fz (me_op mo_pow (pe_vb me_int) (pe_vb me_int)))) (pe_vb (pe_fz (me_call F 238 rfl rfl (ma_cons (me_var 0) (ma_cons (pe_fz (me_op mo_add (pe_vb (pe_fz (me_op mo_div (me_bvar 1) (pe_vb (pe_fz (me_op mo_pow (pe_vb me_int) (pe_vb me_int))))))) (pe_vb me_int))) ma_nil))))))))))) (me_bvar 1)))) mss_nil)
  (mss_cons
  (ms_putL 0 (pe_fz (me_op mo_add (pe_vb (pe_fz (me_ix (mo_ix u2) (me_bvar 0) (pe_vb me_int) (fun _ _ => rfl)))) (pe_vb me_int))) me_int)
  (mss_cons
  (ms_set nd (i := 2) rfl (by first | exact Or.inl rfl | exact Or.inr rfl) (me_op mo_mod (pe_vb (pe_fz (me_op mo_mul (pe_vb (pe_fz (me_op mo_add (pe_vb (pe_fz (me_ix (mo_ix u2) (me_bvar 0) (pe_vb me_int) (fun _ _ => rfl)))) (pe_vb (pe_fz (me_op mo_mul (pe_vb me_int) (pe_vb (pe_fz (me_ix (mo_ix u2) (me_bvar 0) (pe_vb me_int) (fun _ _ => rfl)))))))))) (pe_vb (pe_fz (me_op mo_add (pe_vb me_int) (pe_vb (pe_fz (me_ix (mo_ix u2) (me_bvar 0) (pe_vb me_int) (fun _ _ => rfl)))))))))) (pe_vb me_int)))
  (mss_cons
  (ms_set nd (i := 3) rfl (by first | exact Or.inl rfl | exact Or.inr rfl) (me_op mo_mod (pe_vb (pe_fz (me_op mo_mul (pe_vb (pe_fz (me_op mo_add (pe_vb (pe_fz (me_op mo_add (me_bvar 2) (pe_vb (pe_fz (me_ix (mo_ix u2) (me_bvar 0) (pe_vb me_int) (fun _ _ => rfl))))))) (pe_vb (pe_fz (me_op mo_div (pe_vb (pe_fz (me_ix (mo_ix u2) (me_bvar 0) (pe_vb me_int) (fun _ _ => rfl)))) (pe_vb me_int))))))) (pe_vb (pe_fz (me_op mo_add (pe_vb (pe_fz (me_op mo_mod (me_bvar 2) (pe_vb me_int)))) (pe_vb me_int))))))) (pe_vb me_int)))
  (mss_one (ms_ret (me_op mo_mod (pe_vb (pe_fz (me_op mo_div (pe_vb (pe_fz (me_op mo_mod (pe_vb (pe_fz (me_op mo_add (pe_vb (pe_fz (me_op mo_mul (me_bvar 3) (pe_vb me_int)))) (me_bvar 2)))) (pe_vb me_int)))) (pe_vb me_int)))) (me_bvar 1)))))))))

def N__law_of : List Str := ["_law_box_here", "_law_some"]

theorem s__law_of : FnScope N__law_of ["_law_box_here", "_law_some"] (defScope (top 28)) := ⟨rfl, rfl, rfl, by decide +kernel, rfl, by decide +kernel, by decide +kernel⟩

theorem p__law_of (F : Fx P w K mg base (A.deeper (envOfC "_law_of" (defScope (top 28)) s.heap.objs.size f cdv)) n T C) (m_len : mg "len" = none) : PSs (XF P w K mg base N__law_of "_law_of" (defScope (top 28)) f cdv A outer s H E) (defBody (top 28)) (tS K (b__law_of C)) := by
  have nd := s__law_of.nd
  have u3 := units_of F.room
  have u0 : (A.deeper (envOfC "_law_of" (defScope (top 28)) s.heap.objs.size f cdv)).units + 1 < cLine := by omega
  have u1 : (A.deeper (envOfC "_law_of" (defScope (top 28)) s.heap.objs.size f cdv)).units + 64 < cLine := by omega
  have u2 : (A.deeper (envOfC "_law_of" (defScope (top 28)) s.heap.objs.size f cdv)).units + 65 < cLine := by omega
  exact (mss_one (ms_ret (me_ix (mo_ix u2) (me_bvar 1) (pe_vb (pe_fz (me_call F 238 rfl rfl (ma_cons (me_var 0) (ma_cons (pe_fz (me_callB mb_len rfl m_len boot_len (mb_cons (me_bvar 1) mb_nil))) ma_nil))))) (fun _ _ => rfl))))

def N__law_strewn : List Str := ["_law_box_here", "_law_some", "_law_left", "_law_found"]

theorem s__law_strewn : FnScope N__law_strewn ["_law_box_here", "_law_some"] (defScope (top 29)) := ⟨rfl, rfl, rfl, by decide +kernel, rfl, by decide +kernel, by decide +kernel⟩

theorem p__law_strewn (F : Fx P w K mg base (A.deeper (envOfC "_law_strewn" (defScope (top 29)) s.heap.objs.size f cdv)) n T C) (m_len : mg "len" = none) (m_list : mg "list" = none) : PSs (XF P w K mg base N__law_strewn "_law_strewn" (defScope (top 29)) f cdv A outer s H E) (defBody (top 29)) (tS K (b__law_strewn C)) := by
  have nd := s__law_strewn.nd
  have u3 := units_of F.room
  have u0 : (A.deeper (envOfC "_law_strewn" (defScope (top 29)) s.heap.objs.size f cdv)).units + 1 < cLine := by omega
  have u1 : (A.deeper (envOfC "_law_strewn" (defScope (top 29)) s.heap.objs.size f cdv)).units + 64 < cLine := by omega
  have u2 : (A.deeper (envOfC "_law_strewn" (defScope (top 29)) s.heap.objs.size f cdv)).units + 65 < cLine := by omega
  exact (mss_cons
  (ms_par2 (i := 2) (j := 3) rfl nd rfl rfl (by decide) rfl rfl (mr_cons (me_callTy mb_list rfl m_list PyProof.Rows.boot_list (mb_cons (me_bvar 1) mb_nil)) (mr_cons (me_lst ma_nil) mr_nil)) rfl)
  (mss_cons
  (ms_while po_nox (mt_cmp (mo_ne u1) (me_bvar 2) (pe_vb (pe_fz (me_lst ma_nil))) rfl) (mss_one (ms_appPop 3 2 (pe_fz (me_call F 238 rfl rfl (ma_cons (me_var 0) (ma_cons (pe_fz (me_callB mb_len rfl m_len boot_len (mb_cons (me_bvar 2) mb_nil))) ma_nil)))))))
  (mss_one (ms_retMv 3))))

def N__law_mates : List Str := ["_law_links", "_law_piece", "_law_a", "_law_b"]

theorem s__law_mates : FnScope N__law_mates ["_law_links", "_law_piece"] (defScope (top 30)) := ⟨rfl, rfl, rfl, by decide +kernel, rfl, by decide +kernel, by decide +kernel⟩

theorem p__law_mates (F : Fx P w K mg base (A.deeper (envOfC "_law_mates" (defScope (top 30)) s.heap.objs.size f cdv)) n T C) : PSs (XF P w K mg base N__law_mates "_law_mates" (defScope (top 30)) f cdv A outer s H E) (defBody (top 30)) (tS K (b__law_mates C)) := by
  have nd := s__law_mates.nd
  have u3 := units_of F.room
  have u0 : (A.deeper (envOfC "_law_mates" (defScope (top 30)) s.heap.objs.size f cdv)).units + 1 < cLine := by omega
  have u1 : (A.deeper (envOfC "_law_mates" (defScope (top 30)) s.heap.objs.size f cdv)).units + 64 < cLine := by omega
  have u2 : (A.deeper (envOfC "_law_mates" (defScope (top 30)) s.heap.objs.size f cdv)).units + 65 < cLine := by omega
  exact (mss_one (ms_ret (me_comp (own := [("_law_a", 2), ("_law_b", 3)]) rfl nd (mi_seqB (me_bvar 0)) (blk_of (by kernel_rfl)) (fun _ _ _ _ _ => (mg_tup rfl (mgs_cons (mg_name nd (i := 2) rfl (by first | exact Or.inl rfl | exact Or.inr rfl)) (mgs_cons (mg_name nd (i := 3) rfl (by first | exact Or.inl rfl | exact Or.inr rfl)) mgs_nil)) rfl)) (fun _ _ _ _ _ => (mts_one (mt_cmp (mo_in u2) (me_bvar 1) (pe_vb (me_tup (ma_cons (me_var 2) (ma_cons (me_var 3) ma_nil)))) rfl))) (fun _ _ _ _ _ => (me_if (mt_cmp (mo_eq u1) (me_bvar 2) (me_bvar 1) rfl) (me_var 3) (me_var 2))) (by decide))))

def N__law_wood : List Str := ["_law_box_here", "_law_count", "_law_piece", "_law_tags", "_law_links", "_law_near", "_law_back"]

theorem s__law_wood : FnScope N__law_wood ["_law_box_here", "_law_count"] (defScope (top 31)) := ⟨rfl, rfl, rfl, by decide +kernel, rfl, by decide +kernel, by decide +kernel⟩

theorem p__law_wood (F : Fx P w K mg base (A.deeper (envOfC "_law_wood" (defScope (top 31)) s.heap.objs.size f cdv)) n T C) (m_list : mg "list" = none) (m_max : mg "max" = none) (m_range : mg "range" = none) (m_sorted : mg "sorted" = none) (m_tuple : mg "tuple" = none) : PSs (XF P w K mg base N__law_wood "_law_wood" (defScope (top 31)) f cdv A outer s H E) (defBody (top 31)) (tS K (b__law_wood_v0 C)) := by
  have nd := s__law_wood.nd
  have u3 := units_of F.room
  have u0 : (A.deeper (envOfC "_law_wood" (defScope (top 31)) s.heap.objs.size f cdv)).units + 1 < cLine := by omega
  have u1 : (A.deeper (envOfC "_law_wood" (defScope (top 31)) s.heap.objs.size f cdv)).units + 64 < cLine := by omega
  have u2 : (A.deeper (envOfC "_law_wood" (defScope (top 31)) s.heap.objs.size f cdv)).units + 65 < cLine := by omega
  exact (mss_cons
  (ms_par3 (i := 3) (j := 4) (l := 5) rfl nd rfl rfl rfl (by decide) (by decide) (by decide) rfl rfl rfl (mr_cons (me_call F 230 rfl rfl (ma_cons (me_var 0) (ma_cons (pe_fz (me_listRg1 rfl rfl m_list rfl m_range (me_var 1))) ma_nil))) (mr_cons (me_lst ma_nil) (mr_cons (me_call F 238 rfl rfl (ma_cons (me_var 0) (ma_cons me_int ma_nil))) mr_nil))) rfl)
  (mss_cons
  (ms_for po_nox rfl (mi_range2 rfl m_range me_int (me_var 1)) (mg_name nd (i := 2) rfl (by first | exact Or.inl rfl | exact Or.inr rfl)) (mss_cons
  (ms_set nd (i := 6) rfl (by first | exact Or.inl rfl | exact Or.inr rfl) (me_ifR (mt_cmp (mo_gt u3) (me_bvar 5) (pe_vb me_int) rfl) (me_call F 238 rfl rfl (ma_cons (me_var 0) (ma_cons (me_var 2) ma_nil))) (me_callB (mb_max2 rfl) rfl m_max PyProof.Rows.boot_max (mb_cons (pe_vb me_int) (mb_cons (pe_vb (pe_fz (me_op mo_sub (pe_vb (pe_fz (me_op mo_sub (me_bvar 2) (pe_vb me_int)))) (pe_vb (pe_fz (me_call F 238 rfl rfl (ma_cons (me_var 0) (ma_cons me_int ma_nil)))))))) mb_nil)))))
  (mss_one (ms_app 4 (pe_fz (me_callTy mb_tuple rfl m_tuple PyProof.Rows.boot_tuple (mb_cons (pe_vb (pe_fz (me_callB (mb_sorted u3) rfl m_sorted PyProof.Rows.boot_sorted (mb_cons (pe_vb (pe_fz (me_lst (ma_cons (pe_fz (me_ix (mo_ix u2) (me_bvar 3) (me_bvar 2) (fun _ _ => rfl))) (ma_cons (pe_fz (me_ix (mo_ix u2) (me_bvar 3) (me_bvar 6) (fun _ _ => rfl))) ma_nil))))) mb_nil)))) mb_nil)))))))
  (mss_one (ms_ret (pe_vr (me_tup (ma_cons (me_var 1) (ma_cons (pe_fz (me_callTy mb_tuple rfl m_tuple PyProof.Rows.boot_tuple (mb_cons (pe_vb (pe_fz (me_callB (mb_sorted u3) rfl m_sorted PyProof.Rows.boot_sorted (mb_cons (me_bvar 4) mb_nil)))) mb_nil))) ma_nil))))))))

def N__law_shut : List Str := ["_law_box_here", "_law_wood_here", "_law_size", "_law_spot", "_law_links", "_law_queue_here", "_law_ends", "_law_some", "_law_piece", "_law_link"]

theorem s__law_shut : FnScope N__law_shut ["_law_box_here", "_law_wood_here", "_law_size"] (defScope (top 32)) := ⟨rfl, rfl, rfl, by decide +kernel, rfl, by decide +kernel, by decide +kernel⟩

theorem p__law_shut (F : Fx P w K mg base (A.deeper (envOfC "_law_shut" (defScope (top 32)) s.heap.objs.size f cdv)) n T C) (m_len : mg "len" = none) (m_list : mg "list" = none) (m_range : mg "range" = none) (m_tuple : mg "tuple" = none) : PSs (XF P w K mg base N__law_shut "_law_shut" (defScope (top 32)) f cdv A outer s H E) (defBody (top 32)) (tS K (b__law_shut_v1 C)) := by
  have nd := s__law_shut.nd
  have u3 := units_of F.room
  have u0 : (A.deeper (envOfC "_law_shut" (defScope (top 32)) s.heap.objs.size f cdv)).units + 1 < cLine := by omega
  have u1 : (A.deeper (envOfC "_law_shut" (defScope (top 32)) s.heap.objs.size f cdv)).units + 64 < cLine := by omega
  have u2 : (A.deeper (envOfC "_law_shut" (defScope (top 32)) s.heap.objs.size f cdv)).units + 65 < cLine := by omega
  exact (mss_cons
  (ms_parN rfl (mgn_cons (pg_name nd (i := 4) rfl (by first | exact Or.inl rfl | exact Or.inr rfl) (by first | exact .inl rfl | exact .inr rfl)) (mgn_cons (pg_name nd (i := 5) rfl (by first | exact Or.inl rfl | exact Or.inr rfl) (by first | exact .inl rfl | exact .inr rfl)) (mgn_cons (pg_name nd (i := 6) rfl (by first | exact Or.inl rfl | exact Or.inr rfl) (by first | exact .inl rfl | exact .inr rfl)) mgn_nil))) (mr_cons (me_callTy mb_list rfl m_list PyProof.Rows.boot_list (mb_cons (pe_vb (pe_fz (me_ix (mo_ix u2) (me_bvar 1) (pe_vb me_int) (fun _ _ => rfl)))) mb_nil)) (mr_cons (me_lst ma_nil) (mr_cons (me_lst ma_nil) mr_nil))) rfl (by decide))
  (mss_cons
  (ms_for po_nox rfl (mi_range1 rfl m_range (me_var 2)) (mg_name nd (i := 3) rfl (by first | exact Or.inl rfl | exact Or.inr rfl)) (mss_cons
  (ms_frz 4 (ms_setLc (i := 7) (own := [("_law_piece", 8)]) rfl nd rfl rfl rfl (pi_fb (mi_range1 rfl m_range (pe_fz (me_ix (mo_ix u2) (me_bvar 1) (pe_vb me_int) (fun _ _ => rfl))))) (blk_of (by kernel_rfl)) (fun _ _ _ _ _ => (mg_name nd (i := 8) rfl (by first | exact Or.inl rfl | exact Or.inr rfl))) (fun _ _ _ _ _ => (mts_one (mt_cmp (mo_eq u1) (pe_vb (pe_fz (me_callB mb_len rfl m_len boot_len (mb_cons (pe_vb (pe_fz (me_call F 90 rfl rfl (ma_cons (me_var 4) (ma_cons (me_var 8) ma_nil))))) mb_nil)))) (pe_vb me_int) rfl))) (fun _ _ _ _ _ => (me_var 8)) (by decide)))
  (mss_cons
  (ms_frz 7 (ms_app 5 (pe_fz (me_call F 110 rfl rfl (ma_cons (me_var 0) (ma_cons (me_var 7) ma_nil))))))
  (mss_cons
  (ms_frz 4 (ms_app 6 (pe_fz (me_ix (mo_ix u2) (pe_vb (pe_fz (me_call F 90 rfl rfl (ma_cons (me_var 4) (ma_cons (pe_fz (me_ix (mo_ix u2) (me_bvar 5) (pe_vb (pe_fz (me_un mo_neg (pe_vb me_int)))) (fun _ _ => rfl))) ma_nil))))) (pe_vb me_int) (fun _ _ => rfl)))))
  (mss_one (ms_set nd (i := 4) rfl (by first | exact Or.inl rfl | exact Or.inr rfl) (me_comp (own := [("_law_link", 9)]) rfl nd (mi_seqB (me_bvar 4)) (blk_of (by kernel_rfl)) (fun _ _ _ _ _ => (mg_name nd (i := 9) rfl (by first | exact Or.inl rfl | exact Or.inr rfl))) (fun _ _ _ _ _ => (mts_one (mt_cmp (mo_notIn u2) (pe_vb (pe_fz (me_ix (mo_ix u2) (me_bvar 5) (pe_vb (pe_fz (me_un mo_neg (pe_vb me_int)))) (fun _ _ => rfl)))) (me_bvar 9) rfl))) (fun _ _ _ _ _ => (me_var 9)) (by decide))))))))
  (mss_one (ms_ret (pe_vr (me_tup (ma_cons (pe_fz (me_callTy mb_tuple rfl m_tuple PyProof.Rows.boot_tuple (mb_cons (me_bvar 5) mb_nil))) (ma_cons (pe_fz (me_callTy mb_tuple rfl m_tuple PyProof.Rows.boot_tuple (mb_cons (me_bvar 6) mb_nil))) ma_nil))))))))

def N__law_notes : List Str := ["_law_box_here", "_law_queue_here", "_law_ends", "_law_spot", "_law_found", "_law_dense"]

theorem s__law_notes : FnScope N__law_notes ["_law_box_here", "_law_queue_here", "_law_ends"] (defScope (top 33)) := ⟨rfl, rfl, rfl, by decide +kernel, rfl, by decide +kernel, by decide +kernel⟩

theorem p__law_notes (F : Fx P w K mg base (A.deeper (envOfC "_law_notes" (defScope (top 33)) s.heap.objs.size f cdv)) n T C) (m_len : mg "len" = none) (m_range : mg "range" = none) (m_tuple : mg "tuple" = none) : PSs (XF P w K mg base N__law_notes "_law_notes" (defScope (top 33)) f cdv A outer s H E) (defBody (top 33)) (tS K (b__law_notes_v0 C)) := by
  have nd := s__law_notes.nd
  have u3 := units_of F.room
  have u0 : (A.deeper (envOfC "_law_notes" (defScope (top 33)) s.heap.objs.size f cdv)).units + 1 < cLine := by omega
  have u1 : (A.deeper (envOfC "_law_notes" (defScope (top 33)) s.heap.objs.size f cdv)).units + 64 < cLine := by omega
  have u2 : (A.deeper (envOfC "_law_notes" (defScope (top 33)) s.heap.objs.size f cdv)).units + 65 < cLine := by omega
  exact (mss_cons
  (ms_par2 (i := 4) (j := 5) rfl nd rfl rfl (by decide) rfl rfl (mr_cons (me_lst ma_nil) (mr_cons (me_op mo_add (pe_vb me_int) (pe_vb (pe_fz (me_call F 238 rfl rfl (ma_cons (me_var 0) (ma_cons me_int ma_nil)))))) mr_nil)) rfl)
  (mss_cons
  (ms_for po_nox rfl (mi_range1 rfl m_range (pe_fz (me_callB mb_len rfl m_len boot_len (mb_cons (me_bvar 1) mb_nil)))) (mg_name nd (i := 3) rfl (by first | exact Or.inl rfl | exact Or.inr rfl)) (mss_cons
  (ms_if (mt_cmp (mo_eq u1) (pe_vb (pe_fz (me_call F 238 rfl rfl (ma_cons (me_var 0) (ma_cons me_int ma_nil))))) (pe_vb me_int) rfl) (mss_one (ms_app 4 (me_tup (ma_cons (me_var 3) (ma_cons me_str (ma_cons (pe_fz (me_ix (mo_ix u2) (me_bvar 1) (me_bvar 3) (fun _ _ => rfl))) ma_nil)))))) mss_nil)
  (mss_one (ms_if (mt_cmp (mo_lt u3) (pe_vb (pe_fz (me_call F 238 rfl rfl (ma_cons (me_var 0) (ma_cons me_int ma_nil))))) (me_bvar 5) rfl) (mss_one (ms_app 4 (me_tup (ma_cons (me_var 3) (ma_cons me_str (ma_cons (pe_fz (me_ix (mo_ix u2) (me_bvar 2) (me_bvar 3) (fun _ _ => rfl))) ma_nil)))))) mss_nil))))
  (mss_one (ms_ret (me_callTy mb_tuple rfl m_tuple PyProof.Rows.boot_tuple (mb_cons (me_bvar 4) mb_nil))))))

def N__law_story : List Str := ["_law_box_here", "_law_most", "_law_count", "_law_size", "_law_queue_here", "_law_ends"]

theorem s__law_story : FnScope N__law_story ["_law_box_here", "_law_most"] (defScope (top 34)) := ⟨rfl, rfl, rfl, by decide +kernel, rfl, by decide +kernel, by decide +kernel⟩

theorem p__law_story (F : Fx P w K mg base (A.deeper (envOfC "_law_story" (defScope (top 34)) s.heap.objs.size f cdv)) n T C) : PSs (XF P w K mg base N__law_story "_law_story" (defScope (top 34)) f cdv A outer s H E) (defBody (top 34)) (tS K (b__law_story_v0 C)) := by
  have nd := s__law_story.nd
  have u3 := units_of F.room
  have u0 : (A.deeper (envOfC "_law_story" (defScope (top 34)) s.heap.objs.size f cdv)).units + 1 < cLine := by omega
  have u1 : (A.deeper (envOfC "_law_story" (defScope (top 34)) s.heap.objs.size f cdv)).units + 64 < cLine := by omega
  have u2 : (A.deeper (envOfC "_law_story" (defScope (top 34)) s.heap.objs.size f cdv)).units + 65 < cLine := by omega
  exact (mss_cons
  (ms_set nd (i := 2) rfl (by first | exact Or.inl rfl | exact Or.inr rfl) (me_op mo_add (pe_vb me_int) (pe_vb (pe_fz (me_call F 238 rfl rfl (ma_cons (me_var 0) (ma_cons (me_var 1) ma_nil)))))))
  (mss_cons
  (ms_set nd (i := 3) rfl (by first | exact Or.inl rfl | exact Or.inr rfl) (me_ifR (mt_cmp (mo_eq u1) (pe_vb (pe_fz (me_call F 238 rfl rfl (ma_cons (me_var 0) (ma_cons me_int ma_nil))))) (pe_vb me_int) rfl) (me_op mo_sub (me_bvar 2) (pe_vb me_int)) (me_call F 238 rfl rfl (ma_cons (me_var 0) (ma_cons (me_var 2) ma_nil)))))
  (mss_cons
  (ms_unp (pe_fz (me_call F 218 rfl rfl (ma_cons (me_var 0) (ma_cons (pe_fz (me_call F 274 rfl rfl (ma_cons (me_var 0) (ma_cons (me_var 2) ma_nil)))) (ma_cons (me_var 3) ma_nil))))) (mg_tup rfl (mgs_cons (mg_name nd (i := 4) rfl (by first | exact Or.inl rfl | exact Or.inr rfl)) (mgs_cons (mg_name nd (i := 5) rfl (by first | exact Or.inl rfl | exact Or.inr rfl)) mgs_nil)) rfl))
  (mss_one (ms_ret (pe_vr (me_tup (ma_cons (me_var 4) (ma_cons (me_var 5) (ma_cons (me_tup (ma_cons (me_var 2) (ma_cons (me_var 3) (ma_cons (pe_fz (me_call F 107 rfl rfl (ma_cons (me_var 0) (ma_cons (me_var 4) (ma_cons (me_var 5) ma_nil))))) ma_nil)))) ma_nil))))))))))

def N__law_spoilt : List Str := ["_law_box_here", "_law_book_here", "_law_found", "_law_turn", "_law_count", "_law_size", "_law_notes_here", "_law_spot", "_law_kind", "_law_value"]

theorem s__law_spoilt : FnScope N__law_spoilt ["_law_box_here", "_law_book_here"] (defScope (top 35)) := ⟨rfl, rfl, rfl, by decide +kernel, rfl, by decide +kernel, by decide +kernel⟩

theorem p__law_spoilt (F : Fx P w K mg base (A.deeper (envOfC "_law_spoilt" (defScope (top 35)) s.heap.objs.size f cdv)) n T C) (m_int : mg "int" = none) (m_range : mg "range" = none) (m_sorted : mg "sorted" = none) (m_tuple : mg "tuple" = none) : PSs (XF P w K mg base N__law_spoilt "_law_spoilt" (defScope (top 35)) f cdv A outer s H E) (defBody (top 35)) (tS K (b__law_spoilt_v0 C)) := by
  have nd := s__law_spoilt.nd
  have u3 := units_of F.room
  have u0 : (A.deeper (envOfC "_law_spoilt" (defScope (top 35)) s.heap.objs.size f cdv)).units + 1 < cLine := by omega
  have u1 : (A.deeper (envOfC "_law_spoilt" (defScope (top 35)) s.heap.objs.size f cdv)).units + 64 < cLine := by omega
  have u2 : (A.deeper (envOfC "_law_spoilt" (defScope (top 35)) s.heap.objs.size f cdv)).units + 65 < cLine := by omega
  exact (mss_cons
  (ms_unp (me_var 1) (mg_tup rfl (mgs_cons (mg_name nd (i := 4) rfl (by first | exact Or.inl rfl | exact Or.inr rfl)) (mgs_cons (mg_name nd (i := 5) rfl (by first | exact Or.inl rfl | exact Or.inr rfl)) (mgs_cons (mg_name nd (i := 6) rfl (by first | exact Or.inl rfl | exact Or.inr rfl)) mgs_nil))) rfl))
  (mss_cons
  (ms_set nd (i := 2) rfl (by first | exact Or.inl rfl | exact Or.inr rfl) me_newT)
  (mss_cons
  (ms_for po_nox rfl (mi_seq (me_var 6)) (mg_tup rfl (mgs_cons (mg_name nd (i := 7) rfl (by first | exact Or.inl rfl | exact Or.inr rfl)) (mgs_cons (mg_name nd (i := 8) rfl (by first | exact Or.inl rfl | exact Or.inr rfl)) (mgs_cons (mg_name nd (i := 9) rfl (by first | exact Or.inl rfl | exact Or.inr rfl)) mgs_nil))) rfl) (mss_one (ms_putD 2 u0 (me_var 9) (me_tup (ma_cons (me_var 7) (ma_cons (me_var 8) ma_nil))))))
  (mss_cons
  (ms_for po_nox rfl (mi_range1 rfl m_range (pe_fz (me_op mo_mul (pe_vb (pe_fz (me_op mo_add (pe_vb me_int) (pe_vb (pe_fz (me_call F 238 rfl rfl (ma_cons (me_var 0) (ma_cons me_int ma_nil)))))))) (pe_vb (pe_fz (me_callTy mb_int rfl m_int PyProof.Rows.boot_int (mb_cons (pe_vb (pe_fz (me_cmp (mo_gt u3) (me_bvar 5) (pe_vb me_int) rfl))) mb_nil))))))) (mg_name nd (i := 3) rfl (by first | exact Or.inl rfl | exact Or.inr rfl)) (mss_one (ms_putD 2 u0 (pe_fz (me_call F 238 rfl rfl (ma_cons (me_var 0) (ma_cons (me_var 4) ma_nil)))) (me_tup (ma_cons (pe_fz (me_call F 238 rfl rfl (ma_cons (me_var 0) (ma_cons (me_var 5) ma_nil)))) (ma_cons (pe_fz (me_call F 110 rfl rfl (ma_cons (me_var 0) (ma_cons (pe_fz (me_lst (ma_cons me_str (ma_cons me_str (ma_cons me_str ma_nil))))) ma_nil)))) ma_nil))))))
  (mss_one (ms_ret (pe_vr (me_tup (ma_cons (me_var 4) (ma_cons (me_var 5) (ma_cons (pe_fz (me_callTy mb_tuple rfl m_tuple PyProof.Rows.boot_tuple (mb_cons (pe_vb (pe_fz (me_callB (mb_sorted u3) rfl m_sorted PyProof.Rows.boot_sorted (mb_cons (pe_vb (pe_fz (pe_lk 2 (me_comp (own := [("_law_spot", 7), ("_law_kind", 8)]) rfl nd (mi_keys (me_bvar 2)) (blk_of (by kernel_rfl)) (fun _ _ _ _ _ => (mg_tup rfl (mgs_cons (mg_name nd (i := 7) rfl (by first | exact Or.inl rfl | exact Or.inr rfl)) (mgs_cons (mg_name nd (i := 8) rfl (by first | exact Or.inl rfl | exact Or.inr rfl)) mgs_nil)) rfl)) (fun _ _ _ _ _ => mts_nil) (fun _ _ _ _ _ => (me_tup (ma_cons (me_var 7) (ma_cons (me_var 8) (ma_cons (pe_fz (me_ix (mo_ix u2) (me_bvar 2) (pe_vb (me_tup (ma_cons (me_var 7) (ma_cons (me_var 8) ma_nil)))) (fun _ _ => rfl))) ma_nil))))) (by decide))))) mb_nil)))) mb_nil))) ma_nil)))))))))))

def N__law_book : List Str := ["_law_box_here", "_law_most", "_law_book_here"]

theorem s__law_book : FnScope N__law_book ["_law_box_here", "_law_most"] (defScope (top 36)) := ⟨rfl, rfl, rfl, by decide +kernel, rfl, by decide +kernel, by decide +kernel⟩

theorem p__law_book (F : Fx P w K mg base (A.deeper (envOfC "_law_book" (defScope (top 36)) s.heap.objs.size f cdv)) n T C) : PSs (XF P w K mg base N__law_book "_law_book" (defScope (top 36)) f cdv A outer s H E) (defBody (top 36)) (tS K (b__law_book_v0 C)) := by
  have nd := s__law_book.nd
  have u3 := units_of F.room
  have u0 : (A.deeper (envOfC "_law_book" (defScope (top 36)) s.heap.objs.size f cdv)).units + 1 < cLine := by omega
  have u1 : (A.deeper (envOfC "_law_book" (defScope (top 36)) s.heap.objs.size f cdv)).units + 64 < cLine := by omega
  have u2 : (A.deeper (envOfC "_law_book" (defScope (top 36)) s.heap.objs.size f cdv)).units + 65 < cLine := by omega
  exact (mss_cons
  (ms_set nd (i := 2) rfl (by first | exact Or.inl rfl | exact Or.inr rfl) (me_ix (mo_ix u2) (pe_vb (pe_fz (me_call F 228 rfl rfl (ma_cons (me_var 0) (ma_cons (me_var 1) ma_nil))))) (pe_vb me_int) (fun _ _ => rfl)))
  (mss_one (ms_ret (me_ifR (mt_cmp (mo_eq u1) (pe_vb (pe_fz (me_call F 238 rfl rfl (ma_cons (me_var 0) (ma_cons me_int ma_nil))))) (pe_vb me_int) rfl) (me_call F 220 rfl rfl (ma_cons (me_var 0) (ma_cons (me_var 2) ma_nil))) (pe_vr (me_var 2))))))

def N__law_queue : List Str := ["_law_box_here", "_law_count", "_law_size"]

theorem s__law_queue : FnScope N__law_queue ["_law_box_here", "_law_count", "_law_size"] (defScope (top 37)) := ⟨rfl, rfl, rfl, by decide +kernel, rfl, by decide +kernel, by decide +kernel⟩

theorem p__law_queue (F : Fx P w K mg base (A.deeper (envOfC "_law_queue" (defScope (top 37)) s.heap.objs.size f cdv)) n T C) (m_list : mg "list" = none) (m_range : mg "range" = none) (m_tuple : mg "tuple" = none) : PSs (XF P w K mg base N__law_queue "_law_queue" (defScope (top 37)) f cdv A outer s H E) (defBody (top 37)) (tS K (b__law_queue C)) := by
  have nd := s__law_queue.nd
  have u3 := units_of F.room
  have u0 : (A.deeper (envOfC "_law_queue" (defScope (top 37)) s.heap.objs.size f cdv)).units + 1 < cLine := by omega
  have u1 : (A.deeper (envOfC "_law_queue" (defScope (top 37)) s.heap.objs.size f cdv)).units + 64 < cLine := by omega
  have u2 : (A.deeper (envOfC "_law_queue" (defScope (top 37)) s.heap.objs.size f cdv)).units + 65 < cLine := by omega
  exact (mss_one (ms_ret (me_callTy mb_tuple rfl m_tuple PyProof.Rows.boot_tuple (mb_cons (pe_vb (pe_fz (me_sl (pe_vb (pe_fz (me_call F 230 rfl rfl (ma_cons (me_var 0) (ma_cons (pe_fz (me_listRg1 rfl rfl m_list rfl m_range (me_var 1))) ma_nil))))) mp_none (mp_some (me_var 2))))) mb_nil))))

def N__law_pair_right : List Str := ["_law_box_here", "_law_book_here", "_law_wide", "_law_turn", "_law_mine", "_law_its", "_law_queue_here"]

theorem s__law_pair_right : FnScope N__law_pair_right ["_law_box_here", "_law_book_here", "_law_wide"] (defScope (top 38)) := ⟨rfl, rfl, rfl, by decide +kernel, rfl, by decide +kernel, by decide +kernel⟩

theorem p__law_pair_right (F : Fx P w K mg base (A.deeper (envOfC "_law_pair_right" (defScope (top 38)) s.heap.objs.size f cdv)) n T C) (m_range : mg "range" = none) (m_zip : mg "zip" = none) : PSs (XF P w K mg base N__law_pair_right "_law_pair_right" (defScope (top 38)) f cdv A outer s H E) (defBody (top 38)) (tS K (b__law_pair_right_k62 C)) := by
  have nd := s__law_pair_right.nd
  have u3 := units_of F.room
  have u0 : (A.deeper (envOfC "_law_pair_right" (defScope (top 38)) s.heap.objs.size f cdv)).units + 1 < cLine := by omega
  have u1 : (A.deeper (envOfC "_law_pair_right" (defScope (top 38)) s.heap.objs.size f cdv)).units + 64 < cLine := by omega
  have u2 : (A.deeper (envOfC "_law_pair_right" (defScope (top 38)) s.heap.objs.size f cdv)).units + 65 < cLine := by omega
  exact (mss_cons
  (ms_for po_nox rfl (mi_zip rfl m_zip (pe_fz (me_call F 435 rfl rfl (ma_cons (me_var 1) ma_nil))) (pe_fz (me_call F 435 rfl rfl (ma_cons (me_var 2) ma_nil)))) (mg_tup rfl (mgs_cons (mg_name nd (i := 4) rfl (by first | exact Or.inl rfl | exact Or.inr rfl)) (mgs_cons (mg_name nd (i := 5) rfl (by first | exact Or.inl rfl | exact Or.inr rfl)) mgs_nil)) rfl) (mss_one (ms_if (PW.pt (mw_or (mt_cmp (mo_lt u3) (pe_vb (pe_fz (me_ix (mo_ix u2) (me_bvar 4) (pe_vb me_int) (fun _ _ => rfl)))) (pe_vb (pe_fz (me_ix (mo_ix u2) (me_bvar 5) (pe_vb me_int) (fun _ _ => rfl)))) rfl) (mw_or1 (mt_cmp (mo_gt u3) (pe_vb (pe_fz (me_ix (mo_ix u2) (me_bvar 4) (pe_vb me_int) (fun _ _ => rfl)))) (pe_vb (pe_fz (me_ix (mo_ix u2) (me_bvar 5) (pe_vb me_int) (fun _ _ => rfl)))) rfl)))) (mss_one (ms_ret (pe_vr me_bl))) mss_nil)))
  (mss_cons
  (ms_if (PW.pt (mw_or (mt_cmp (mo_gt u3) (pe_vb (pe_fz (me_call F 295 rfl rfl (ma_cons (me_var 1) ma_nil)))) (pe_vb (pe_fz (me_call F 295 rfl rfl (ma_cons (me_var 2) ma_nil)))) rfl) (mw_or1 (mt_cmp (mo_gt u3) (pe_vb (pe_fz (me_call F 296 rfl rfl (ma_cons (me_var 1) ma_nil)))) (pe_vb (pe_fz (me_call F 296 rfl rfl (ma_cons (me_var 2) ma_nil)))) rfl)))) (mss_one (ms_ret (pe_vr me_bl))) mss_nil)
  (mss_cons
  (ms_if (PW.pt (mw_or (PW.pt (mw_and (mt_val (pe_fz (me_call F 315 rfl rfl (ma_cons (me_var 1) ma_nil)))) (mw_and1 (mt_not (mt_val (pe_fz (me_call F 315 rfl rfl (ma_cons (me_var 2) ma_nil)))))))) (mw_or1 (PW.pt (mw_and (mt_cmp mo_notN (pe_vb (pe_fz (me_call F 303 rfl rfl (ma_cons (me_var 2) ma_nil)))) (pe_vb me_non) rfl) (mw_and1 (mt_cmp mo_isN (pe_vb (pe_fz (me_call F 303 rfl rfl (ma_cons (me_var 1) ma_nil)))) (pe_vb me_non) rfl))))))) (mss_one (ms_ret (pe_vr me_bl))) mss_nil)
  (mss_cons
  (ms_for po_nox rfl (mi_range1 rfl m_range me_int) (mg_name nd (i := 3) rfl (by first | exact Or.inl rfl | exact Or.inr rfl)) (mss_cons
  (ms_set nd (i := 6) rfl (by first | exact Or.inl rfl | exact Or.inr rfl) (me_call F 140 rfl rfl (ma_cons (me_var 0) (ma_cons (pe_fz (me_ix (mo_ix u2) (me_bvar 1) (pe_vb me_int) (fun _ _ => rfl))) (ma_cons (pe_fz (me_ix (mo_ix u2) (me_bvar 1) (pe_vb me_int) (fun _ _ => rfl))) ma_nil)))))
  (mss_one (ms_if (PW.pt (mw_and (mt_val (pe_fz (me_call F 314 rfl rfl (ma_cons (me_var 1) (ma_cons (me_var 6) ma_nil))))) (mw_and1 (mt_not (mt_val (pe_fz (me_call F 314 rfl rfl (ma_cons (me_var 2) (ma_cons (me_var 6) ma_nil))))))))) (mss_one (ms_ret (pe_vr me_bl))) mss_nil))))
  (mss_one (ms_ret (pe_vr me_bl)))))))

def N__law_parts_right : List Str := ["_law_box_here", "_law_book_here", "_law_spot", "_law_kind", "_law_every", "_law_its", "_law_value", "_law_some"]

theorem s__law_parts_right : FnScope N__law_parts_right ["_law_box_here", "_law_book_here"] (defScope (top 39)) := ⟨rfl, rfl, rfl, by decide +kernel, rfl, by decide +kernel, by decide +kernel⟩

theorem p__law_parts_right (F : Fx P w K mg base (A.deeper (envOfC "_law_parts_right" (defScope (top 39)) s.heap.objs.size f cdv)) n T C) (m_range : mg "range" = none) (m_sum : mg "sum" = none) : PSs (XF P w K mg base N__law_parts_right "_law_parts_right" (defScope (top 39)) f cdv A outer s H E) (defBody (top 39)) (tS K (b__law_parts_right C)) := by
  have nd := s__law_parts_right.nd
  have u3 := units_of F.room
  have u0 : (A.deeper (envOfC "_law_parts_right" (defScope (top 39)) s.heap.objs.size f cdv)).units + 1 < cLine := by omega
  have u1 : (A.deeper (envOfC "_law_parts_right" (defScope (top 39)) s.heap.objs.size f cdv)).units + 64 < cLine := by omega
  have u2 : (A.deeper (envOfC "_law_parts_right" (defScope (top 39)) s.heap.objs.size f cdv)).units + 65 < cLine := by omega
  exact (mss_cons
  (ms_set nd (i := 2) rfl (by first | exact Or.inl rfl | exact Or.inr rfl) (me_call F 238 rfl rfl (ma_cons (me_var 0) (ma_cons (pe_fz (me_ix (mo_ix u2) (me_bvar 1) (pe_vb me_int) (fun _ _ => rfl))) ma_nil))))
  (mss_cons
  (ms_for po_nox rfl (mi_seq (me_tup (ma_cons me_str (ma_cons me_str ma_nil)))) (mg_name nd (i := 3) rfl (by first | exact Or.inl rfl | exact Or.inr rfl)) (mss_one (ms_if (mt_cmp (mo_eq u1) (pe_vb (pe_fz (me_comp (own := [("_law_its", 5)]) rfl nd (mi_seqB (pe_vb (pe_fz (me_ix (mo_ix u2) (me_bvar 1) (pe_vb me_int) (fun _ _ => rfl))))) (blk_of (by kernel_rfl)) (fun _ _ _ _ _ => (mg_name nd (i := 5) rfl (by first | exact Or.inl rfl | exact Or.inr rfl))) (fun _ _ _ _ _ => (mts_one (mt_cmp (mo_eq u1) (pe_vb (pe_fz (me_sl (me_bvar 5) mp_none (mp_some me_int)))) (pe_vb (me_tup (ma_cons (me_var 2) (ma_cons (me_var 3) ma_nil)))) rfl))) (fun _ _ _ _ _ => (me_var 5)) (by decide)))) (pe_vb (pe_fz (me_lst ma_nil))) rfl) (mss_cons
  (ms_setLc (i := 4) (own := [("_law_value", 6)]) rfl nd rfl rfl rfl (pi_fb (mi_range1 rfl m_range (pe_fz (me_ix (mo_ix u2) (me_bvar 1) (pe_vb me_int) (fun _ _ => rfl))))) (blk_of (by kernel_rfl)) (fun _ _ _ _ _ => (mg_name nd (i := 6) rfl (by first | exact Or.inl rfl | exact Or.inr rfl))) (fun _ _ _ _ _ => mts_nil) (fun _ _ _ _ _ => (pe_fz (me_call F 437 rfl rfl (ma_cons (me_var 1) (ma_cons (me_tup (ma_cons (me_var 2) (ma_cons (me_var 3) (ma_cons (me_var 6) ma_nil)))) ma_nil))))) (by decide))
  (mss_cons
  (ms_if (mt_cmp (mo_ne u1) (pe_vb (pe_fz (me_callB (mb_sum rfl) rfl m_sum PyProof.Rows.boot_sum (mb_cons (pe_vb (pe_fz (me_comp (own := [("_law_some", 7)]) rfl nd (mi_seqB (me_bvar 4)) (blk_of (by kernel_rfl)) (fun _ _ _ _ _ => (mg_name nd (i := 7) rfl (by first | exact Or.inl rfl | exact Or.inr rfl))) (fun _ _ _ _ _ => mts_nil) (fun _ _ _ _ _ => (pe_fz (me_call F 296 rfl rfl (ma_cons (me_var 7) ma_nil)))) (by decide)))) mb_nil)))) (pe_vb (pe_fz (me_call F 296 rfl rfl (ma_cons (me_var 1) ma_nil)))) rfl) (mss_one (ms_ret (pe_vr me_bl))) mss_nil)
  (mss_one (ms_frz 4 (ms_if (mt_not (mt_val (pe_fz (me_call F 127 rfl rfl (ma_cons (me_var 0) (ma_cons (pe_fz (me_call F 110 rfl rfl (ma_cons (me_var 0) (ma_cons (me_var 4) ma_nil)))) (ma_cons (me_var 1) ma_nil))))))) (mss_one (ms_ret (pe_vr me_bl))) mss_nil))))) mss_nil)))
  (mss_one (ms_ret (pe_vr me_bl)))))

def N__law_right : List Str := ["_law_box_here", "_law_book_here", "_law_item", "_law_wide"]

theorem s__law_right : FnScope N__law_right ["_law_box_here"] (defScope (top 40)) := ⟨rfl, rfl, rfl, by decide +kernel, rfl, by decide +kernel, by decide +kernel⟩

theorem p__law_right (F : Fx P w K mg base (A.deeper (envOfC "_law_right" (defScope (top 40)) s.heap.objs.size f cdv)) n T C) : PSs (XF P w K mg base N__law_right "_law_right" (defScope (top 40)) f cdv A outer s H E) (defBody (top 40)) (tS K (b__law_right_k62 C)) := by
  have nd := s__law_right.nd
  have u3 := units_of F.room
  have u0 : (A.deeper (envOfC "_law_right" (defScope (top 40)) s.heap.objs.size f cdv)).units + 1 < cLine := by omega
  have u1 : (A.deeper (envOfC "_law_right" (defScope (top 40)) s.heap.objs.size f cdv)).units + 64 < cLine := by omega
  have u2 : (A.deeper (envOfC "_law_right" (defScope (top 40)) s.heap.objs.size f cdv)).units + 65 < cLine := by omega
  exact (mss_cons
  (ms_set nd (i := 1) rfl (by first | exact Or.inl rfl | exact Or.inr rfl) (me_call F 15 rfl rfl (ma_cons (me_var 0) (ma_cons me_int ma_nil))))
  (mss_cons
  (ms_for po_nox rfl (mi_seq (pe_fz (me_sl (pe_vb (pe_fz (me_ix (mo_ix u2) (me_bvar 1) (pe_vb me_int) (fun _ _ => rfl)))) mp_none (mp_some me_int)))) (mg_name nd (i := 2) rfl (by first | exact Or.inl rfl | exact Or.inr rfl)) (mss_cons
  (ms_set nd (i := 3) rfl (by first | exact Or.inl rfl | exact Or.inr rfl) (me_call F 438 rfl rfl (ma_cons (me_var 1) (ma_cons (me_var 2) ma_nil))))
  (mss_one (ms_if (PW.pt (mw_or (mt_cmp (mo_ne u1) (pe_vb (pe_fz (me_call F 437 rfl rfl (ma_cons (me_var 3) (ma_cons (me_var 2) ma_nil))))) (me_bvar 1) rfl) (mw_or1 (mt_not (mt_val (pe_fz (me_call F 127 rfl rfl (ma_cons (me_var 0) (ma_cons (me_var 1) (ma_cons (me_var 3) ma_nil)))))))))) (mss_one (ms_ret (pe_vr me_bl))) mss_nil))))
  (mss_one (ms_ret (pe_vr (me_or (pe_fz (me_cmp (mo_eq u1) (pe_vb (pe_fz (me_ix (mo_ix u2) (me_bvar 1) (pe_vb me_int) (fun _ _ => rfl)))) (pe_vb me_int) rfl)) (me_one (pe_fz (me_call F 130 rfl rfl (ma_cons (me_var 0) (ma_cons (me_var 1) ma_nil)))))))))))

def N_law : List Str := ["_law_script", "_law_k", "_law_box_here", "_law_turn"]

theorem s_law : FnScope N_law ["_law_script"] (defScope (top 41)) := ⟨rfl, rfl, rfl, by decide +kernel, rfl, by decide +kernel, by decide +kernel⟩

theorem p_law (F : Fx P w K mg base (A.deeper (envOfC "law" (defScope (top 41)) s.heap.objs.size f cdv)) n T C) (m_all : mg "all" = none) (m_range : mg "range" = none) : PSs (XF P w K mg base N_law "law" (defScope (top 41)) f cdv A outer s H E) (defBody (top 41)) (tS K (b_law_k62 C)) := by
  have nd := s_law.nd
  have u3 := units_of F.room
  have u0 : (A.deeper (envOfC "law" (defScope (top 41)) s.heap.objs.size f cdv)).units + 1 < cLine := by omega
  have u1 : (A.deeper (envOfC "law" (defScope (top 41)) s.heap.objs.size f cdv)).units + 64 < cLine := by omega
  have u2 : (A.deeper (envOfC "law" (defScope (top 41)) s.heap.objs.size f cdv)).units + 65 < cLine := by omega
  exact (mss_cons
  (ms_for po_nox rfl (mi_range1 rfl m_range me_int) (mg_name nd (i := 1) rfl (by first | exact Or.inl rfl | exact Or.inr rfl)) (mss_cons
  (ms_sh nd (i := 2) rfl (by first | exact Or.inl rfl | exact Or.inr rfl) (me_call F 24 rfl rfl (ma_cons (me_var 0) (ma_cons (me_var 1) ma_nil))))
  (mss_one (ms_if (mt_not (mt_val (pe_fz (me_callB (mb_all rfl) rfl m_all PyProof.Rows.boot_all (mb_cons (pe_vb (pe_fz (me_comp (own := [("_law_turn", 3)]) rfl nd (pi_fb (mi_range1 rfl m_range me_int)) (blk_of (by kernel_rfl)) (fun _ _ _ _ _ => (mg_name nd (i := 3) rfl (by first | exact Or.inl rfl | exact Or.inr rfl))) (fun _ _ _ _ _ => mts_nil) (fun _ _ _ _ _ => (pe_fz (me_call F 187 rfl rfl (ma_cons (me_var 2) ma_nil)))) (by decide)))) mb_nil))))) (mss_one (ms_ret (pe_vr me_bl))) mss_nil))))
  (mss_one (ms_ret (pe_vr me_bl))))

end
section
variable {P : Program} {w : World} {K : PySem.W.Frag} {mg : Str → Option Value} {base : Heap}
abbrev FnP (K : PySem.W.Frag) (x : Str) (i : Nat) (f : Addr) (fd : FuncData) : Prop := FunD K x x (defArgs (top i)) (defBody (top i)) (defScope (top i)) [] [] f fd
structure Facts (K : PySem.W.Frag) (mg : Str → Option Value) : Prop where
  d312 : ∃ a fd, FnP K "is_number" 4 a fd ∧ mg "is_number" = some (.ref a)
  d408 : ∃ a fd, FnP K "plain" 6 a fd ∧ mg "plain" = some (.ref a)
  d399 : ∃ a fd, FnP K "noted" 7 a fd ∧ mg "noted" = some (.ref a)
  d286 : ∃ a fd, FnP K "are_towns" 8 a fd ∧ mg "are_towns" = some (.ref a)
  d314 : ∃ a fd, FnP K "is_order" 9 a fd ∧ mg "is_order" = some (.ref a)
  d437 : ∃ a fd, FnP K "with_note" 10 a fd ∧ mg "with_note" = some (.ref a)
  d438 : ∃ a fd, FnP K "without_note" 11 a fd ∧ mg "without_note" = some (.ref a)
  d422 : ∃ a fd, FnP K "span" 13 a fd ∧ mg "span" = some (.ref a)
  d317 : ∃ a fd, FnP K "is_sound" 14 a fd ∧ mg "is_sound" = some (.ref a)
  d295 : ∃ a fd, FnP K "count_orders" 15 a fd ∧ mg "count_orders" = some (.ref a)
  d393 : ∃ a fd, FnP K "lost_ways" 16 a fd ∧ mg "lost_ways" = some (.ref a)
  d296 : ∃ a fd, FnP K "count_stories" 17 a fd ∧ mg "count_stories" = some (.ref a)
  d435 : ∃ a fd, FnP K "windows" 19 a fd ∧ mg "windows" = some (.ref a)
  d392 : ∃ a fd, FnP K "lost_towns" 20 a fd ∧ mg "lost_towns" = some (.ref a)
  d284 : ∃ a fd, FnP K "are_few" 21 a fd ∧ mg "are_few" = some (.ref a)
  d303 : ∃ a fd, FnP K "evidence" 22 a fd ∧ mg "evidence" = some (.ref a)
  d315 : ∃ a fd, FnP K "is_possible" 23 a fd ∧ mg "is_possible" = some (.ref a)
  d28 : ∃ a fd, FnP K "_law_cell_at" 25 a fd ∧ mg "_law_cell_at" = some (.ref a)
  d24 : ∃ a fd, FnP K "_law_box" 26 a fd ∧ mg "_law_box" = some (.ref a)
  d238 : ∃ a fd, FnP K "_law_take" 27 a fd ∧ mg "_law_take" = some (.ref a)
  d110 : ∃ a fd, FnP K "_law_of" 28 a fd ∧ mg "_law_of" = some (.ref a)
  d230 : ∃ a fd, FnP K "_law_strewn" 29 a fd ∧ mg "_law_strewn" = some (.ref a)
  d90 : ∃ a fd, FnP K "_law_mates" 30 a fd ∧ mg "_law_mates" = some (.ref a)
  d274 : ∃ a fd, FnP K "_law_wood" 31 a fd ∧ mg "_law_wood" = some (.ref a)
  d218 : ∃ a fd, FnP K "_law_shut" 32 a fd ∧ mg "_law_shut" = some (.ref a)
  d107 : ∃ a fd, FnP K "_law_notes" 33 a fd ∧ mg "_law_notes" = some (.ref a)
  d228 : ∃ a fd, FnP K "_law_story" 34 a fd ∧ mg "_law_story" = some (.ref a)
  d220 : ∃ a fd, FnP K "_law_spoilt" 35 a fd ∧ mg "_law_spoilt" = some (.ref a)
  d15 : ∃ a fd, FnP K "_law_book" 36 a fd ∧ mg "_law_book" = some (.ref a)
  d140 : ∃ a fd, FnP K "_law_queue" 37 a fd ∧ mg "_law_queue" = some (.ref a)
  d127 : ∃ a fd, FnP K "_law_pair_right" 38 a fd ∧ mg "_law_pair_right" = some (.ref a)
  d130 : ∃ a fd, FnP K "_law_parts_right" 39 a fd ∧ mg "_law_parts_right" = some (.ref a)
  d187 : ∃ a fd, FnP K "_law_right" 40 a fd ∧ mg "_law_right" = some (.ref a)
  d363 : ∃ a fd, FnP K "law" 41 a fd ∧ mg "law" = some (.ref a)
  m_abs : mg "abs" = none
  m_all : mg "all" = none
  m_bool : mg "bool" = none
  m_dict : mg "dict" = none
  m_int : mg "int" = none
  m_isinstance : mg "isinstance" = none
  m_len : mg "len" = none
  m_list : mg "list" = none
  m_max : mg "max" = none
  m_min : mg "min" = none
  m_range : mg "range" = none
  m_set : mg "set" = none
  m_sorted : mg "sorted" = none
  m_sum : mg "sum" = none
  m_tuple : mg "tuple" = none
  m_zip : mg "zip" = none
theorem k_is_number (fc : Facts K mg) : DefOk P w K mg base B 312 q_is_number := by
  obtain ⟨a, fd, F, g⟩ := fc.d312
  exact ⟨a, fd, ["thing"], g, F.kp, F.bindsN (fun _ _ _ _ _ _ us hl => match us, hl with | [_], _ => rfl), rfl, fun n ih => fn_step F s_is_number rfl rfl rfl fun cdv A outer s H E hr => p_is_number (ih _ hr) fc.m_bool fc.m_int fc.m_isinstance⟩
theorem k_plain (fc : Facts K mg) : DefOk P w K mg base B 408 q_plain := by
  obtain ⟨a, fd, F, g⟩ := fc.d408
  exact ⟨a, fd, ["journal"], g, F.kp, F.bindsN (fun _ _ _ _ _ _ us hl => match us, hl with | [_], _ => rfl), rfl, fun n ih => fn_step F s_plain rfl rfl rfl fun cdv A outer s H E hr => p_plain (ih _ hr) fc.m_tuple⟩
theorem k_noted (fc : Facts K mg) : DefOk P w K mg base B 399 q_noted := by
  obtain ⟨a, fd, F, g⟩ := fc.d399
  exact ⟨a, fd, ["journal", "kind"], g, F.kp, F.bindsN (fun _ _ _ _ _ _ us hl => match us, hl with | [_, _], _ => rfl), rfl, fun n ih => fn_step F s_noted rfl rfl rfl fun cdv A outer s H E hr => p_noted (ih _ hr)⟩
theorem k_are_towns (fc : Facts K mg) : DefOk P w K mg base B 286 q_are_towns := by
  obtain ⟨a, fd, F, g⟩ := fc.d286
  exact ⟨a, fd, ["thing", "towns", "times"], g, F.kp, F.bindsN (fun _ _ _ _ _ _ us hl => match us, hl with | [_, _, _], _ => rfl), rfl, fun n ih => fn_step F s_are_towns rfl rfl rfl fun cdv A outer s H E hr => p_are_towns (ih _ hr) fc.m_all fc.m_isinstance fc.m_len fc.m_tuple⟩
theorem k_is_order (fc : Facts K mg) : DefOk P w K mg base B 314 q_is_order := by
  obtain ⟨a, fd, F, g⟩ := fc.d314
  exact ⟨a, fd, ["journal", "thing"], g, F.kp, F.bindsN (fun _ _ _ _ _ _ us hl => match us, hl with | [_, _], _ => rfl), rfl, fun n ih => fn_step F s_is_order rfl rfl rfl fun cdv A outer s H E hr => p_is_order (ih _ hr) fc.m_all fc.m_len fc.m_set⟩
theorem k_with_note (fc : Facts K mg) : DefOk P w K mg base B 437 q_with_note := by
  obtain ⟨a, fd, F, g⟩ := fc.d437
  exact ⟨a, fd, ["journal", "note"], g, F.kp, F.bindsN (fun _ _ _ _ _ _ us hl => match us, hl with | [_, _], _ => rfl), rfl, fun n ih => fn_step F s_with_note rfl rfl rfl fun cdv A outer s H E hr => p_with_note (ih _ hr) fc.m_sorted fc.m_tuple⟩
theorem k_without_note (fc : Facts K mg) : DefOk P w K mg base B 438 q_without_note := by
  obtain ⟨a, fd, F, g⟩ := fc.d438
  exact ⟨a, fd, ["journal", "note"], g, F.kp, F.bindsN (fun _ _ _ _ _ _ us hl => match us, hl with | [_, _], _ => rfl), rfl, fun n ih => fn_step F s_without_note rfl rfl rfl fun cdv A outer s H E hr => p_without_note (ih _ hr) fc.m_tuple⟩
theorem k_span (fc : Facts K mg) : DefOk P w K mg base B 422 q_span := by
  obtain ⟨a, fd, F, g⟩ := fc.d422
  exact ⟨a, fd, ["journal", "town"], g, F.kp, F.bindsN (fun _ _ _ _ _ _ us hl => match us, hl with | [_, _], _ => rfl), rfl, fun n ih => fn_step F s_span rfl rfl rfl fun cdv A outer s H E hr => p_span (ih _ hr) fc.m_max fc.m_min⟩
theorem k_is_sound (fc : Facts K mg) : DefOk P w K mg base B 317 q_is_sound := by
  obtain ⟨a, fd, F, g⟩ := fc.d317
  exact ⟨a, fd, ["journal"], g, F.kp, F.bindsN (fun _ _ _ _ _ _ us hl => match us, hl with | [_], _ => rfl), rfl, fun n ih => fn_step F s_is_sound rfl rfl rfl fun cdv A outer s H E hr => p_is_sound (ih _ hr) fc.m_all⟩
theorem k_count_orders (fc : Facts K mg) : DefOk P w K mg base B 295 q_count_orders := by
  obtain ⟨a, fd, F, g⟩ := fc.d295
  exact ⟨a, fd, ["journal"], g, F.kp, F.bindsN (fun _ _ _ _ _ _ us hl => match us, hl with | [_], _ => rfl), rfl, fun n ih => fn_step F s_count_orders rfl rfl rfl fun cdv A outer s H E hr => p_count_orders (ih _ hr) fc.m_dict fc.m_len fc.m_list fc.m_max fc.m_range⟩
theorem k_lost_ways (fc : Facts K mg) : DefOk P w K mg base B 393 q_lost_ways := by
  obtain ⟨a, fd, F, g⟩ := fc.d393
  exact ⟨a, fd, ["journal"], g, F.kp, F.bindsN (fun _ _ _ _ _ _ us hl => match us, hl with | [_], _ => rfl), rfl, fun n ih => fn_step F s_lost_ways rfl rfl rfl fun cdv A outer s H E hr => p_lost_ways (ih _ hr) fc.m_dict fc.m_range⟩
theorem k_count_stories (fc : Facts K mg) : DefOk P w K mg base B 296 q_count_stories := by
  obtain ⟨a, fd, F, g⟩ := fc.d296
  exact ⟨a, fd, ["journal"], g, F.kp, F.bindsN (fun _ _ _ _ _ _ us hl => match us, hl with | [_], _ => rfl), rfl, fun n ih => fn_step F s_count_stories rfl rfl rfl fun cdv A outer s H E hr => p_count_stories (ih _ hr)⟩
theorem k_windows (fc : Facts K mg) : DefOk P w K mg base B 435 q_windows := by
  obtain ⟨a, fd, F, g⟩ := fc.d435
  exact ⟨a, fd, ["journal"], g, F.kp, F.bindsN (fun _ _ _ _ _ _ us hl => match us, hl with | [_], _ => rfl), rfl, fun n ih => fn_step F s_windows rfl rfl rfl fun cdv A outer s H E hr => p_windows (ih _ hr) fc.m_range⟩
theorem k_lost_towns (fc : Facts K mg) : DefOk P w K mg base B 392 q_lost_towns := by
  obtain ⟨a, fd, F, g⟩ := fc.d392
  exact ⟨a, fd, ["journal"], g, F.kp, F.bindsN (fun _ _ _ _ _ _ us hl => match us, hl with | [_], _ => rfl), rfl, fun n ih => fn_step F s_lost_towns rfl rfl rfl fun cdv A outer s H E hr => p_lost_towns (ih _ hr) fc.m_set fc.m_sorted⟩
theorem k_are_few (fc : Facts K mg) : DefOk P w K mg base B 284 q_are_few := by
  obtain ⟨a, fd, F, g⟩ := fc.d284
  exact ⟨a, fd, ["journal", "time"], g, F.kp, F.bindsN (fun _ _ _ _ _ _ us hl => match us, hl with | [_, _], _ => rfl), rfl, fun n ih => fn_step F s_are_few rfl rfl rfl fun cdv A outer s H E hr => p_are_few (ih _ hr) fc.m_len⟩
theorem k_evidence (fc : Facts K mg) : DefOk P w K mg base B 303 q_evidence := by
  obtain ⟨a, fd, F, g⟩ := fc.d303
  exact ⟨a, fd, ["journal"], g, F.kp, F.bindsN (fun _ _ _ _ _ _ us hl => match us, hl with | [_], _ => rfl), rfl, fun n ih => fn_step F s_evidence rfl rfl rfl fun cdv A outer s H E hr => p_evidence (ih _ hr) fc.m_len fc.m_range⟩
theorem k_is_possible (fc : Facts K mg) : DefOk P w K mg base B 315 q_is_possible := by
  obtain ⟨a, fd, F, g⟩ := fc.d315
  exact ⟨a, fd, ["journal"], g, F.kp, F.bindsN (fun _ _ _ _ _ _ us hl => match us, hl with | [_], _ => rfl), rfl, fun n ih => fn_step F s_is_possible rfl rfl rfl fun cdv A outer s H E hr => p_is_possible (ih _ hr)⟩
theorem k__law_cell_at (fc : Facts K mg) : DefOk P w K mg base B 28 q__law_cell_at := by
  obtain ⟨a, fd, F, g⟩ := fc.d28
  exact ⟨a, fd, ["_law_script", "_law_k"], g, F.kp, F.bindsN (fun _ _ _ _ _ _ us hl => match us, hl with | [_, _], _ => rfl), rfl, fun n ih => fn_step F s__law_cell_at rfl rfl rfl fun cdv A outer s H E hr => p__law_cell_at (ih _ hr) fc.m_len⟩
theorem k__law_box (fc : Facts K mg) : DefOk P w K mg base B 24 q__law_box := by
  obtain ⟨a, fd, F, g⟩ := fc.d24
  exact ⟨a, fd, ["_law_script", "_law_k"], g, F.kp, F.bindsN (fun _ _ _ _ _ _ us hl => match us, hl with | [_, _], _ => rfl), rfl, fun n ih => fn_step F s__law_box rfl rfl rfl fun cdv A outer s H E hr => p__law_box (ih _ hr) fc.m_abs fc.m_int⟩
theorem k__law_take (fc : Facts K mg) : DefOk P w K mg base B 238 q__law_take := by
  obtain ⟨a, fd, F, g⟩ := fc.d238
  exact ⟨a, fd, ["_law_box_here", "_law_below"], g, F.kp, F.bindsN (fun _ _ _ _ _ _ us hl => match us, hl with | [_, _], _ => rfl), rfl, fun n ih => fn_step F s__law_take rfl rfl rfl fun cdv A outer s H E hr => p__law_take (ih _ hr)⟩
theorem k__law_of (fc : Facts K mg) : DefOk P w K mg base B 110 q__law_of := by
  obtain ⟨a, fd, F, g⟩ := fc.d110
  exact ⟨a, fd, ["_law_box_here", "_law_some"], g, F.kp, F.bindsN (fun _ _ _ _ _ _ us hl => match us, hl with | [_, _], _ => rfl), rfl, fun n ih => fn_step F s__law_of rfl rfl rfl fun cdv A outer s H E hr => p__law_of (ih _ hr) fc.m_len⟩
theorem k__law_strewn (fc : Facts K mg) : DefOk P w K mg base B 230 q__law_strewn := by
  obtain ⟨a, fd, F, g⟩ := fc.d230
  exact ⟨a, fd, ["_law_box_here", "_law_some"], g, F.kp, F.bindsN (fun _ _ _ _ _ _ us hl => match us, hl with | [_, _], _ => rfl), rfl, fun n ih => fn_step F s__law_strewn rfl rfl rfl fun cdv A outer s H E hr => p__law_strewn (ih _ hr) fc.m_len fc.m_list⟩
theorem k__law_mates (fc : Facts K mg) : DefOk P w K mg base B 90 q__law_mates := by
  obtain ⟨a, fd, F, g⟩ := fc.d90
  exact ⟨a, fd, ["_law_links", "_law_piece"], g, F.kp, F.bindsN (fun _ _ _ _ _ _ us hl => match us, hl with | [_, _], _ => rfl), rfl, fun n ih => fn_step F s__law_mates rfl rfl rfl fun cdv A outer s H E hr => p__law_mates (ih _ hr)⟩
theorem k__law_wood (fc : Facts K mg) : DefOk P w K mg base B 274 q__law_wood_v0 := by
  obtain ⟨a, fd, F, g⟩ := fc.d274
  exact ⟨a, fd, ["_law_box_here", "_law_count"], g, F.kp, F.bindsN (fun _ _ _ _ _ _ us hl => match us, hl with | [_, _], _ => rfl), rfl, fun n ih => fn_step F s__law_wood rfl rfl rfl fun cdv A outer s H E hr => p__law_wood (ih _ hr) fc.m_list fc.m_max fc.m_range fc.m_sorted fc.m_tuple⟩
theorem k__law_shut (fc : Facts K mg) : DefOk P w K mg base B 218 q__law_shut_v1 := by
  obtain ⟨a, fd, F, g⟩ := fc.d218
  exact ⟨a, fd, ["_law_box_here", "_law_wood_here", "_law_size"], g, F.kp, F.bindsN (fun _ _ _ _ _ _ us hl => match us, hl with | [_, _, _], _ => rfl), rfl, fun n ih => fn_step F s__law_shut rfl rfl rfl fun cdv A outer s H E hr => p__law_shut (ih _ hr) fc.m_len fc.m_list fc.m_range fc.m_tuple⟩
theorem k__law_notes (fc : Facts K mg) : DefOk P w K mg base B 107 q__law_notes_v0 := by
  obtain ⟨a, fd, F, g⟩ := fc.d107
  exact ⟨a, fd, ["_law_box_here", "_law_queue_here", "_law_ends"], g, F.kp, F.bindsN (fun _ _ _ _ _ _ us hl => match us, hl with | [_, _, _], _ => rfl), rfl, fun n ih => fn_step F s__law_notes rfl rfl rfl fun cdv A outer s H E hr => p__law_notes (ih _ hr) fc.m_len fc.m_range fc.m_tuple⟩
theorem k__law_story (fc : Facts K mg) : DefOk P w K mg base B 228 q__law_story_v0 := by
  obtain ⟨a, fd, F, g⟩ := fc.d228
  exact ⟨a, fd, ["_law_box_here", "_law_most"], g, F.kp, F.bindsN (fun _ _ _ _ _ _ us hl => match us, hl with | [_, _], _ => rfl), rfl, fun n ih => fn_step F s__law_story rfl rfl rfl fun cdv A outer s H E hr => p__law_story (ih _ hr)⟩
theorem k__law_spoilt (fc : Facts K mg) : DefOk P w K mg base B 220 q__law_spoilt_v0 := by
  obtain ⟨a, fd, F, g⟩ := fc.d220
  exact ⟨a, fd, ["_law_box_here", "_law_book_here"], g, F.kp, F.bindsN (fun _ _ _ _ _ _ us hl => match us, hl with | [_, _], _ => rfl), rfl, fun n ih => fn_step F s__law_spoilt rfl rfl rfl fun cdv A outer s H E hr => p__law_spoilt (ih _ hr) fc.m_int fc.m_range fc.m_sorted fc.m_tuple⟩
theorem k__law_book (fc : Facts K mg) : DefOk P w K mg base B 15 q__law_book_v0 := by
  obtain ⟨a, fd, F, g⟩ := fc.d15
  exact ⟨a, fd, ["_law_box_here", "_law_most"], g, F.kp, F.bindsN (fun _ _ _ _ _ _ us hl => match us, hl with | [_, _], _ => rfl), rfl, fun n ih => fn_step F s__law_book rfl rfl rfl fun cdv A outer s H E hr => p__law_book (ih _ hr)⟩
theorem k__law_queue (fc : Facts K mg) : DefOk P w K mg base B 140 q__law_queue := by
  obtain ⟨a, fd, F, g⟩ := fc.d140
  exact ⟨a, fd, ["_law_box_here", "_law_count", "_law_size"], g, F.kp, F.bindsN (fun _ _ _ _ _ _ us hl => match us, hl with | [_, _, _], _ => rfl), rfl, fun n ih => fn_step F s__law_queue rfl rfl rfl fun cdv A outer s H E hr => p__law_queue (ih _ hr) fc.m_list fc.m_range fc.m_tuple⟩
theorem k__law_pair_right (fc : Facts K mg) : DefOk P w K mg base B 127 q__law_pair_right_k62 := by
  obtain ⟨a, fd, F, g⟩ := fc.d127
  exact ⟨a, fd, ["_law_box_here", "_law_book_here", "_law_wide"], g, F.kp, F.bindsN (fun _ _ _ _ _ _ us hl => match us, hl with | [_, _, _], _ => rfl), rfl, fun n ih => fn_step F s__law_pair_right rfl rfl rfl fun cdv A outer s H E hr => p__law_pair_right (ih _ hr) fc.m_range fc.m_zip⟩
theorem k__law_parts_right (fc : Facts K mg) : DefOk P w K mg base B 130 q__law_parts_right := by
  obtain ⟨a, fd, F, g⟩ := fc.d130
  exact ⟨a, fd, ["_law_box_here", "_law_book_here"], g, F.kp, F.bindsN (fun _ _ _ _ _ _ us hl => match us, hl with | [_, _], _ => rfl), rfl, fun n ih => fn_step F s__law_parts_right rfl rfl rfl fun cdv A outer s H E hr => p__law_parts_right (ih _ hr) fc.m_range fc.m_sum⟩
theorem k__law_right (fc : Facts K mg) : DefOk P w K mg base B 187 q__law_right_k62 := by
  obtain ⟨a, fd, F, g⟩ := fc.d187
  exact ⟨a, fd, ["_law_box_here"], g, F.kp, F.bindsN (fun _ _ _ _ _ _ us hl => match us, hl with | [_], _ => rfl), rfl, fun n ih => fn_step F s__law_right rfl rfl rfl fun cdv A outer s H E hr => p__law_right (ih _ hr)⟩
theorem k_law (fc : Facts K mg) : DefOk P w K mg base B 363 q_law_k62 := by
  obtain ⟨a, fd, F, g⟩ := fc.d363
  exact ⟨a, fd, ["_law_script"], g, F.kp, F.bindsN (fun _ _ _ _ _ _ us hl => match us, hl with | [_], _ => rfl), rfl, fun n ih => fn_step F s_law rfl rfl rfl fun cdv A outer s H E hr => p_law (ih _ hr) fc.m_all fc.m_range⟩
theorem lookup_all {β : Type} {Q : Nat → β → Prop} : ∀ {l : List (Nat × β)}, (∀ p ∈ l, Q p.1 p.2) → ∀ i d, l.lookup i = some d → Q i d
  | [], _, _, _, h => by simp at h
  | (k, v) :: r, H, i, d, h => by
    rw [List.lookup_cons] at h
    split at h
    · rename_i e
      have e : i = k := by simpa using e
      cases h
      subst e
      exact H _ List.mem_cons_self
    · exact lookup_all (fun p hp => H p (List.mem_cons_of_mem _ hp)) i d h
theorem defs_ok (fc : Facts K mg) : ∀ i d, B i = some d → DefOk P w K mg base B i d := by
  refine lookup_all (l := tbl) ?_
  intro p hp
  unfold tbl at hp
  simp only [List.mem_cons, List.not_mem_nil, or_false] at hp
  rcases hp with rfl | rfl | rfl | rfl | rfl | rfl | rfl | rfl | rfl | rfl | rfl | rfl | rfl | rfl | rfl | rfl | rfl | rfl | rfl | rfl | rfl | rfl | rfl | rfl | rfl | rfl | rfl | rfl | rfl | rfl | rfl | rfl | rfl | rfl
  · exact k_is_number fc
  · exact k_plain fc
  · exact k_noted fc
  · exact k_are_towns fc
  · exact k_is_order fc
  · exact k_with_note fc
  · exact k_without_note fc
  · exact k_span fc
  · exact k_is_sound fc
  · exact k_count_orders fc
  · exact k_lost_ways fc
  · exact k_count_stories fc
  · exact k_windows fc
  · exact k_lost_towns fc
  · exact k_are_few fc
  · exact k_evidence fc
  · exact k_is_possible fc
  · exact k__law_cell_at fc
  · exact k__law_box fc
  · exact k__law_take fc
  · exact k__law_of fc
  · exact k__law_strewn fc
  · exact k__law_mates fc
  · exact k__law_wood fc
  · exact k__law_shut fc
  · exact k__law_notes fc
  · exact k__law_story fc
  · exact k__law_spoilt fc
  · exact k__law_book fc
  · exact k__law_queue fc
  · exact k__law_pair_right fc
  · exact k__law_parts_right fc
  · exact k__law_right fc
  · exact k_law fc
end
/-! ### the head -/
def e312 : He.DefD := ⟨("is_number", none), "is_number", "is_number", defArgs (top 4), defBody (top 4), defScope (top 4), [], []⟩
def e408 : He.DefD := ⟨("plain", none), "plain", "plain", defArgs (top 6), defBody (top 6), defScope (top 6), [], []⟩
def e399 : He.DefD := ⟨("noted", none), "noted", "noted", defArgs (top 7), defBody (top 7), defScope (top 7), [], []⟩
def e286 : He.DefD := ⟨("are_towns", none), "are_towns", "are_towns", defArgs (top 8), defBody (top 8), defScope (top 8), [], []⟩
def e314 : He.DefD := ⟨("is_order", none), "is_order", "is_order", defArgs (top 9), defBody (top 9), defScope (top 9), [], []⟩
def e437 : He.DefD := ⟨("with_note", none), "with_note", "with_note", defArgs (top 10), defBody (top 10), defScope (top 10), [], []⟩
def e438 : He.DefD := ⟨("without_note", none), "without_note", "without_note", defArgs (top 11), defBody (top 11), defScope (top 11), [], []⟩
def e422 : He.DefD := ⟨("span", none), "span", "span", defArgs (top 13), defBody (top 13), defScope (top 13), [], []⟩
def e317 : He.DefD := ⟨("is_sound", none), "is_sound", "is_sound", defArgs (top 14), defBody (top 14), defScope (top 14), [], []⟩
def e295 : He.DefD := ⟨("count_orders", none), "count_orders", "count_orders", defArgs (top 15), defBody (top 15), defScope (top 15), [], []⟩
def e393 : He.DefD := ⟨("lost_ways", none), "lost_ways", "lost_ways", defArgs (top 16), defBody (top 16), defScope (top 16), [], []⟩
def e296 : He.DefD := ⟨("count_stories", none), "count_stories", "count_stories", defArgs (top 17), defBody (top 17), defScope (top 17), [], []⟩
def e435 : He.DefD := ⟨("windows", none), "windows", "windows", defArgs (top 19), defBody (top 19), defScope (top 19), [], []⟩
def e392 : He.DefD := ⟨("lost_towns", none), "lost_towns", "lost_towns", defArgs (top 20), defBody (top 20), defScope (top 20), [], []⟩
def e284 : He.DefD := ⟨("are_few", none), "are_few", "are_few", defArgs (top 21), defBody (top 21), defScope (top 21), [], []⟩
def e303 : He.DefD := ⟨("evidence", none), "evidence", "evidence", defArgs (top 22), defBody (top 22), defScope (top 22), [], []⟩
def e315 : He.DefD := ⟨("is_possible", none), "is_possible", "is_possible", defArgs (top 23), defBody (top 23), defScope (top 23), [], []⟩
def e28 : He.DefD := ⟨("_law_cell_at", none), "_law_cell_at", "_law_cell_at", defArgs (top 25), defBody (top 25), defScope (top 25), [], []⟩
def e24 : He.DefD := ⟨("_law_box", none), "_law_box", "_law_box", defArgs (top 26), defBody (top 26), defScope (top 26), [], []⟩
def e238 : He.DefD := ⟨("_law_take", none), "_law_take", "_law_take", defArgs (top 27), defBody (top 27), defScope (top 27), [], []⟩
def e110 : He.DefD := ⟨("_law_of", none), "_law_of", "_law_of", defArgs (top 28), defBody (top 28), defScope (top 28), [], []⟩
def e230 : He.DefD := ⟨("_law_strewn", none), "_law_strewn", "_law_strewn", defArgs (top 29), defBody (top 29), defScope (top 29), [], []⟩
def e90 : He.DefD := ⟨("_law_mates", none), "_law_mates", "_law_mates", defArgs (top 30), defBody (top 30), defScope (top 30), [], []⟩
def e274 : He.DefD := ⟨("_law_wood", none), "_law_wood", "_law_wood", defArgs (top 31), defBody (top 31), defScope (top 31), [], []⟩
def e218 : He.DefD := ⟨("_law_shut", none), "_law_shut", "_law_shut", defArgs (top 32), defBody (top 32), defScope (top 32), [], []⟩
def e107 : He.DefD := ⟨("_law_notes", none), "_law_notes", "_law_notes", defArgs (top 33), defBody (top 33), defScope (top 33), [], []⟩
def e228 : He.DefD := ⟨("_law_story", none), "_law_story", "_law_story", defArgs (top 34), defBody (top 34), defScope (top 34), [], []⟩
def e220 : He.DefD := ⟨("_law_spoilt", none), "_law_spoilt", "_law_spoilt", defArgs (top 35), defBody (top 35), defScope (top 35), [], []⟩
def e15 : He.DefD := ⟨("_law_book", none), "_law_book", "_law_book", defArgs (top 36), defBody (top 36), defScope (top 36), [], []⟩
def e140 : He.DefD := ⟨("_law_queue", none), "_law_queue", "_law_queue", defArgs (top 37), defBody (top 37), defScope (top 37), [], []⟩
def e127 : He.DefD := ⟨("_law_pair_right", none), "_law_pair_right", "_law_pair_right", defArgs (top 38), defBody (top 38), defScope (top 38), [], []⟩
def e130 : He.DefD := ⟨("_law_parts_right", none), "_law_parts_right", "_law_parts_right", defArgs (top 39), defBody (top 39), defScope (top 39), [], []⟩
def e187 : He.DefD := ⟨("_law_right", none), "_law_right", "_law_right", defArgs (top 40), defBody (top 40), defScope (top 40), [], []⟩
def e363 : He.DefD := ⟨("law", none), "law", "law", defArgs (top 41), defBody (top 41), defScope (top 41), [], []⟩
def fn_0 : List He.DefD := [e312, e408, e399, e286, e314, e437, e438, e422, e317, e295, e393, e296, e435, e392, e284, e303, e315, e28, e24, e238, e110, e230, e90, e274, e218]
def fn_1 : List He.DefD := [e107, e228, e220, e15, e140, e127, e130, e187, e363]
def fn : List He.DefD := fn_0 ++ fn_1
def fa_0 : List He.Fa := [.glo "is_number", .glo "plain", .glo "noted", .glo "are_towns", .glo "is_order", .glo "with_note", .glo "without_note", .glo "span", .glo "is_sound", .glo "count_orders", .glo "lost_ways", .glo "count_stories", .glo "windows", .glo "lost_towns", .glo "are_few", .glo "evidence", .glo "is_possible", .glo "_law_cell_at", .glo "_law_box", .glo "_law_take", .glo "_law_of", .glo "_law_strewn", .glo "_law_mates", .glo "_law_wood", .glo "_law_shut"]
def fa_1 : List He.Fa := [.glo "_law_notes", .glo "_law_story", .glo "_law_spoilt", .glo "_law_book", .glo "_law_queue", .glo "_law_pair_right", .glo "_law_parts_right", .glo "_law_right", .glo "law", .free "abs", .free "all", .free "bool", .free "dict", .free "int", .free "isinstance", .free "len", .free "list", .free "max", .free "min", .free "range", .free "set", .free "sorted", .free "sum", .free "tuple", .free "zip"]
def fa : List He.Fa := fa_0 ++ fa_1
abbrev Rw : PySem.W.OpenRow := PySem.W.OpenLaw.row PySem.Challenge.rw_lastroads_k62_whole_more_notes_and_fewer
abbrev hk : PySem.W.Hook := He.hookD 5 fa fn
def ob (s : PySem.W.SharedT) : He.AlD := He.obsDG 5 fa fn (HandSHeadRun.getT s)
theorem ob_eq (s : PySem.W.SharedT) : ob s = hk.obs s.abs := He.obsDG_eq (HandSHeadRun.getT_eq s)
def names_0 : List Str := ["is_number", "plain", "noted", "are_towns", "is_order", "with_note", "without_note", "span", "is_sound", "count_orders", "lost_ways", "count_stories", "windows", "lost_towns", "are_few", "evidence", "is_possible", "_law_cell_at", "_law_box", "_law_take", "_law_of", "_law_strewn", "_law_mates", "_law_wood", "_law_shut"]
def names_1 : List Str := ["_law_notes", "_law_story", "_law_spoilt", "_law_book", "_law_queue", "_law_pair_right", "_law_parts_right", "_law_right", "Noted", "NoNote"]
def names : List Str := names_0 ++ names_1
theorem run (w : World) : HandSHeadRun.RunEq Rw (PySem.W.view Rw.prog [41]) hk ob 4000 names w := by
  intro os
  kernel_rfl
theorem facts {K : PySem.W.Frag} {h : Heap} {mg : Str → Option Value} (X : K.In h) (G : h.Ns mainGlobals mg) (c : He.SaysD fa fn K) : Facts K mg where
  d312 := by
    obtain ⟨fd, F⟩ := c.def_ 0 (d := e312) rfl
    exact ⟨_, fd, F, He.glo_ok X G (c.fact 0 (f := .glo "is_number") rfl)⟩
  d408 := by
    obtain ⟨fd, F⟩ := c.def_ 1 (d := e408) rfl
    exact ⟨_, fd, F, He.glo_ok X G (c.fact 1 (f := .glo "plain") rfl)⟩
  d399 := by
    obtain ⟨fd, F⟩ := c.def_ 2 (d := e399) rfl
    exact ⟨_, fd, F, He.glo_ok X G (c.fact 2 (f := .glo "noted") rfl)⟩
  d286 := by
    obtain ⟨fd, F⟩ := c.def_ 3 (d := e286) rfl
    exact ⟨_, fd, F, He.glo_ok X G (c.fact 3 (f := .glo "are_towns") rfl)⟩
  d314 := by
    obtain ⟨fd, F⟩ := c.def_ 4 (d := e314) rfl
    exact ⟨_, fd, F, He.glo_ok X G (c.fact 4 (f := .glo "is_order") rfl)⟩
  d437 := by
    obtain ⟨fd, F⟩ := c.def_ 5 (d := e437) rfl
    exact ⟨_, fd, F, He.glo_ok X G (c.fact 5 (f := .glo "with_note") rfl)⟩
  d438 := by
    obtain ⟨fd, F⟩ := c.def_ 6 (d := e438) rfl
    exact ⟨_, fd, F, He.glo_ok X G (c.fact 6 (f := .glo "without_note") rfl)⟩
  d422 := by
    obtain ⟨fd, F⟩ := c.def_ 7 (d := e422) rfl
    exact ⟨_, fd, F, He.glo_ok X G (c.fact 7 (f := .glo "span") rfl)⟩
  d317 := by
    obtain ⟨fd, F⟩ := c.def_ 8 (d := e317) rfl
    exact ⟨_, fd, F, He.glo_ok X G (c.fact 8 (f := .glo "is_sound") rfl)⟩
  d295 := by
    obtain ⟨fd, F⟩ := c.def_ 9 (d := e295) rfl
    exact ⟨_, fd, F, He.glo_ok X G (c.fact 9 (f := .glo "count_orders") rfl)⟩
  d393 := by
    obtain ⟨fd, F⟩ := c.def_ 10 (d := e393) rfl
    exact ⟨_, fd, F, He.glo_ok X G (c.fact 10 (f := .glo "lost_ways") rfl)⟩
  d296 := by
    obtain ⟨fd, F⟩ := c.def_ 11 (d := e296) rfl
    exact ⟨_, fd, F, He.glo_ok X G (c.fact 11 (f := .glo "count_stories") rfl)⟩
  d435 := by
    obtain ⟨fd, F⟩ := c.def_ 12 (d := e435) rfl
    exact ⟨_, fd, F, He.glo_ok X G (c.fact 12 (f := .glo "windows") rfl)⟩
  d392 := by
    obtain ⟨fd, F⟩ := c.def_ 13 (d := e392) rfl
    exact ⟨_, fd, F, He.glo_ok X G (c.fact 13 (f := .glo "lost_towns") rfl)⟩
  d284 := by
    obtain ⟨fd, F⟩ := c.def_ 14 (d := e284) rfl
    exact ⟨_, fd, F, He.glo_ok X G (c.fact 14 (f := .glo "are_few") rfl)⟩
  d303 := by
    obtain ⟨fd, F⟩ := c.def_ 15 (d := e303) rfl
    exact ⟨_, fd, F, He.glo_ok X G (c.fact 15 (f := .glo "evidence") rfl)⟩
  d315 := by
    obtain ⟨fd, F⟩ := c.def_ 16 (d := e315) rfl
    exact ⟨_, fd, F, He.glo_ok X G (c.fact 16 (f := .glo "is_possible") rfl)⟩
  d28 := by
    obtain ⟨fd, F⟩ := c.def_ 17 (d := e28) rfl
    exact ⟨_, fd, F, He.glo_ok X G (c.fact 17 (f := .glo "_law_cell_at") rfl)⟩
  d24 := by
    obtain ⟨fd, F⟩ := c.def_ 18 (d := e24) rfl
    exact ⟨_, fd, F, He.glo_ok X G (c.fact 18 (f := .glo "_law_box") rfl)⟩
  d238 := by
    obtain ⟨fd, F⟩ := c.def_ 19 (d := e238) rfl
    exact ⟨_, fd, F, He.glo_ok X G (c.fact 19 (f := .glo "_law_take") rfl)⟩
  d110 := by
    obtain ⟨fd, F⟩ := c.def_ 20 (d := e110) rfl
    exact ⟨_, fd, F, He.glo_ok X G (c.fact 20 (f := .glo "_law_of") rfl)⟩
  d230 := by
    obtain ⟨fd, F⟩ := c.def_ 21 (d := e230) rfl
    exact ⟨_, fd, F, He.glo_ok X G (c.fact 21 (f := .glo "_law_strewn") rfl)⟩
  d90 := by
    obtain ⟨fd, F⟩ := c.def_ 22 (d := e90) rfl
    exact ⟨_, fd, F, He.glo_ok X G (c.fact 22 (f := .glo "_law_mates") rfl)⟩
  d274 := by
    obtain ⟨fd, F⟩ := c.def_ 23 (d := e274) rfl
    exact ⟨_, fd, F, He.glo_ok X G (c.fact 23 (f := .glo "_law_wood") rfl)⟩
  d218 := by
    obtain ⟨fd, F⟩ := c.def_ 24 (d := e218) rfl
    exact ⟨_, fd, F, He.glo_ok X G (c.fact 24 (f := .glo "_law_shut") rfl)⟩
  d107 := by
    obtain ⟨fd, F⟩ := c.def_ 25 (d := e107) rfl
    exact ⟨_, fd, F, He.glo_ok X G (c.fact 25 (f := .glo "_law_notes") rfl)⟩
  d228 := by
    obtain ⟨fd, F⟩ := c.def_ 26 (d := e228) rfl
    exact ⟨_, fd, F, He.glo_ok X G (c.fact 26 (f := .glo "_law_story") rfl)⟩
  d220 := by
    obtain ⟨fd, F⟩ := c.def_ 27 (d := e220) rfl
    exact ⟨_, fd, F, He.glo_ok X G (c.fact 27 (f := .glo "_law_spoilt") rfl)⟩
  d15 := by
    obtain ⟨fd, F⟩ := c.def_ 28 (d := e15) rfl
    exact ⟨_, fd, F, He.glo_ok X G (c.fact 28 (f := .glo "_law_book") rfl)⟩
  d140 := by
    obtain ⟨fd, F⟩ := c.def_ 29 (d := e140) rfl
    exact ⟨_, fd, F, He.glo_ok X G (c.fact 29 (f := .glo "_law_queue") rfl)⟩
  d127 := by
    obtain ⟨fd, F⟩ := c.def_ 30 (d := e127) rfl
    exact ⟨_, fd, F, He.glo_ok X G (c.fact 30 (f := .glo "_law_pair_right") rfl)⟩
  d130 := by
    obtain ⟨fd, F⟩ := c.def_ 31 (d := e130) rfl
    exact ⟨_, fd, F, He.glo_ok X G (c.fact 31 (f := .glo "_law_parts_right") rfl)⟩
  d187 := by
    obtain ⟨fd, F⟩ := c.def_ 32 (d := e187) rfl
    exact ⟨_, fd, F, He.glo_ok X G (c.fact 32 (f := .glo "_law_right") rfl)⟩
  d363 := by
    obtain ⟨fd, F⟩ := c.def_ 33 (d := e363) rfl
    exact ⟨_, fd, F, He.glo_ok X G (c.fact 33 (f := .glo "law") rfl)⟩
  m_abs := He.free_ok X G (c.fact 34 (f := .free "abs") rfl)
  m_all := He.free_ok X G (c.fact 35 (f := .free "all") rfl)
  m_bool := He.free_ok X G (c.fact 36 (f := .free "bool") rfl)
  m_dict := He.free_ok X G (c.fact 37 (f := .free "dict") rfl)
  m_int := He.free_ok X G (c.fact 38 (f := .free "int") rfl)
  m_isinstance := He.free_ok X G (c.fact 39 (f := .free "isinstance") rfl)
  m_len := He.free_ok X G (c.fact 40 (f := .free "len") rfl)
  m_list := He.free_ok X G (c.fact 41 (f := .free "list") rfl)
  m_max := He.free_ok X G (c.fact 42 (f := .free "max") rfl)
  m_min := He.free_ok X G (c.fact 43 (f := .free "min") rfl)
  m_range := He.free_ok X G (c.fact 44 (f := .free "range") rfl)
  m_set := He.free_ok X G (c.fact 45 (f := .free "set") rfl)
  m_sorted := He.free_ok X G (c.fact 46 (f := .free "sorted") rfl)
  m_sum := He.free_ok X G (c.fact 47 (f := .free "sum") rfl)
  m_tuple := He.free_ok X G (c.fact 48 (f := .free "tuple") rfl)
  m_zip := He.free_ok X G (c.fact 49 (f := .free "zip") rfl)
end K62

namespace MP
theorem zipD_map {α : Type} (f g : α → D) : ∀ xs : List α, zipD (xs.map f) (xs.map g) = xs.map fun x => D.tup [f x, g x]
  | [] => rfl
  | x :: xs => by
    show D.tup [f x, g x] :: zipD (xs.map f) (xs.map g) = _
    rw [zipD_map f g xs]
    rfl
theorem isNon_evid {j : J} (w : JW j) : isNon (evidF j) = decide (0 < countF j) := by
  refine bool_iff ?_
  rw [decide_eq_true_eq, ← evid_iff w]
  constructor
  · intro h
    cases he : evidF j <;> rw [he] at h <;> first | rfl | cases h
  · intro h
    rw [h]
    rfl
theorem Book.add {j : J} {m : Nat} (h : Book j m) {x : Note} (f : Fits j x) (hl : j.N.length ≤ 199) : Book (addF j x) m := by
  have a := add_ok j x
  have w := a.jw h.w f
  refine ⟨w, sortN_ns ?_, h.n1, h.n2, h.m1, ?_⟩
  · have := so_nodup w.so
    exact (sortN_perm _).nodup_iff.mp this
  · show (sortN (j.N ++ [x])).length ≤ 200
    rw [(sortN_perm _).length_eq]
    simp
    omega
theorem Book.rem {j : J} {m : Nat} (h : Book j m) {x : Note} (hx : x ∈ j.N) : Book (remF j x) m := by
  have a := rem_ok h.w hx
  refine ⟨(a.jw' h.w).1, h.s.sublist List.filter_sublist, h.n1, h.n2, h.m1, ?_⟩
  have := List.length_filter_le (fun y => !decide (y = x)) j.N
  have := h.l
  show (j.N.filter _).length ≤ 200
  omega
end MP
namespace K62
open PySem PySem.Spec MP
theorem pair {n b k m : Nat} {S : Sto} {j j' : J} {x : Note} (a : Add j x j') (h' : Book j' m) (h : Book j m) (hm : m ≤ 50) (hb : Bx S b (k + 300)) :
    ∃ S', callN B (n + 8) 127 [.loc b, jD j', jD j] S = .ok (.v (.bl true)) S' ∧ Bx S' b k := by
  have n2 := h.n2
  have n1 := h.n1
  have m1 := h.m1
  have wm := h.w.m0
  have J' := h'.jr
  have J := h.jr
  have cl := a.count_le h'.w
  have sl := a.stories_le h'.w h.m1
  have w1 : ∀ S, callN B (n + 7) 435 [jD j'] S = .ok (.o (.l ((windF j').map lkD))) S := fun S => sp_windows (B := B) (n := n + 4) rfl rfl rfl J'
  have w2 : ∀ S, callN B (n + 7) 435 [jD j] S = .ok (.o (.l ((windF j).map lkD))) S := fun S => sp_windows (B := B) (n := n + 4) rfl rfl rfl J
  have c1 : ∀ S, callN B (n + 7) 295 [jD j'] S = .ok (.v (.int (countF j'))) S := fun S => sp_count (B := B) (n := n + 3) rfl rfl rfl rfl J'
  have c2 : ∀ S, callN B (n + 7) 295 [jD j] S = .ok (.v (.int (countF j))) S := fun S => sp_count (B := B) (n := n + 3) rfl rfl rfl rfl J
  have s1 : ∀ S, callN B (n + 7) 296 [jD j'] S = .ok (.v (.int (countF j' * lostF j'))) S := fun S => sp_stories (B := B) (n := n + 2) rfl rfl rfl rfl rfl rfl J' (mulOk_cl h'.w)
  have s2 : ∀ S, callN B (n + 7) 296 [jD j] S = .ok (.v (.int (countF j * lostF j))) S := fun S => sp_stories (B := B) (n := n + 2) rfl rfl rfl rfl rfl rfl J (mulOk_cl h.w)
  have p1 : ∀ S, callN B (n + 7) 315 [jD j'] S = .ok (.v (.bl (decide (0 < countF j')))) S := fun S => sp_possible (B := B) (n := n + 2) rfl rfl rfl rfl rfl J'
  have p2 : ∀ S, callN B (n + 7) 315 [jD j] S = .ok (.v (.bl (decide (0 < countF j)))) S := fun S => sp_possible (B := B) (n := n + 2) rfl rfl rfl rfl rfl J
  have e1 : ∀ S, callN B (n + 7) 303 [jD j'] S = .ok (.v (evidF j')) S := fun S => sp_evid (B := B) (n := n + 2) rfl rfl rfl rfl rfl rfl J'
  have e2 : ∀ S, callN B (n + 7) 303 [jD j] S = .ok (.v (evidF j)) S := fun S => sp_evid (B := B) (n := n + 2) rfl rfl rfl rfl rfl rfl J
  have o1 : ∀ (l : List Int) (S : Sto), l.length ≤ 1000 → callN B (n + 7) 314 [jD j', .tup (l.map D.int)] S = .ok (.v (.bl (orderF j' l))) S := fun l S hl => sp_order (B := B) (n := n + 4) rfl rfl rfl rfl J' hl
  have o2 : ∀ (l : List Int) (S : Sto), l.length ≤ 1000 → callN B (n + 7) 314 [jD j, .tup (l.map D.int)] S = .ok (.v (.bl (orderF j l))) S := fun l S hl => sp_order (B := B) (n := n + 4) rfl rfl rfl rfl J hl
  have i0 := J'.ix0
  have i1 := J'.ix1
  obtain ⟨c, ec⟩ : ∃ c : Nat, j.n = c := ⟨j.n.toNat, by omega⟩
  obtain ⟨s, es⟩ : ∃ s : Nat, j.m = s := ⟨j.m.toNat, by omega⟩
  have en : j'.n = (c : Int) := a.n.trans ec
  have em : j'.m = (s : Int) := a.m.trans es
  suffices hh : okE (callN B (n + 8) 127 [.loc b, jD j', jD j] S) fun x S1 => x = .v (.bl true) ∧ Bx S1 b k by
    obtain ⟨x, S1, g1, rfl, g2⟩ := hh
    exact ⟨_, g1, g2⟩
  refine ok_call (show B 127 = some q__law_pair_right_k62 from rfl) rfl ?_
  unfold b__law_pair_right_k62
  have z : zipD ((windF j').map lkD) ((windF j).map lkD) = (rng c).map fun p => D.tup [lkD (spanF j' p), lkD (spanF j p)] := by
    unfold windF
    rw [en, ec, Int.toNat_natCast, List.map_map, List.map_map]
    exact zipD_map _ _ _
  simp only [sv_0, sv_1, sv_2, sv_3, sv_4, sv_5, reduceIte, reduceDIte, reduceCtorEq, Nat.reduceAdd, Nat.reduceSub, Nat.reduceMul, Nat.reduceLT, Nat.reduceLeDiff, Nat.reduceEqDiff, Int.reduceAdd, Int.reduceSub, Int.reduceMul, Int.reduceLE, Int.reduceLT, Int.reduceEq, Int.reduceNe, Int.reduceNeg, Int.reduceToNat, w1, w2, z]
  refine ok_for0 [4, 5] (rng c) (fun p => D.tup [lkD (spanF j' p), lkD (spanF j p)]) (fun i vs S' => ∃ u v, vs = [u, v] ∧ S' = S) [.no, .no] rfl ⟨.no, .no, rfl, rfl⟩ ?_ ?_
  · rintro N1 K1 T1 hK hT i p vs S1 hp ⟨u, v, rfl, rfl⟩ hN
    obtain ⟨q1, q2⟩ := a.span h'.w p
    have q1' : ¬ (spanF j' p).1 < (spanF j p).1 := by omega
    have q2' : ¬ (spanF j p).2 < (spanF j' p).2 := by omega
    simp only [sv_0, sv_1, sv_2, sv_3, sv_4, sv_5, reduceIte, reduceDIte, reduceCtorEq, Nat.reduceAdd, Nat.reduceSub, Nat.reduceMul, Nat.reduceLT, Nat.reduceLeDiff, Nat.reduceEqDiff, Int.reduceAdd, Int.reduceSub, Int.reduceMul, Int.reduceLE, Int.reduceLT, Int.reduceEq, Int.reduceNe, Int.reduceNeg, Int.reduceToNat, lkD, q1', q2', if_false]
    exact hN [_, _] _ ⟨_, _, rfl, rfl⟩
  · rintro vs S1 ⟨u, v, rfl, rfl⟩
    have q1 : ¬ countF j < countF j' := by omega
    have q2 : ¬ countF j * lostF j < countF j' * lostF j' := by omega
    have q3 : (if decide (0 < countF j') = true then (!decide (0 < countF j)) else false) = false := by
      by_cases z1 : 0 < countF j' <;> by_cases z2 : 0 < countF j <;> simp [z1, z2] <;> omega
    have q4 : (if (!decide (0 < countF j)) = true then decide (0 < countF j') else false) = false := by
      by_cases z1 : 0 < countF j' <;> by_cases z2 : 0 < countF j <;> simp [z1, z2] <;> omega
    by_cases z1 : 0 < countF j'
    all_goals by_cases z2 : 0 < countF j
    all_goals first | omega | skip
    all_goals simp only [sv_0, sv_1, sv_2, sv_3, sv_4, sv_5, reduceIte, reduceDIte, reduceCtorEq, Nat.reduceAdd, Nat.reduceSub, Nat.reduceMul, Nat.reduceLT, Nat.reduceLeDiff, Nat.reduceEqDiff, Int.reduceAdd, Int.reduceSub, Int.reduceMul, Int.reduceLE, Int.reduceLT, Int.reduceEq, Int.reduceNe, Int.reduceNeg, Int.reduceToNat, c1, c2, s1, s2, q1, q2, p1, p2, e1, e2, isNon_evid h.w, isNon_evid h'.w, if_false, if_true, z1, z2, not_true, not_false_iff]
    all_goals rw [rg1_i _ (by decide)]
    all_goals simp only [sv_0, sv_1, sv_2, sv_3, sv_4, sv_5, reduceIte, reduceDIte, reduceCtorEq, Nat.reduceAdd, Nat.reduceSub, Nat.reduceMul, Nat.reduceLT, Nat.reduceLeDiff, Nat.reduceEqDiff, Int.reduceAdd, Int.reduceSub, Int.reduceMul, Int.reduceLE, Int.reduceLT, Int.reduceEq, Int.reduceNe, Int.reduceNeg, Int.reduceToNat]
    all_goals rw [show rangeD 0 4 = (rng 4).map D.int from rfl]
    all_goals refine ok_for0 [3, 6] (rng 4) D.int (fun i vs S' => i ≤ 4 → ∃ u v, vs = [u, v] ∧ Bx S' b (k + 300 - 60 * i)) [.no, .no] rfl (fun _ => ⟨.no, .no, rfl, hb⟩) ?_ ?_
    all_goals first
      | (rintro N2 K2 T2 hK2 hT2 i p vs S1 hp hI hN
         obtain ⟨hi, rfl⟩ := rng_succ_get hp
         obtain ⟨u, v, rfl, bx⟩ := hI (by omega)
         obtain ⟨l, S2, g1, g2, g3⟩ := sp_queue (B := B) (n := n + 4) (b := b) (k := k + 300 - 60 * (i + 1)) (c := c) (s := s) (S := S1) rfl rfl rfl (by omega) (by omega) (bx.mono (by omega))
         have g1 : callN B (n + 7) 140 [.loc b, .int c, .int s] S1 = .ok (.v (.tup (l.map D.int))) S2 := g1
         have ll : l.length ≤ 1000 := by have := g2.len; omega
         have oo : orderF j' l = true → orderF j l = true := fun z => orderF_iff.mpr (a.ord.mp (orderF_iff.mp z)).1
         have fin := hN [_, _] S2 fun _ => ⟨.va (.int i), .va (.tup (l.map D.int)), rfl, g3⟩
         cases z1 : orderF j' l with
         | false =>
           simp only [sv_0, sv_1, sv_2, sv_3, sv_4, sv_5, reduceIte, reduceDIte, reduceCtorEq, Nat.reduceAdd, Nat.reduceSub, Nat.reduceMul, Nat.reduceLT, Nat.reduceLeDiff, Nat.reduceEqDiff, Int.reduceAdd, Int.reduceSub, Int.reduceMul, Int.reduceLE, Int.reduceLT, Int.reduceEq, Int.reduceNe, Int.reduceNeg, Int.reduceToNat, i0, i1, en, em, g1, o1 l _ ll, z1, if_false, Bool.false_eq_true]
           exact fin
         | true =>
           simp only [sv_0, sv_1, sv_2, sv_3, sv_4, sv_5, reduceIte, reduceDIte, reduceCtorEq, Nat.reduceAdd, Nat.reduceSub, Nat.reduceMul, Nat.reduceLT, Nat.reduceLeDiff, Nat.reduceEqDiff, Int.reduceAdd, Int.reduceSub, Int.reduceMul, Int.reduceLE, Int.reduceLT, Int.reduceEq, Int.reduceNe, Int.reduceNeg, Int.reduceToNat, i0, i1, en, em, g1, o1 l _ ll, o2 l _ ll, z1, oo z1, if_true, if_false]
           exact fin)
      | (intro vs S1 hI
         rw [rng_len] at hI
         obtain ⟨u, v, rfl, bx⟩ := hI (by decide)
         exact bx.mono (by omega))
theorem parts {n b k m : Nat} {S : Sto} {j : J} (h : Book j m) (hm : m ≤ 50) (hl : j.N.length ≤ 190) (h0 : 0 < j.m) (hb : Bx S b (k + 1000)) :
    ∃ S', callN B (n + 10) 130 [.loc b, jD j] S = .ok (.v (.bl true)) S' ∧ Bx S' b k := by
  have n2 := h.n2
  have n1 := h.n1
  have m1 := h.m1
  have J := h.jr
  have i0 := J.ix0
  have i1 := J.ix1
  have i2 : ∀ S, fIx (jD j) (.int 2) S = .ok (.v (.tup (j.N.map noteD))) S := fun S => rfl
  obtain ⟨c, ec⟩ : ∃ c : Nat, j.n = c := ⟨j.n.toNat, by omega⟩
  obtain ⟨t, S1, a1, a2, a3, a4⟩ := sp_take (B := B) (n := n + 8) (m := j.m) (k := k + 999) (S := S) rfl hb h0 (by omega)
  have a1 : callN B (n + 9) 238 [.loc b, .int j.m] S = .ok (.v (.int t)) S1 := a1
  have s2 : ∀ S, callN B (n + 9) 296 [jD j] S = .ok (.v (.int (countF j * lostF j))) S := fun S => sp_stories (B := B) (n := n + 4) rfl rfl rfl rfl rfl rfl J (mulOk_cl h.w)
  suffices hh : okE (callN B (n + 10) 130 [.loc b, jD j] S) fun x S1 => x = .v (.bl true) ∧ Bx S1 b k by
    obtain ⟨x, S1, g1, rfl, g2⟩ := hh
    exact ⟨_, g1, g2⟩
  refine ok_call (show B 130 = some q__law_parts_right from rfl) rfl ?_
  unfold b__law_parts_right
  simp only [sv_0, sv_1, sv_2, sv_3, sv_4, sv_5, reduceIte, reduceDIte, reduceCtorEq, Nat.reduceAdd, Nat.reduceSub, Nat.reduceMul, Nat.reduceLT, Nat.reduceLeDiff, Nat.reduceEqDiff, Int.reduceAdd, Int.reduceSub, Int.reduceMul, Int.reduceLE, Int.reduceLT, Int.reduceEq, Int.reduceNe, Int.reduceNeg, Int.reduceToNat, i1, a1, if_true]
  rw [show [D.str "end", D.str "closed"] = [false, true].map fun k => D.str (kd k) from rfl]
  refine ok_for0 [3, 4] [false, true] (fun k => D.str (kd k)) (fun i vs S' => i ≤ 2 → ∃ u v, vs = [u, v] ∧ Bx S' b (k + 999 - 400 * i)) [.no, .no] rfl (fun _ => ⟨.no, .no, rfl, a4⟩) ?_ ?_
  · rintro N1 K1 T1 hK hT i kk vs S2 hp hI hN
    have hi : i < 2 := (List.getElem?_eq_some_iff.mp hp).1
    obtain ⟨u, v, rfl, bx⟩ := hI (by omega)
    simp only [sv_0, sv_1, sv_2, sv_3, sv_4, sv_5, reduceIte, reduceDIte, reduceCtorEq, Nat.reduceAdd, Nat.reduceSub, Nat.reduceMul, Nat.reduceLT, Nat.reduceLeDiff, Nat.reduceEqDiff, Int.reduceAdd, Int.reduceSub, Int.reduceMul, Int.reduceLE, Int.reduceLT, Int.reduceEq, Int.reduceNe, Int.reduceNeg, Int.reduceToNat]
    refine ok_comp j.N noteD (fun y => decide (y.t = t) && (y.k == kk)) noteD (by simp only [sv_0, sv_1, sv_2, sv_3, sv_4, sv_5, reduceIte, reduceDIte, reduceCtorEq, Nat.reduceAdd, Nat.reduceSub, Nat.reduceMul, Nat.reduceLT, Nat.reduceLeDiff, Nat.reduceEqDiff, Int.reduceAdd, Int.reduceSub, Int.reduceMul, Int.reduceLE, Int.reduceLT, Int.reduceEq, Int.reduceNe, Int.reduceNeg, Int.reduceToNat, i2]) (by omega) (fun y _ => ?_) ?_
    · simp only [sv_0, sv_1, sv_2, sv_3, sv_4, sv_5, reduceIte, reduceDIte, reduceCtorEq, Nat.reduceAdd, Nat.reduceSub, Nat.reduceMul, Nat.reduceLT, Nat.reduceLeDiff, Nat.reduceEqDiff, Int.reduceAdd, Int.reduceSub, Int.reduceMul, Int.reduceLE, Int.reduceLT, Int.reduceEq, Int.reduceNe, Int.reduceNeg, Int.reduceToNat, noteD, cut2, fEq_key]
    · have fe : fEq (.lst ((j.N.filter fun y => decide (y.t = t) && (y.k == kk)).map noteD)) (.lst []) S2 = .ok (.v (.bl (decide ((j.N.filter fun y => decide (y.t = t) && (y.k == kk)) = [])))) S2 := by
        rw [ev_eq S2 (show fitN 20 (.lst _) = true from fit_notes 18 _) rfl]
        have := deqs_notes (j.N.filter fun y => decide (y.t = t) && (y.k == kk)) []
        rw [show deq (.lst ((j.N.filter fun y => decide (y.t = t) && (y.k == kk)).map noteD)) (.lst []) = deqs ((j.N.filter fun y => decide (y.t = t) && (y.k == kk)).map noteD) ([].map noteD) from rfl, this]
      simp only [sv_0, sv_1, sv_2, sv_3, sv_4, sv_5, reduceIte, reduceDIte, reduceCtorEq, Nat.reduceAdd, Nat.reduceSub, Nat.reduceMul, Nat.reduceLT, Nat.reduceLeDiff, Nat.reduceEqDiff, Int.reduceAdd, Int.reduceSub, Int.reduceMul, Int.reduceLE, Int.reduceLT, Int.reduceEq, Int.reduceNe, Int.reduceNeg, Int.reduceToNat, fe]
      by_cases ce : (j.N.filter fun y => decide (y.t = t) && (y.k == kk)) = []
      · have no : ∀ v : Int, ∀ y ∈ j.N, ¬ (y.t = (⟨t, kk, v⟩ : Note).t ∧ y.k = (⟨t, kk, v⟩ : Note).k) := fun v y hy e => by
          have := List.filter_eq_nil_iff.mp ce y hy
          simp [e.1, e.2] at this
        have ft : ∀ v : Int, v ∈ rng c → Fits j ⟨t, kk, v⟩ := fun v hv => ⟨a2, a3, (mem_rng.mp hv).1, by have := (mem_rng.mp hv).2; show v < j.n; omega, no v⟩
        have bk : ∀ v : Int, v ∈ rng c → Book (addF j ⟨t, kk, v⟩) m := fun v hv => h.add (ft v hv) (by omega)
        simp only [ce, if_true]
        refine ok_compA (rng c) D.int (fun v => jD (addF j ⟨t, kk, v⟩)) ?_ (by rw [rng_len]; omega) (fun v hv => ?_) ?_
        · simp only [sv_0, sv_1, sv_2, sv_3, sv_4, sv_5, reduceIte, reduceDIte, reduceCtorEq, Nat.reduceAdd, Nat.reduceSub, Nat.reduceMul, Nat.reduceLT, Nat.reduceLeDiff, Nat.reduceEqDiff, Int.reduceAdd, Int.reduceSub, Int.reduceMul, Int.reduceLE, Int.reduceLT, Int.reduceEq, Int.reduceNe, Int.reduceNeg, Int.reduceToNat, i0, ec]
          rw [rg1_i _ (by omega)]
          simp only [sv_0, sv_1, sv_2, sv_3, sv_4, sv_5, reduceIte, reduceDIte, reduceCtorEq, Nat.reduceAdd, Nat.reduceSub, Nat.reduceMul, Nat.reduceLT, Nat.reduceLeDiff, Nat.reduceEqDiff, Int.reduceAdd, Int.reduceSub, Int.reduceMul, Int.reduceLE, Int.reduceLT, Int.reduceEq, Int.reduceNe, Int.reduceNeg, Int.reduceToNat, rangeD_rng]
        · have wn : callN B (n + 9) 437 [jD j, .tup [.int t, .str (kd kk), .int v]] S2 = .ok (.v (jD (addF j ⟨t, kk, v⟩))) S2 := sp_with (B := B) (n := n + 7) rfl rfl J (x := ⟨t, kk, v⟩) (.tup _) (no v)
          simp only [sv_0, sv_1, sv_2, sv_3, sv_4, sv_5, reduceIte, reduceDIte, reduceCtorEq, Nat.reduceAdd, Nat.reduceSub, Nat.reduceMul, Nat.reduceLT, Nat.reduceLeDiff, Nat.reduceEqDiff, Int.reduceAdd, Int.reduceSub, Int.reduceMul, Int.reduceLE, Int.reduceLT, Int.reduceEq, Int.reduceNe, Int.reduceNeg, Int.reduceToNat, wn]
        · simp only [sv_0, sv_1, sv_2, sv_3, sv_4, sv_5, reduceIte, reduceDIte, reduceCtorEq, Nat.reduceAdd, Nat.reduceSub, Nat.reduceMul, Nat.reduceLT, Nat.reduceLeDiff, Nat.reduceEqDiff, Int.reduceAdd, Int.reduceSub, Int.reduceMul, Int.reduceLE, Int.reduceLT, Int.reduceEq, Int.reduceNe, Int.reduceNeg, Int.reduceToNat]
          refine ok_compA (rng c) (fun v => jD (addF j ⟨t, kk, v⟩)) (fun v => .int (countF (addF j ⟨t, kk, v⟩) * lostF (addF j ⟨t, kk, v⟩))) (by simp only [sv_0, sv_1, sv_2, sv_3, sv_4, sv_5, reduceIte, reduceDIte, reduceCtorEq, Nat.reduceAdd, Nat.reduceSub, Nat.reduceMul, Nat.reduceLT, Nat.reduceLeDiff, Nat.reduceEqDiff, Int.reduceAdd, Int.reduceSub, Int.reduceMul, Int.reduceLE, Int.reduceLT, Int.reduceEq, Int.reduceNe, Int.reduceNeg, Int.reduceToNat]) (by rw [rng_len]; omega) (fun v hv => ?_) ?_
          · have st : callN B (n + 9) 296 [jD (addF j ⟨t, kk, v⟩)] S2 = .ok (.v (.int (countF (addF j ⟨t, kk, v⟩) * lostF (addF j ⟨t, kk, v⟩)))) S2 := sp_stories (B := B) (n := n + 4) rfl rfl rfl rfl rfl rfl (bk v hv).jr (mulOk_cl (bk v hv).w)
            simp only [sv_0, sv_1, sv_2, sv_3, sv_4, sv_5, reduceIte, reduceDIte, reduceCtorEq, Nat.reduceAdd, Nat.reduceSub, Nat.reduceMul, Nat.reduceLT, Nat.reduceLeDiff, Nat.reduceEqDiff, Int.reduceAdd, Int.reduceSub, Int.reduceMul, Int.reduceLE, Int.reduceLT, Int.reduceEq, Int.reduceNe, Int.reduceNeg, Int.reduceToNat, st]
          · have sm := sum_stories (k := kk) h.w a2 a3 (fun v => addF j ⟨t, kk, v⟩) (fun v hv => add_ok j _) (fun v hv => (bk v (by rw [ec, Int.toNat_natCast] at hv; exact hv)).w)
            rw [ec, Int.toNat_natCast] at sm
            have e1 : (rng c).map (fun v => D.int (countF (addF j ⟨t, kk, v⟩) * lostF (addF j ⟨t, kk, v⟩))) = ((rng c).map fun v => countF (addF j ⟨t, kk, v⟩) * lostF (addF j ⟨t, kk, v⟩)).map D.int := by simp
            simp only [sv_0, sv_1, sv_2, sv_3, sv_4, sv_5, reduceIte, reduceDIte, reduceCtorEq, Nat.reduceAdd, Nat.reduceSub, Nat.reduceMul, Nat.reduceLT, Nat.reduceLeDiff, Nat.reduceEqDiff, Int.reduceAdd, Int.reduceSub, Int.reduceMul, Int.reduceLE, Int.reduceLT, Int.reduceEq, Int.reduceNe, Int.reduceNeg, Int.reduceToNat, e1, bSum_ints, sm, s2, if_false]
            obtain ⟨q, S3, o1, o2, o3⟩ := sp_of (B := B) (n := n + 7) (b := b) (k := k + 999 - 400 * i - 1) (S := S2) (d := .lst ((rng c).map fun v => jD (addF j ⟨t, kk, v⟩))) (xs := (rng c).map fun v => jD (addF j ⟨t, kk, v⟩)) rfl rfl (bx.mono (by omega)) (.lst _) (by rw [List.length_map, rng_len]; omega) (by rw [List.length_map, rng_len]; omega)
            have o1 : callN B (n + 9) 110 [.loc b, .lst ((rng c).map fun v => jD (addF j ⟨t, kk, v⟩))] S2 = .ok (.v q) S3 := o1
            obtain ⟨v, hv, rfl⟩ := List.mem_map.mp o2
            obtain ⟨S4, p1, p2⟩ := pair (n := n + 1) (b := b) (k := k + 999 - 400 * (i + 1)) (S := S3) (add_ok j ⟨t, kk, v⟩) (bk v hv) h hm (o3.mono (by omega))
            have p1 : callN B (n + 9) 127 [.loc b, jD (addF j ⟨t, kk, v⟩), jD j] S3 = .ok (.v (.bl true)) S4 := p1
            simp only [o1, sv_0, sv_1, sv_2, sv_3, sv_4, sv_5, reduceIte, reduceDIte, reduceCtorEq, Nat.reduceAdd, Nat.reduceSub, Nat.reduceMul, Nat.reduceLT, Nat.reduceLeDiff, Nat.reduceEqDiff, Int.reduceAdd, Int.reduceSub, Int.reduceMul, Int.reduceLE, Int.reduceLT, Int.reduceEq, Int.reduceNe, Int.reduceNeg, Int.reduceToNat, p1, if_false]
            exact hN [_, _] _ fun _ => ⟨_, _, rfl, p2⟩
      · simp only [ce, if_false]
        exact hN [_, _] _ fun _ => ⟨_, _, rfl, bx.mono (by omega)⟩
  · intro vs S2 hI
    obtain ⟨u, v, rfl, bx⟩ := hI (by decide)
    first
      | exact bx.mono (by simp)
      | (simp only [sv_0, sv_1, sv_2, sv_3, sv_4, sv_5, reduceIte, reduceDIte, reduceCtorEq, Nat.reduceAdd, Nat.reduceSub, Nat.reduceMul, Nat.reduceLT, Nat.reduceLeDiff, Nat.reduceEqDiff, Int.reduceAdd, Int.reduceSub, Int.reduceMul, Int.reduceLE, Int.reduceLT, Int.reduceEq, Int.reduceNe, Int.reduceNeg, Int.reduceToNat]; exact bx.mono (by simp))
theorem right {n b k : Nat} {S : Sto} (hb : Bx S b (k + 20000)) : ∃ S', callN B (n + 12) 187 [.loc b] S = .ok (.v (.bl true)) S' ∧ Bx S' b k := by
  obtain ⟨j, S1, a1, h, hN, a3⟩ := sp_book (B := B) (n := n + 6) (b := b) (k := k + 9000) (m := 12) (S := S) rfl rfl rfl rfl rfl rfl rfl rfl rfl rfl (by decide) (by decide) (hb.mono (by omega))
  have a1 : callN B (n + 11) 15 [.loc b, .int 12] S = .ok (.v (jD j)) S1 := a1
  have J := h.jr
  have i1 := J.ix1
  have i2 : ∀ S, fIx (jD j) (.int 2) S = .ok (.v (.tup (j.N.map noteD))) S := fun S => rfl
  suffices hh : okE (callN B (n + 12) 187 [.loc b] S) fun x S1 => x = .v (.bl true) ∧ Bx S1 b k by
    obtain ⟨x, S1, g1, rfl, g2⟩ := hh
    exact ⟨_, g1, g2⟩
  refine ok_call (show B 187 = some q__law_right_k62 from rfl) rfl ?_
  unfold b__law_right_k62
  have cut : cutD (j.N.map noteD) none (some 5) = (j.N.take 5).map noteD := by
    have := cut_to (j.N.map noteD) 4 (by decide)
    rw [List.map_take]
    exact this
  simp only [sv_0, sv_1, sv_2, sv_3, sv_4, sv_5, reduceIte, reduceDIte, reduceCtorEq, Nat.reduceAdd, Nat.reduceSub, Nat.reduceMul, Nat.reduceLT, Nat.reduceLeDiff, Nat.reduceEqDiff, Int.reduceAdd, Int.reduceSub, Int.reduceMul, Int.reduceLE, Int.reduceLT, Int.reduceEq, Int.reduceNe, Int.reduceNeg, Int.reduceToNat, a1, i2, cut]
  refine ok_for0 [2, 3] (j.N.take 5) noteD (fun i vs S' => i ≤ 5 → ∃ u v, vs = [u, v] ∧ Bx S' b (k + 9000 - 400 * i)) [.no, .no] rfl (fun _ => ⟨.no, .no, rfl, a3⟩) ?_ ?_
  · rintro N1 K1 T1 hK hT i x vs S2 hp hI hN
    have hi : i < (j.N.take 5).length := (List.getElem?_eq_some_iff.mp hp).1
    rw [List.length_take] at hi
    obtain ⟨u, v, rfl, bx⟩ := hI (by omega)
    have hx : x ∈ j.N := (List.take_sublist _ _).subset (List.mem_of_getElem? hp)
    have bk := h.rem hx
    have ad := rem_ok h.w hx
    have wo : ∀ S, callN B (n + 11) 438 [jD j, noteD x] S = .ok (.v (jD (remF j x))) S := fun S => sp_without (B := B) (n := n + 9) rfl rfl J (.tup _) hx
    have wi : ∀ S, callN B (n + 11) 437 [jD (remF j x), noteD x] S = .ok (.v (jD j)) S := fun S => by
      have := sp_with (B := B) (n := n + 9) (S := S) rfl rfl bk.jr (x := x) (dn := noteD x) (.tup _) (ad.jw' h.w).2.no
      rw [add_rem h.w h.s hx] at this
      exact this
    obtain ⟨S4, p1, p2⟩ := pair (n := n + 3) (b := b) (k := k + 9000 - 400 * (i + 1)) (S := S2) ad h bk (by decide) (bx.mono (by omega))
    have p1 : callN B (n + 11) 127 [.loc b, jD j, jD (remF j x)] S2 = .ok (.v (.bl true)) S4 := p1
    simp only [sv_0, sv_1, sv_2, sv_3, sv_4, sv_5, reduceIte, reduceDIte, reduceCtorEq, Nat.reduceAdd, Nat.reduceSub, Nat.reduceMul, Nat.reduceLT, Nat.reduceLeDiff, Nat.reduceEqDiff, Int.reduceAdd, Int.reduceSub, Int.reduceMul, Int.reduceLE, Int.reduceLT, Int.reduceEq, Int.reduceNe, Int.reduceNeg, Int.reduceToNat, wo, wi, fNe_jD, decide_true, p1, if_false]
    exact hN [_, _] _ fun _ => ⟨_, _, rfl, p2⟩
  · intro vs S2 hI
    obtain ⟨u, v, rfl, bx⟩ := hI (by rw [List.length_take]; omega)
    have bx : Bx S2 b (k + 2000) := bx.mono (by rw [List.length_take]; omega)
    by_cases h0 : j.m = 0
    · simp only [sv_0, sv_1, sv_2, sv_3, sv_4, sv_5, reduceIte, reduceDIte, reduceCtorEq, Nat.reduceAdd, Nat.reduceSub, Nat.reduceMul, Nat.reduceLT, Nat.reduceLeDiff, Nat.reduceEqDiff, Int.reduceAdd, Int.reduceSub, Int.reduceMul, Int.reduceLE, Int.reduceLT, Int.reduceEq, Int.reduceNe, Int.reduceNeg, Int.reduceToNat, i1, h0, if_true]
      exact bx.mono (by omega)
    · have := h.w.m0
      obtain ⟨S4, p1, p2⟩ := parts (n := n + 1) (b := b) (k := k) (S := S2) h (by decide) (by omega) (by omega) (bx.mono (by omega))
      have p1 : callN B (n + 11) 130 [.loc b, jD j] S2 = .ok (.v (.bl true)) S4 := p1
      simp only [sv_0, sv_1, sv_2, sv_3, sv_4, sv_5, reduceIte, reduceDIte, reduceCtorEq, Nat.reduceAdd, Nat.reduceSub, Nat.reduceMul, Nat.reduceLT, Nat.reduceLeDiff, Nat.reduceEqDiff, Int.reduceAdd, Int.reduceSub, Int.reduceMul, Int.reduceLE, Int.reduceLT, Int.reduceEq, Int.reduceNe, Int.reduceNeg, Int.reduceToNat, i1, h0, if_false, p1]
      exact p2
theorem plain (ns : List Int) (hl : ns.length ≤ 63) : ∃ S', callN B 60 363 [.scr ns] [] = .ok (.v (.bl true)) S' :=
  lawA (B := B) (rid := 187) (T := 1) (u := 20000) rfl (by decide) rfl rfl (show B 363 = some q_law_k62 from rfl) (by decide) fun S b k h => right (n := 47) h
end K62

open PySem PySem.W PySem.Calls PyProof.Rows
theorem PySem.Challenge.cw_lastroads_k62_whole_more_notes_and_fewer_holds : PySem.Challenge.rw_lastroads_k62_whole_more_notes_and_fewer.Holds := by
  w_on; o_law
  refine HandSHeadRun.head_any (r := OpenLaw.row PySem.Challenge.rw_lastroads_k62_whole_more_notes_and_fewer) (q := view (OpenLaw.row PySem.Challenge.rw_lastroads_k62_whole_more_notes_and_fewer).prog [41]) (H := K62.hk) (ob := K62.ob) (M := 4000) (loose := K62.names) (d := HandSHeadRun.topDef (OpenLaw.row PySem.Challenge.rw_lastroads_k62_whole_more_notes_and_fewer).prog 41) (kwd := []) K62.ob_eq
    (by kernel_rfl) (fun s => by kernel_rfl) K62.run (by kernel_rfl) (by kernel_rfl) (by kernel_rfl) (by rfl) (by first | assumption | decide +kernel) (by decide +kernel) ⟨rfl, rfl, rfl, rfl, rfl, by decide +kernel⟩ ?hw ?hc
  case hw => w_witness2
  case hc =>
    refine L2.walk_ofE (l := PySem.Challenge.rw_lastroads_k62_whole_more_notes_and_fewer) (n := 63) (k := 60) (x := "_law_script") (CX := L2.CX0) rfl (by decide) (by kernel_rfl) ⟨rfl, by decide, by decide⟩ ?F (fun _ _ _ _ z => z)
    intro w mg fa h Y G hmg0
    obtain ⟨K, KX, c⟩ := Y
    have hmg : mg ("law" : PySem.Str) = some (.ref fa) := by
      have e : (HandSHeadRun.topDef (OpenLaw.row PySem.Challenge.rw_lastroads_k62_whole_more_notes_and_fewer).prog 41).name = ("law" : PySem.Str) := by kernel_rfl
      rw [← e]
      exact hmg0
    have fc := K62.facts KX G c
    obtain ⟨a0, fd0, F0, g0⟩ := fc.d363
    have hb := L2.FunD.bindsA (ps := ["_law_script"]) F0 fun _ _ _ _ _ _ us hl => match us, hl with | [_], _ => rfl
    have hall := fun base => MP.all_ok (P := PySem.Challenge.rw_lastroads_k62_whole_more_notes_and_fewer.prog) (w := w) (base := base) (K62.defs_ok fc) 59
    obtain rfl : a0 = fa := by
      rw [hmg] at g0
      cases g0
      rfl
    refine ⟨K, fd0, MP.spC K (MP.callN K62.B 60) 363 1, KX, fun s v => hb s [v] rfl, fun H a ns hl _ hS => MP.law_sp (K62.plain ns hl) hS, fun base _ _ => ?_⟩
    exact MP.fn_step (P := PySem.Challenge.rw_lastroads_k62_whole_more_notes_and_fewer.prog) (w := w) (mg := mg) (base := base) (B := K62.B) (n := 59) (i := 363) (d := K62.q_law_k62) F0 K62.s_law rfl rfl rfl fun cdv A outer s H E hr => K62.p_law (hall base _ hr) fc.m_all fc.m_range
