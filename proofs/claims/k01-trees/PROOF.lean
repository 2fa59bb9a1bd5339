import PyProof.Rows.All
import Wide.All
import OpenK.AllK
import Wide.FinOn
import HandS.ForMost
import HandS.Walk
import HandS.HeadHook1
import HandS.ExcOwn
import HandS.Defaults
import HandS.HeadEnd
import HandS.NoneIn
import HandS.Style
import HandS.More
import HandS.TupAny
import HandS.Deep
import HandS.IsInst
import HandS.SortInts
import HandS.Wide
import HandS.Conv
import KE.SortData
import KE.DataCmp
import HandS.TupLe
import HandS.SetFor
import HandS.SortKw
import HandS.Set
import HandS.Dict
import HandS.Iter
import KE.KDictList
import KE.KDictZip
import KE.GoesEnum
import KE.GoesMore
import HandS.Zip
import HandS.HeadHook2
import HandS.Strs
import KE.KExcInit
import HandS.ExcInit
import HandS.FStr
import HandS.FStrTup
import HandS.ExcIs
import KE.KTryMore
import PyProof.ReprRoads
import HandS.TupSets
import HandS.Keys
import KE.KStateDown
import HandS.Head0
import HandS.Head1
import HandS.Head2
import PySem.Challenge.RW_lastroads_k01_trees_or_not
set_option Elab.async false
set_option linter.all false
set_option maxRecDepth 100000
set_option maxHeartbeats 4000000
set_option autoImplicit false
namespace MP
open PySem PySem.Spec PyProof.Rows L2

/-! ### pure data -/
inductive D where
  | non | bl (b : Bool) | int (i : Int) | str (x : Str) | ty (n : String)
  | tup (xs : List D) | lst (xs : List D) | scr (ns : List Int) | wt (xs : List D) | loc (n : Nat)
  | dk (ks : List Key) (ds : List D) | dt (ks : List (List Key)) (ds : List D)
  | fk (ks : List Key) (ds : List D) | ft (ks : List (List Key)) (ds : List D)
  | ex (n f : Str) (x : D) | ex0 (n : Str) | cl (n : Str)
/-- what an object that may change holds -/
inductive O where
  | l (ds : List D) | k (ks : List Key) (ds : List D) | t (ks : List (List Key)) (ds : List D) | fk (ks : List Key) (ds : List D) | ft (ks : List (List Key)) (ds : List D)
def O.toD : O → D
  | .l ds => .lst ds
  | .k ks ds => .dk ks ds
  | .t ks ds => .dt ks ds
  | .fk ks ds => .fk ks ds
  | .ft ks ds => .ft ks ds
/-- a result: a value, or an object that nobody else knows -/
inductive R where
  | v (d : D) | o (x : O)
def R.val : R → D
  | .v d => d
  | .o x => x.toD
inductive Sl where
  | no | va (d : D) | ow (x : O)
abbrev Envm := List Sl
abbrev Sto := List O
inductive Res (α : Type) where
  | ok (a : α) (S : Sto)
  | xn (c : Nat) (x : D) (S : Sto)
  | bad
def Res.bind {α β : Type} (r : Res α) (f : α → Sto → Res β) : Res β := match r with
  | .ok a S => f a S
  | .xn c x S => .xn c x S
  | .bad => .bad
def Res.map {α β : Type} (r : Res α) (f : α → β) : Res β := match r with
  | .ok a S => .ok (f a) S
  | .xn c x S => .xn c x S
  | .bad => .bad
abbrev Calls := Nat → List D → Sto → Res R
abbrev DE := Envm → Sto → Res D
abbrev DR := Envm → Sto → Res R
abbrev DA := Envm → Sto → Res (List D)
abbrev DT := Envm → Sto → Res Bool
inductive Out where
  | nx (e : Envm) (S : Sto) | rt (r : R) (S : Sto) | bk (e : Envm) (S : Sto) | ct (e : Envm) (S : Sto) | xn (c : Nat) (x : D) (S : Sto) | bad
abbrev DS := Envm → Sto → Out

/-! ### what stands for what -/
/-- an exception of the class at C, its dict at d -/
def exT (a C : Addr) (d : Option Addr) : HO := .ext fun h => ∃ vs sl, h.get? a = some ({ cls := .ref C, dict := d, data := .fields vs, slots := sl } : Obj)
section
variable (K : PySem.W.Frag) (G : Hp) (r : List Addr)
mutual
inductive Rep : D → V → Prop
  | non : Rep .non .non
  | bl (b : Bool) : Rep (.bl b) (.bl b)
  | int (i : Int) : Rep (.int i) (.int i)
  | str (x : Str) : Rep (.str x) (.str x)
  | ty (n : String) : Rep (.ty n) (.ty n)
  | tup {a : Addr} {xs : List V} {ds : List D} : G a = some (.tup xs) → RepL ds xs → Rep (.tup ds) (.ref a)
  | wt {a : Addr} {xs : List V} {ds : List D} : SqT K G a xs → RepL ds xs → Rep (.wt ds) (.ref a)
  | lst {a : Addr} {xs : List V} {ds : List D} : G a = some (.lst xs) → RepL ds xs → Rep (.lst ds) (.ref a)
  | scr {a : Addr} {ns : List Int} : SqL K G a (ns.map V.int) → Rep (.scr ns) (.ref a)
  | loc {n : Nat} {a : Addr} : r[n]? = some a → Rep (.loc n) (.ref a)
  | dk {a : Addr} {ks : List Key} {ds : List D} {kvs : List (Key × V)} : G a = some (.dK kvs) → kvs.map (·.1) = ks → RepL ds (kvs.map (·.2)) → Rep (.dk ks ds) (.ref a)
  | dt {a : Addr} {ks : List (List Key)} {ds : List D} {kvs : List (List Key × V)} : G a = some (.dT kvs) → kvs.map (·.1) = ks → RepL ds (kvs.map (·.2)) → Rep (.dt ks ds) (.ref a)
  | fk {a : Addr} {o : Obj} {ks : List Key} {ds : List D} {kvs : List (Key × V)} : G a = some (.frz o (.dK kvs)) → kvs.map (·.1) = ks → RepL ds (kvs.map (·.2)) → Rep (.fk ks ds) (.ref a)
  | ft {a : Addr} {o : Obj} {ks : List (List Key)} {ds : List D} {kvs : List (List Key × V)} : G a = some (.frz o (.dT kvs)) → kvs.map (·.1) = ks → RepL ds (kvs.map (·.2)) → Rep (.ft ks ds) (.ref a)
  | ex {a d : Addr} {n f : Str} {x : D} {v : V} : G a = some (exT a (He.ga K n) (some d)) → G d = some (.xd [(f, v)]) → Rep x v → Rep (.ex n f x) (.ref a)
  | ex0 {a : Addr} {n : Str} : G a = some (exT a (He.ga K n) none) → Rep (.ex0 n) (.ref a)
  | cl {n : Str} : Rep (.cl n) (.ref (He.ga K n))
inductive RepL : List D → List V → Prop
  | nil : RepL [] []
  | cons {d : D} {x : V} {ds : List D} {xs : List V} : Rep d x → RepL ds xs → RepL (d :: ds) (x :: xs)
end
inductive RepO : O → HO → Prop
  | l {ds : List D} {xs : List V} : RepL K G r ds xs → RepO (.l ds) (.lst xs)
  | k {ks : List Key} {ds : List D} {kvs : List (Key × V)} : kvs.map (·.1) = ks → RepL K G r ds (kvs.map (·.2)) → RepO (.k ks ds) (.dK kvs)
  | t {ks : List (List Key)} {ds : List D} {kvs : List (List Key × V)} : kvs.map (·.1) = ks → RepL K G r ds (kvs.map (·.2)) → RepO (.t ks ds) (.dT kvs)
  | fk {o : Obj} {ks : List Key} {ds : List D} {kvs : List (Key × V)} : kvs.map (·.1) = ks → RepL K G r ds (kvs.map (·.2)) → RepO (.fk ks ds) (.frz o (.dK kvs))
  | ft {o : Obj} {ks : List (List Key)} {ds : List D} {kvs : List (List Key × V)} : kvs.map (·.1) = ks → RepL K G r ds (kvs.map (·.2)) → RepO (.ft ks ds) (.frz o (.dT kvs))
end

def SubH (G G' : Hp) : Prop := ∀ a o, G a = some o → G' a = some o
theorem SubH.refl (G : Hp) : SubH G G := fun _ _ h => h
theorem SubH.trans {A B C : Hp} (h : SubH A B) (k : SubH B C) : SubH A C := fun a o e => k a o (h a o e)
theorem SubH.rd {G G' : Hp} {a : Addr} {u : HO} (h : SubH G G') (k : Rd G a u) : Rd G' a u := by
  rcases k with k | ⟨o, k⟩
  · exact .inl (h _ _ k)
  · exact .inr ⟨o, h _ _ k⟩
theorem SubH.sqL {K : PySem.W.Frag} {G G' : Hp} {a : Addr} {xs : List V} (h : SubH G G') (k : SqL K G a xs) : SqL K G' a xs := by
  rcases k with k | k
  · exact .inl (h.rd k)
  · exact .inr k
theorem SubH.sqT {K : PySem.W.Frag} {G G' : Hp} {a : Addr} {xs : List V} (h : SubH G G') (k : SqT K G a xs) : SqT K G' a xs := by
  rcases k with k | k
  · exact .inl (h.rd k)
  · exact .inr k
theorem pre_get {r r' : List Addr} {n : Nat} {a : Addr} (h : r <+: r') (e : r[n]? = some a) : r'[n]? = some a := by
  obtain ⟨t, rfl⟩ := h
  obtain ⟨hn, _⟩ := List.getElem?_eq_some_iff.mp e
  rw [List.getElem?_append_left hn]
  exact e
section
variable {K : PySem.W.Frag} {G G' : Hp} {r r' : List Addr}
mutual
theorem Rep.mono (h : SubH G G') (p : r <+: r') : ∀ {d : D} {v : V}, Rep K G r d v → Rep K G' r' d v
  | .non, _, q => by cases q; exact .non
  | .bl _, _, q => by cases q; exact .bl _
  | .int _, _, q => by cases q; exact .int _
  | .str _, _, q => by cases q; exact .str _
  | .ty _, _, q => by cases q; exact .ty _
  | .tup ds, _, q => by
    cases q with
    | tup a b => exact .tup (h _ _ a) (RepL.mono h p b)
  | .wt ds, _, q => by
    cases q with
    | wt a b => exact .wt (h.sqT a) (RepL.mono h p b)
  | .lst ds, _, q => by
    cases q with
    | lst a b => exact .lst (h _ _ a) (RepL.mono h p b)
  | .scr ns, _, q => by
    cases q with
    | scr a => exact .scr (h.sqL a)
  | .loc n, _, q => by
    cases q with
    | loc a => exact .loc (pre_get p a)
  | .dk ks ds, _, q => by
    cases q with
    | dk a b c => exact .dk (h _ _ a) b (RepL.mono h p c)
  | .dt ks ds, _, q => by
    cases q with
    | dt a b c => exact .dt (h _ _ a) b (RepL.mono h p c)
  | .fk ks ds, _, q => by
    cases q with
    | fk a b c => exact .fk (h _ _ a) b (RepL.mono h p c)
  | .ft ks ds, _, q => by
    cases q with
    | ft a b c => exact .ft (h _ _ a) b (RepL.mono h p c)
  | .ex n f x, _, q => by
    cases q with
    | ex a b c => exact .ex (h _ _ a) (h _ _ b) (Rep.mono h p c)
  | .ex0 n, _, q => by
    cases q with
    | ex0 a => exact .ex0 (h _ _ a)
  | .cl n, _, q => by
    cases q with
    | cl => exact .cl
theorem RepL.mono (h : SubH G G') (p : r <+: r') : ∀ {ds : List D} {xs : List V}, RepL K G r ds xs → RepL K G' r' ds xs
  | [], _, q => by cases q; exact .nil
  | _ :: _, _, q => by
    cases q with
    | cons a b => exact .cons (Rep.mono h p a) (RepL.mono h p b)
end
theorem RepO.mono (h : SubH G G') (p : r <+: r') {x : O} {u : HO} (q : RepO K G r x u) : RepO K G' r' x u := by
  cases q with
  | l a => exact .l (a.mono h p)
  | k a b => exact .k a (b.mono h p)
  | t a b => exact .t a (b.mono h p)
  | fk a b => exact .fk a (b.mono h p)
  | ft a b => exact .ft a (b.mono h p)
theorem RepL.length : ∀ {ds : List D} {xs : List V}, RepL K G r ds xs → ds.length = xs.length
  | _, _, .nil => rfl
  | _, _, .cons _ b => by simp [RepL.length b]
theorem RepL.get : ∀ {ds : List D} {xs : List V} {i : Nat} {d : D}, RepL K G r ds xs → ds[i]? = some d → ∃ x, xs[i]? = some x ∧ Rep K G r d x
  | _, _, i, _, .nil, e => by simp at e
  | _, _, 0, _, .cons a _, e => by simp at e; subst e; exact ⟨_, rfl, a⟩
  | _, _, i + 1, d, .cons _ b, e => by
    obtain ⟨x, h1, h2⟩ := RepL.get (i := i) (d := d) b (by simpa using e)
    exact ⟨x, by simpa using h1, h2⟩
theorem RepL.getV : ∀ {ds : List D} {xs : List V} {i : Nat} {x : V}, RepL K G r ds xs → xs[i]? = some x → ∃ d, ds[i]? = some d ∧ Rep K G r d x
  | _, _, i, _, .nil, e => by simp at e
  | _, _, 0, _, .cons a _, e => by simp at e; subst e; exact ⟨_, rfl, a⟩
  | _, _, i + 1, d, .cons _ b, e => by
    obtain ⟨x, h1, h2⟩ := RepL.getV (i := i) (x := d) b (by simpa using e)
    exact ⟨x, by simpa using h1, h2⟩
theorem RepL.append : ∀ {ds es : List D} {xs ys : List V}, RepL K G r ds xs → RepL K G r es ys → RepL K G r (ds ++ es) (xs ++ ys)
  | _, _, _, _, .nil, s => s
  | _, _, _, _, .cons a b, s => .cons a (RepL.append b s)
theorem RepL.set {d : D} {x : V} (q : Rep K G r d x) : ∀ {ds : List D} {xs : List V} (i : Nat), RepL K G r ds xs → RepL K G r (ds.set i d) (xs.set i x)
  | _, _, _, .nil => .nil
  | _, _, 0, .cons _ b => .cons q b
  | _, _, i + 1, .cons a b => .cons a (RepL.set q i b)
theorem RepL.take : ∀ {ds : List D} {xs : List V} (n : Nat), RepL K G r ds xs → RepL K G r (ds.take n) (xs.take n)
  | _, _, 0, _ => .nil
  | _, _, _ + 1, .nil => .nil
  | _, _, n + 1, .cons a b => .cons a (RepL.take n b)
theorem RepL.drop : ∀ {ds : List D} {xs : List V} (n : Nat), RepL K G r ds xs → RepL K G r (ds.drop n) (xs.drop n)
  | _, _, 0, q => q
  | _, _, _ + 1, .nil => .nil
  | _, _, n + 1, .cons _ b => RepL.drop n b
theorem RepL.reverse : ∀ {ds : List D} {xs : List V}, RepL K G r ds xs → RepL K G r ds.reverse xs.reverse
  | _, _, .nil => .nil
  | _, _, .cons a b => by
    simp only [List.reverse_cons]
    exact (RepL.reverse b).append (.cons a .nil)
theorem RepL.eraseIdx : ∀ {ds : List D} {xs : List V} (n : Nat), RepL K G r ds xs → RepL K G r (ds.eraseIdx n) (xs.eraseIdx n)
  | _, _, _, .nil => .nil
  | _, _, 0, .cons _ b => b
  | _, _, n + 1, .cons a b => .cons a (RepL.eraseIdx n b)
theorem RepL.snoc {ds : List D} {xs : List V} {d : D} {x : V} (h : RepL K G r ds xs) (q : Rep K G r d x) : RepL K G r (ds ++ [d]) (xs ++ [x]) := h.append (.cons q .nil)
end

/-! ### the ghost world: G what never changes, ρ where the shared objects stand -/
structure Wd where
  G : Hp
  r : List Addr
structure Ext (W : Wd) (H : Hp) (W' : Wd) (H' : Hp) : Prop where
  g : SubH W.G W'.G
  r : W.r <+: W'.r
  gn : ∀ a, W.G a = none → W'.G a ≠ none → H a = none ∨ (a ∉ W.r ∧ ∃ xs, H a = some (.tup xs))
  rn : ∀ a, a ∈ W'.r → a ∈ W.r ∨ H a = none
  h : ∀ a o, H a = some o → a ∉ W.r → H' a = some o
  k : ∀ a o, H a = some o → ∃ o', H' a = some o'
/-- the world has grown -/
structure Gr (W W' : Wd) : Prop where
  g : SubH W.G W'.G
  r : W.r <+: W'.r
theorem Gr.refl (W : Wd) : Gr W W := ⟨SubH.refl _, List.prefix_refl _⟩
theorem Gr.trans {A B C : Wd} (h : Gr A B) (k : Gr B C) : Gr A C := ⟨h.g.trans k.g, h.r.trans k.r⟩
theorem Ext.gr {W W' : Wd} {H H' : Hp} (e : Ext W H W' H') : Gr W W' := ⟨e.g, e.r⟩
theorem Ext.refl (W : Wd) (H : Hp) : Ext W H W H :=
  ⟨SubH.refl _, List.prefix_refl _, fun a h k => absurd h k, fun a h => .inl h, fun _ _ h _ => h, fun _ o h => ⟨o, h⟩⟩
theorem Ext.trans {W W1 W2 : Wd} {H H1 H2 : Hp} (a : Ext W H W1 H1) (b : Ext W1 H1 W2 H2) : Ext W H W2 H2 := by
  have back : ∀ c, H1 c = none → H c = none := fun c e => by
    cases q : H c with
    | none => rfl
    | some o =>
      obtain ⟨o', e'⟩ := a.k c o q
      rw [e] at e'; cases e'
  refine ⟨a.g.trans b.g, a.r.trans b.r, fun c h k => ?_, fun c h => ?_, fun c o h n => ?_, fun c o h => ?_⟩
  · cases q : W1.G c with
    | none =>
      rcases b.gn c q k with z | ⟨z1, xs, z2⟩
      · exact .inl (back c z)
      · have n : c ∉ W.r := fun z => z1 (a.r.subset z)
        cases e : H c with
        | none => exact .inl rfl
        | some o =>
          have := a.h c o e n
          rw [z2] at this
          cases this
          exact .inr ⟨n, xs, rfl⟩
    | some o => exact a.gn c h (by rw [q]; simp)
  · rcases b.rn c h with z | z
    · exact a.rn c z
    · exact .inr (back c z)
  · refine b.h c o (a.h c o h n) fun z => ?_
    rcases a.rn c z with z | z
    · exact n z
    · rw [h] at z; cases z
  · obtain ⟨o', e⟩ := a.k c o h
    exact b.k c o' e
/-- a tracked thing that is not of the world stays out of it -/
def NoTup (o : HO) : Prop := ∀ xs, o ≠ .tup xs
theorem RepO.nt {K : PySem.W.Frag} {G : Hp} {r : List Addr} {x : O} {o : HO} (h : RepO K G r x o) : NoTup o := by cases h <;> exact fun _ e => nomatch e
theorem Ext.out {W W' : Wd} {H H' : Hp} (e : Ext W H W' H') {a : Addr} {o : HO} (h : H a = some o) (t : NoTup o) (n : W.G a = none) (m : a ∉ W.r) : H' a = some o ∧ W'.G a = none ∧ a ∉ W'.r := by
  refine ⟨e.h a o h m, ?_, fun z => ?_⟩
  · cases q : W'.G a with
    | none => rfl
    | some u =>
      rcases e.gn a n (by rw [q]; simp) with z | ⟨_, xs, z⟩
      · rw [h] at z; cases z
      · rw [h] at z
        cases z
        exact absurd rfl (t xs)
  · rcases e.rn a z with z | z
    · exact m z
    · rw [h] at z; cases z
theorem Ext.fresh {W W' : Wd} {H H' : Hp} (e : Ext W H W' H') {a : Addr} (h : H' a = none) : H a = none := by
  cases q : H a with
  | none => rfl
  | some o =>
    obtain ⟨o', z⟩ := e.k a o q
    rw [h] at z; cases z
section
variable (K : PySem.W.Frag)
/-- the world holds of the heap -/
structure WOk (W : Wd) (S : Sto) (H : Hp) : Prop where
  sub : SubH W.G H
  nd : W.r.Nodup
  len : W.r.length = S.length
  cell : ∀ (n : Nat) (x : O), S[n]? = some x → ∃ a u, W.r[n]? = some a ∧ H a = some u ∧ RepO K W.G W.r x u
  ng : ∀ a, a ∈ W.r → W.G a = none
def RepR (W : Wd) (H H0 : Hp) : R → V → Prop
  | .v d, v => Rep K W.G W.r d v
  | .o x, v => ∃ a u, v = .ref a ∧ H a = some u ∧ RepO K W.G W.r x u ∧ W.G a = none ∧ a ∉ W.r ∧ H0 a = none
/-- frozen, or a slot's own object that stands as it is -/
def RepB (W : Wd) (H : Hp) (d : D) (v : V) : Prop :=
  Rep K W.G W.r d v ∨ ∃ x a u, d = O.toD x ∧ v = .ref a ∧ H a = some u ∧ RepO K W.G W.r x u ∧ W.G a = none ∧ a ∉ W.r
def SlOk (W : Wd) (H H0 : Hp) : Sl → Option V → Prop
  | .no, _ => True
  | .va d, o => ∃ v, o = some v ∧ Rep K W.G W.r d v
  | .ow x, o => ∃ a u, o = some (.ref a) ∧ H a = some u ∧ RepO K W.G W.r x u ∧ W.G a = none ∧ a ∉ W.r ∧ H0 a = none
structure EnvOk (W : Wd) (H H0 : Hp) (e : Envm) (σ : L2.St) : Prop where
  len : e.length = σ.length
  sl : ∀ (i : Nat) (s : Sl) (o : Option V), e[i]? = some s → σ[i]? = some o → SlOk K W H H0 s o
  dis : ∀ (i j : Nat) (x y : O) (a : Addr), e[i]? = some (.ow x) → e[j]? = some (.ow y) → σ[i]? = some (some (.ref a)) → σ[j]? = some (some (.ref a)) → i = j
end
section
variable {K : PySem.W.Frag} {W W' : Wd} {H H' H0 : Hp} {S S' : Sto}
theorem Rep.ext {d : D} {v : V} (q : Rep K W.G W.r d v) (e : Ext W H W' H') : Rep K W'.G W'.r d v := q.mono e.g e.r
theorem RepL.ext {d : List D} {v : List V} (q : RepL K W.G W.r d v) (e : Ext W H W' H') : RepL K W'.G W'.r d v := q.mono e.g e.r
theorem RepB.ext {d : D} {v : V} (q : RepB K W H d v) (e : Ext W H W' H') : RepB K W' H' d v := by
  rcases q with q | ⟨x, a, u, e1, e2, e3, e4, e5, e6⟩
  · exact .inl (q.ext e)
  · obtain ⟨h1, h2, h3⟩ := e.out e3 e4.nt e5 e6
    exact .inr ⟨x, a, u, e1, e2, h1, e4.mono e.g e.r, h2, h3⟩
theorem EnvOk.ext {e : Envm} {σ : L2.St} (q : EnvOk K W H H0 e σ) (x : Ext W H W' H') : EnvOk K W' H' H0 e σ := by
  refine ⟨q.len, fun i s o h1 h2 => ?_, q.dis⟩
  have z := q.sl i s o h1 h2
  cases s with
  | no => trivial
  | va d =>
    obtain ⟨v, z1, z2⟩ := z
    exact ⟨v, z1, z2.ext x⟩
  | ow y =>
    obtain ⟨a, u, z1, z2, z3, z4, z5, z6⟩ := z
    obtain ⟨h1, h2, h3⟩ := x.out z2 z3.nt z4 z5
    exact ⟨a, u, z1, h1, z3.mono x.g x.r, h2, h3, z6⟩
end

/-! ### readings -/
section
variable (K : PySem.W.Frag)
/-- an expression: its value frozen -/
def tV (de : DE) : TE := fun σ H Q => ∃ W S H0 env, WOk K W S H ∧ EnvOk K W H H0 env σ ∧ ∃ d S', de env S = .ok d S' ∧ ∀ W' H' v, Ext W H W' H' → WOk K W' S' H' → Rep K W'.G W'.r d v → Q v H'
/-- .. frozen, or a slot's own object -/
def tB (de : DE) : TE := fun σ H Q => ∃ W S H0 env, WOk K W S H ∧ EnvOk K W H H0 env σ ∧ ∃ d S', de env S = .ok d S' ∧ ∀ W' H' v, Ext W H W' H' → WOk K W' S' H' → RepB K W' H' d v → Q v H'
/-- .. a value or a new object -/
def tR (dr : DR) : TE := fun σ H Q => ∃ W S H0 env, WOk K W S H ∧ EnvOk K W H H0 env σ ∧ ∃ d S', dr env S = .ok d S' ∧ ∀ W' H' v, Ext W H W' H' → WOk K W' S' H' → RepR K W' H' H d v → Q v H'
def tAV (da : DA) : TA := fun σ H Q => ∃ W S H0 env, WOk K W S H ∧ EnvOk K W H H0 env σ ∧ ∃ d S', da env S = .ok d S' ∧ ∀ W' H' v, Ext W H W' H' → WOk K W' S' H' → RepL K W'.G W'.r d v → Q v H'
/-- pairs of lists -/
inductive AllB (W : Wd) (H : Hp) : List D → List V → Prop
  | nil : AllB W H [] []
  | cons {d : D} {v : V} {ds : List D} {vs : List V} : RepB K W H d v → AllB W H ds vs → AllB W H (d :: ds) (v :: vs)
def tAB (da : DA) : TA := fun σ H Q => ∃ W S H0 env, WOk K W S H ∧ EnvOk K W H H0 env σ ∧ ∃ d S', da env S = .ok d S' ∧ ∀ W' H' v, Ext W H W' H' → WOk K W' S' H' → AllB K W' H' d v → Q v H'
def tT (dt : DT) : TT := fun σ H Q => ∃ W S H0 env, WOk K W S H ∧ EnvOk K W H H0 env σ ∧ ∃ d S', dt env S = .ok d S' ∧ ∀ W' H', Ext W H W' H' → WOk K W' S' H' → Q d H'
/-- the state within a def's body that began at H0 with W0 -/
structure SOk (W0 : Wd) (H0 : Hp) (W : Wd) (H : Hp) (S : Sto) (env : Envm) (σ : L2.St) : Prop where
  ext : Ext W0 H0 W H
  ok : WOk K W S H
  env : EnvOk K W H H0 env σ
/-- an exception in the air: its class, its dict -/
def RepX (W : Wd) : D → Value → Option Addr → Prop
  | .ex n f x, cls, d => cls = .ref (He.ga K n) ∧ ∃ dd v, d = some dd ∧ W.G dd = some (.xd [(f, v)]) ∧ Rep K W.G W.r x v
  | .ex0 n, cls, d => cls = .ref (He.ga K n) ∧ d = none
  | _, _, _ => False
def OutOk (EX : XK) (W0 : Wd) (H0 : Hp) (Wc : Wd) (D : Ends) : Out → Prop
  | .nx env S => ∀ W H σ, SOk K W0 H0 W H S env σ → Gr Wc W → D.nx σ H
  | .bk env S => ∀ W H σ, SOk K W0 H0 W H S env σ → Gr Wc W → D.bk σ H
  | .ct env S => ∀ W H σ, SOk K W0 H0 W H S env σ → Gr Wc W → D.ct σ H
  | .rt r S => ∀ W H v, Ext W0 H0 W H → WOk K W S H → RepR K W H H0 r v → D.rt v H
  | .xn _ x S => ∀ W H cls d, Ext W0 H0 W H → WOk K W S H → RepX K W x cls d → EX cls d H
  | .bad => False
def tS (EX : XK) (ds : DS) : TS := fun D σ H => ∃ W0 H0 W S env, SOk K W0 H0 W H S env σ ∧ OutOk K EX W0 H0 W D (ds env S)
theorem OutOk.mono {EX : XK} {W0 W W' : Wd} {H0 : Hp} {D : Ends} {o : Out} (h : OutOk K EX W0 H0 W D o) (g : Gr W W') : OutOk K EX W0 H0 W' D o := by
  cases o with
  | nx e S => exact fun W1 H σ s g1 => h W1 H σ s (g.trans g1)
  | bk e S => exact fun W1 H σ s g1 => h W1 H σ s (g.trans g1)
  | ct e S => exact fun W1 H σ s g1 => h W1 H σ s (g.trans g1)
  | rt r S => exact h
  | xn c x S => exact h
  | bad => exact h
end
end MP

namespace MP
open PySem PySem.Spec PyProof.Rows L2
/-! ### defs called where no built-in that watches itself (a repr) is under way -/
structure FnG (P : Program) (w : World) (K : PySem.W.Frag) (mg : Str → Option Value) (base : Heap) (CX : CXT) (k : Nat) (f : Addr) (fd : FuncData) (ps : List Str) (sp : Sp) : Prop where
  ln : ∀ vs H Q E, sp vs H Q E → ps.length = vs.length
  go : ∀ (E : XK) (Q : VK) (H : Hp) (s : Shared) (A : Around) (outer : List Env) (ar : Args) (vs : List V) (us : List Value), A.guards = some [] → Room k A → sp vs H Q E → Vals vs us → BindsTo s fd ar (ps.zip us) → Env0 P w K mg base A outer s H →
    codeAny (model P w) A (.call (.ref f) ar) (CR CX outer P w H s Q E) s
section
variable {X : Cx} {CX : CXT} {k : Nat} {f : Addr} {fd : FuncData} {ps : List Str} {sp : Sp} {E : L2.St → XK} {x : Str} {p pos : Pos} {e : Expr} {es : List Expr} {t : TA}
/-- how such a call ends, seen from the caller -/
theorem after_g {Q : VK} {pins : List (Addr × Obj)} {σ : L2.St} {H : Hp} {s s' : Shared} {E : XK} {r : Result} (I : Inv X pins σ H s) (hx : PassesAt CX X σ E) (h : CR CX X.stack X.prog X.w H s Q E r s') :
    match r with
    | .ok (.ret u) => EP X pins σ Q u s'
    | .ok _ => False
    | .error e => X.xe e s' := by
  cases r with
  | error e => exact hx pins H s e s' I h
  | ok fl => cases fl <;> first | exact I.after h | exact h
def tCallG (sp : Sp) (E : L2.St → XK) (t : TA) : TE := fun σ H Q => t σ H fun vs H1 => sp vs H1 Q (E σ)
theorem run_g {pins : List (Addr × Obj)} {σ : L2.St} {H : Hp} {s : Shared} {Q : VK} {us : List Value} {vs : List V} (F : FnG X.prog X.w X.K X.mg X.base CX k f fd ps sp) (gd : X.A.guards = some []) (rm : Room k X.A) (bd : Binds X.K fd ps []) (px : PassesAt CX X σ (E σ))
    (I : Inv X pins σ H s) (rv : Vals vs us) (q : sp vs H Q (E σ)) : wpAny (model X.prog X.w) X.A (call (.ref f) us) (EP X pins σ Q) X.xe s := by
  have b1 : BindsTo s fd ⟨us, []⟩ (ps.zip us) := by
    have z := bd s us I.kIn (by rw [List.append_nil, ← rv.length, F.ln _ _ _ _ q])
    rwa [List.append_nil] at z
  refine wpAny_call (codeAny_mono (F.go (E σ) Q H s X.A X.stack ⟨us, []⟩ vs us gd rm q rv b1 I.env0) fun r s' z => ?_)
  have z := after_g I px z
  cases r with
  | error e => exact z
  | ok fl => cases fl <;> first | exact z | exact z.elim
theorem pe_callG (F : FnG X.prog X.w X.K X.mg X.base CX k f fd ps sp) (gd : X.A.guards = some []) (rm : Room k X.A) (gl : Gl X x) (me : X.mg x = some (.ref f)) (kp : PySem.W.keepIn X.K (.ref f) = true) (bd : Binds X.K fd ps []) (px : ∀ σ, PassesAt CX X σ (E σ)) (hA : PA X (e :: es) t)
    (nd : (x == ("__debug__" : Str)) = false := by decide) (hs : starEach (e :: es) X.env = (false, eval e X.env) :: starEach es X.env := by rfl) (hn : (backTo pos (starEach es X.env)).any (·.1) = false := by rfl) :
    PE X (.Call (.Name x p) (e :: es) [] pos) (tCallG sp E t) :=
  ⟨fun pins s σ H Q I z => wpAny_Call_Name_kw (ld_glob I gl me (PySem.W.callWith_K (h₀ := X.base) I.ok.mod.kin kp (thn (hA.run pos pins s σ H _ I z) fun us s2 ⟨vs, H2, I2, rv, q⟩ => ⟨I2.kIn, run_g F gd rm bd (px σ) I2 rv q⟩) hs hn) nd)⟩
end
/-- a def of the text by its body -/
theorem fnG_of {P : Program} {w : World} {K : PySem.W.Frag} {mg : Str → Option Value} {base : Heap} {x qual : Str} {params : Arguments} {body : List Stmt} {scope : Scope} {dvs : List V} {kws : List (Str × V)} {f : Addr} {fd : FuncData} {CX : CXT} {N ps : List Str} {k : Nat} {sp : Sp}
    (F : FunD K x qual params body scope dvs kws f fd) (S : FnScope N ps scope) (hlen : ∀ vs H Q E, sp vs H Q E → vs.length = ps.length)
    (hb : ∀ (cdv : Value) (A : Around) (outer : List Env) (s : Shared) (H : Hp) (vs : List V) (Q : VK) (E : XK), (A.deeper (envOfC qual scope s.heap.objs.size f cdv)).guards = some [] → Room k (A.deeper (envOfC qual scope s.heap.objs.size f cdv)) → sp vs H Q E →
      ∃ t, PSs (cxOf CX P w K mg base N qual scope f cdv A outer s H E) body t ∧ t { nx := fun _ H' => Q .non H', rt := Q } (L2.start N vs) H) : FnG P w K mg base CX (k + 1) f fd ps sp := by
  obtain ⟨oc, od, dV, kV, doc, pm, an, cdv, ct, osl, rfl, lk, cd, _, _⟩ := F.ex
  refine ⟨fun vs H Q E z => (hlen vs H Q E z).symm, fun E Q H s A outer ar vs us gd rm hsp rv bd e0 => ?_⟩
  have kIn : K.In s.heap := e0.mod.kin.keeps fun b o z => (e0.bs b o z).1
  have nl : s.heap.NoLimit := e0.mod.nolimit.keeps fun b o z => (e0.bs b o z).1
  have slots : ∀ y ∈ ps.zip us, scope.names.lookup y.1 = some .local ∨ (scope.names.lookup y.1 = some .cell ∧ ((cellsFrom (s.heap.objs.size + 1) scope.names []).lookup y.1).isSome = true) := fun y hy => (S.par y.1 (List.of_mem_zip (a := y.1) (b := y.2) hy).1).imp id fun q => ⟨q, PySem.W.cellsFrom_some _ _ _ (.inl q)⟩
  refine codeAny_call_function rm.depth (kIn _ _ lk) rfl S.co S.gen rfl (PySem.W.codeRec_of kIn cd) (bd _ _ _ _ (wpAny_newFunctionEnv_cells S.kind slots fun env he s1 ic => ?_))
  subst he
  obtain ⟨t, h1, h2⟩ := hb cdv A outer s H vs Q E gd (rm.deeper _) hsp
  have I := inv_start (CX := CX) (E := E) S rm.hd e0 (hlen _ _ _ _ hsp) rv ic
  refine ⟨nl.keeps ic.toInCall.keep, codeAny_func (wpAny_mono (h1.run [] s1 (L2.start N vs) H _ I h2) (fun fl s' z => ?_) fun _ _ z => z)⟩
  cases fl with
  | next =>
    obtain ⟨σ', H', J, q⟩ := z
    exact ⟨.non, H', J.os, J.bare, J.base, J.hok, rfl, q⟩
  | ret u =>
    obtain ⟨v, σ', H', J, r1, q⟩ := z
    exact ⟨v, H', J.os, J.bare, J.base, J.hok, r1, q⟩
  | _ =>
    obtain ⟨_, _, _, q⟩ := z
    exact q.elim
/-! ### the law at the head -/
theorem hidden {h : Heap} {H : Hp} {b : Addr} {o : Obj} {a : Addr} {vs : List Value} (ha : h.get? a = some { cls := .type "list", data := .seq vs.toArray }) (hA : ∀ b, H b ≠ none → b = a) (z : h.get? b = some o) (nd : ∀ q n, o.data ≠ .seq q n) : H b = none := by
  cases q : H b with
  | none => rfl
  | some u =>
    have e := hA b (by rw [q]; exact fun z => nomatch z)
    rw [e, ha] at z
    cases z
    exact absurd rfl (nd _ _)
theorem core_g {P : Program} {w : World} {K : PySem.W.Frag} {mg mb : Str → Option Value} {CX : CXT} {k : Nat} {fa a : Addr} {fd : FuncData} {x : Str} {sp : Sp} {sh : Shared} {vs : List Value} {H : Hp}
    (kIn : K.In sh.heap) (g1 : sh.heap.Ns mainGlobals mg) (g2 : sh.heap.Ns builtinsNs mb) (g3 : ∀ y : Str, y ≠ "__name__" → mb y = bootBuiltins y) (nl : sh.heap.NoLimit) (g4 : sh.gens = #[])
    (ha : sh.heap.get? a = some { cls := .type "list", data := .seq vs.toArray }) (rm : Room k callerA)
    (F : ∀ base : Heap, K.In base → base.Ns mainGlobals mg → FnG P w K mg base CX k fa fd [x] sp) (bd : ∀ (s : Shared) (u : Value), BindsTo s fd ⟨[u], []⟩ [(x, u)])
    (nx : ∀ H e s', CX [] H sh (fun _ _ _ => False) e s' → False) (hO : Only H) (hS : sp [.ref a] H (fun v _ => v = .bl true) fun _ _ _ => False) (ok : HOk P w H sh.heap) (hA : ∀ b, H b ≠ none → b = a) (hK : H a ≠ none → K.lookup a = none) :
    codeAny (model P w) callerA (.call (.ref fa) ⟨[.ref a], []⟩) (fun r s' => r = .ok (.ret (.bool true)) ∧ OldK sh.heap s'.heap ∧ s'.os = sh.os ∧ AllBare s'.gens) sh := by
  have keepNs : ∀ {b : Addr} {m : Str → Option Value}, sh.heap.Ns b m → (hidT sh.heap H).Ns b m := fun {b m} ⟨o, es, ep, z, d, r⟩ => ⟨o, es, ep, hidT_get z (hidden ha hA z fun q n e => by rw [d] at e; cases e), d, r⟩
  have kIn2 : K.In (hidT sh.heap H) := fun b o z => hidT_get (kIn b o z) (by
    cases q : H b with
    | none => rfl
    | some u =>
      have hq : H b ≠ none := by rw [q]; exact fun z => nomatch z
      obtain rfl := hA b hq
      rw [hK hq] at z
      cases z)
  have md : Mod K mg (hidT sh.heap H) := ⟨kIn2, keepNs g1, ⟨mb, keepNs g2, g3⟩, nl.elim fun mc z => ⟨mc, keepNs z.1, z.2⟩⟩
  have e0 : Env0 P w K mg (hidT sh.heap H) callerA [] sh H := ⟨rfl, md, fun _ _ z => of_hidT z, Nat.le_of_eq (hidT_size _ _), trivial, fun b hb => (nomatch (show b ∈ ([] : List Addr) from hb)), ok, .of_eq g4⟩
  refine codeAny_mono ((F _ kIn2 (keepNs g1)).go _ _ H sh callerA [] ⟨[.ref a], []⟩ [.ref a] [.ref a] rfl rm hS (.cons rfl .nil) (bd sh (.ref a)) e0) fun r s' z => ?_
  cases r with
  | error e => exact (nx H e s' z).elim
  | ok fl =>
    cases fl with
    | ret u =>
      obtain ⟨v, H2, os, bare, un, ok2, rv, q⟩ := z
      subst q
      have q : u = Value.bool true := rv
      refine ⟨by rw [q], OldK.of_keep fun b o z2 => ?_, os, bare⟩
      cases hb : H b with
      | none => exact un.keep b o z2 hb (fun n => (nomatch (show b ∈ ([] : List Addr) from n))) (fun n => nomatch n)
      | some c =>
        rcases hO b with n | ⟨ob, xs, n⟩
        · rw [hb] at n; cases n
        · have e1 := (ok b _ n).1
          rw [z2] at e1
          cases e1
          exact (ok2 b _ (un.frzs b o _ n)).1
    | _ => exact False.elim z
theorem law_g {P : Program} {w : World} {K : PySem.W.Frag} {mg mb : Str → Option Value} {CX : CXT} {k : Nat} {fa a : Addr} {fd : FuncData} {x : Str} {sp : Sp} {sh : Shared} {vs : List Value} {ns : List Int}
    (kIn : K.In sh.heap) (g1 : sh.heap.Ns mainGlobals mg) (g2 : sh.heap.Ns builtinsNs mb) (g3 : ∀ y : Str, y ≠ "__name__" → mb y = bootBuiltins y) (nl : sh.heap.NoLimit) (g4 : sh.gens = #[])
    (ha : sh.heap.get? a = some { cls := .type "list", data := .seq vs.toArray }) (iv : IntsAre vs ns) (hl : ns.length ≤ sizeLine) (rm : Room k callerA)
    (F : ∀ base : Heap, K.In base → base.Ns mainGlobals mg → FnG P w K mg base CX k fa fd [x] sp) (bd : ∀ (s : Shared) (u : Value), BindsTo s fd ⟨[u], []⟩ [(x, u)])
    (hsp : ∀ H : Hp, Only H → SqL K H a (ns.map V.int) → sp [.ref a] H (fun v _ => v = .bl true) fun _ _ _ => False) (nx : ∀ H e s', CX [] H sh (fun _ _ _ => False) e s' → False) :
    codeAny (model P w) callerA (.call (.ref fa) ⟨[.ref a], []⟩) (fun r s' => r = .ok (.ret (.bool true)) ∧ OldK sh.heap s'.heap ∧ s'.os = sh.os ∧ AllBare s'.gens) sh := by
  have vi := vals_ints iv
  have n1 : vs.length = ns.length := iv.length
  cases hk : K.lookup a with
  | some o =>
    have e := kIn a o hk
    rw [ha] at e
    cases e
    refine core_g (H := fun _ => none) kIn g1 g2 g3 nl g4 ha rm F bd nx (fun _ => .inl rfl) (hsp _ (fun _ => .inl rfl) (.inr ⟨_, vs.toArray, _, hk, rfl, rfl, rfl, ?_, ?_⟩)) (fun b u z => nomatch (show (none : Option HO) = some u from z)) (fun b z => absurd rfl z) fun z => absurd rfl z
    · rw [List.size_toArray, n1]; exact hl
    · simpa using vi
  | none =>
    let H1 : Hp := fun b => if b = a then some (.frz { cls := .type "list", data := .seq vs.toArray } (.lst (ns.map V.int))) else none
    have ia : H1 a = some (.frz { cls := .type "list", data := .seq vs.toArray } (.lst (ns.map V.int))) := if_pos rfl
    have no : ∀ b, b ≠ a → H1 b = none := fun b hb => if_neg hb
    have on : Only H1 := fun b => if hb : b = a then .inr ⟨{ cls := .type "list", data := .seq vs.toArray }, ns.map V.int, by rw [hb]; exact ia⟩ else .inl (no b hb)
    refine core_g (H := H1) kIn g1 g2 g3 nl g4 ha rm F bd nx on (hsp _ on (.inl (.inr ⟨_, ia⟩))) (fun b u z => ?_) (fun b z => Classical.byContradiction fun hb => z (no b hb)) fun _ => hk
    by_cases hb : b = a
    · rw [hb, ia] at z
      cases z
      rw [hb]
      exact ⟨ha, by rw [List.length_map]; exact hl, vs, _, vi, ha⟩
    · rw [no b hb] at z
      cases z
/-- a law from its def's promise -/
theorem walk_g {l : PySem.W.OpenLaw} {n k : Nat} {q : Program} {loose : List Str} {XP : (Str → Option Value) → Heap → Prop} {YP : World → Heap → Prop} {d : DefRec} {CX : CXT} {x : Str} (m1 : l.most = some n) (m2 : n ≤ sizeLine) (m3 : d.params.defaults = []) (rm : Room k callerA)
    (F : ∀ (w : World) (mg : Str → Option Value) (fa : Addr) (h : Heap), YP w h → h.Ns mainGlobals mg → mg d.name = some (.ref fa) → ∃ (K : PySem.W.Frag) (fd : FuncData) (sp : Sp), K.In h ∧ (∀ (s : Shared) (u : Value), BindsTo s fd ⟨[u], []⟩ [(x, u)]) ∧
        (∀ (H : Hp) (a : Addr) (ns : List Int), ns.length ≤ n → Only H → SqL K H a (ns.map V.int) → sp [.ref a] H (fun v _ => v = .bl true) fun _ _ _ => False) ∧ ∀ base : Heap, K.In base → base.Ns mainGlobals mg → FnG l.prog w K mg base CX k fa fd [x] sp)
    (nx : ∀ (H : Hp) (s : Shared) (e : Value) (s' : Shared), CX [] H s (fun _ _ _ => False) e s' → False) : PySem.W.WalkO q loose XP YP l.row.toRowW d [] (fun f vs => PySem.call f vs) :=
  Att.attach_call m1 m3 fun w s₀ sh mg mb fa o pm cd doc a vs ns G Y ho hd hcd hmg hobj hints hlen hg => by
    obtain ⟨K, fd, sp, kIn, bd, hsp, hF⟩ := F w mg fa _ Y G.T.g hmg
    exact law_g kIn G.T.g G.T.b G.T.builtins G.T.nolimit hg hobj hints (Nat.le_trans hlen m2) rm hF bd (fun H hO hS => hsp H a ns hlen hO hS) fun H e s' => nx H sh e s'
end MP

namespace MP
open PySem PySem.Spec PyProof.Rows L2
variable {EX : L2.XK}

/-! ### weakening -/
section
variable {X : Cx}
theorem PE.imp {e : Expr} {t t' : TE} (h : PE X e t) (i : ∀ σ H Q, t' σ H Q → t σ H Q) : PE X e t' := ⟨fun pins s σ H Q I q => h.run pins s σ H Q I (i σ H Q q)⟩
theorem PT.imp {e : Expr} {t t' : TT} (h : PT X e t) (i : ∀ σ H Q, t' σ H Q → t σ H Q) : PT X e t' := ⟨fun pins s σ H Q I q => h.run pins s σ H Q I (i σ H Q q)⟩
theorem PW.imp {e : Expr} {t t' : TT} (h : PW X e t) (i : ∀ σ H Q, t' σ H Q → t σ H Q) : PW X e t' := ⟨fun wh pins s σ H Q I q => h.run wh pins s σ H Q I (i σ H Q q)⟩
theorem PA.imp {es : List Expr} {t t' : TA} (h : PA X es t) (i : ∀ σ H Q, t' σ H Q → t σ H Q) : PA X es t' := ⟨fun pos pins s σ H Q I q => h.run pos pins s σ H Q I (i σ H Q q)⟩
theorem PS.imp {st : Stmt} {t t' : TS} (h : PS X st t) (i : ∀ D σ H, t' D σ H → t D σ H) : PS X st t' := ⟨fun pins s σ H D I q => h.run pins s σ H D I (i D σ H q)⟩
theorem PSs.imp {st : List Stmt} {t t' : TS} (h : PSs X st t) (i : ∀ D σ H, t' D σ H → t D σ H) : PSs X st t' := ⟨fun pins s σ H D I q => h.run pins s σ H D I (i D σ H q)⟩
theorem PTs.imp {ifs : List Expr} {t t' : TT} (h : PTs X ifs t) (i : ∀ σ H Q, t' σ H Q → t σ H Q) : PTs X ifs t' := ⟨fun pins s σ H Q I q => h.run pins s σ H Q I (i σ H Q q)⟩
theorem PI.imp {tg it : Expr} {t t' : TI} (h : PI X tg it t) (i : ∀ σ H R, t' σ H R → t σ H R) : PI X tg it t' := ⟨fun pins s σ H Q I q => h.run pins s σ H Q I (i σ H Q q)⟩
theorem PG.imp {tg : Expr} {t t' : TG} (h : PG X tg t) (i : ∀ v σ H R, t' v σ H R → t v σ H R) : PG X tg t' := ⟨fun pins s σ H v u Q I r q => h.run pins s σ H v u Q I r (i v σ H Q q)⟩
end

/-! ### denotations -/
def dVar (i : Nat) : DE := fun env S => match env[i]? with
  | some (.va d) => .ok d S
  | _ => .bad
def dBVar (i : Nat) : DE := fun env S => match env[i]? with
  | some (.va d) => .ok d S
  | some (.ow x) => .ok x.toD S
  | _ => .bad
def dMv (i : Nat) : DR := fun env S => match env[i]? with
  | some (.va d) => .ok (.v d) S
  | some (.ow x) => .ok (.o x) S
  | _ => .bad
def dC (d : D) : DE := fun _ S => .ok d S
def fz (dr : DR) : DE := fun env S => (dr env S).map R.val
def rv (de : DE) : DR := fun env S => (de env S).map R.v
def dOp (f : D → D → Sto → Res R) (da db : DE) : DR := fun env S => (da env S).bind fun x S1 => (db env S1).bind fun y S2 => f x y S2
def dUn (f : D → Sto → Res R) (da : DE) : DR := fun env S => (da env S).bind f
def dNil : DA := fun _ S => .ok [] S
def dCons (da : DE) (dr : DA) : DA := fun env S => (da env S).bind fun x S1 => (dr env S1).map fun xs => x :: xs
def dTup (da : DA) : DE := fun env S => (da env S).bind fun xs S1 => if xs.length ≤ 100000 then .ok (.tup xs) S1 else .bad
def dLst (da : DA) : DR := fun env S => (da env S).bind fun xs S1 => if xs.length ≤ 100000 then .ok (.o (.l xs)) S1 else .bad
def dB (de : DE) : DT := fun env S => (de env S).bind fun d S1 => match d with
  | .bl b => .ok b S1
  | _ => .bad
def dAndT (a b : DT) : DT := fun env S => (a env S).bind fun c S1 => if c = true then b env S1 else .ok false S1
def dOrT (a b : DT) : DT := fun env S => (a env S).bind fun c S1 => if c = true then .ok true S1 else b env S1
def dNotT (a : DT) : DT := fun env S => (a env S).map (!·)
def dAnd (a b : DE) : DE := fun env S => (a env S).bind fun d S1 => match d with
  | .bl true => b env S1
  | .bl false => .ok (.bl false) S1
  | _ => .bad
def dOr (a b : DE) : DE := fun env S => (a env S).bind fun d S1 => match d with
  | .bl true => .ok (.bl true) S1
  | .bl false => b env S1
  | _ => .bad
def dNot (a : DE) : DE := fun env S => (a env S).bind fun d S1 => match d with
  | .bl b => .ok (.bl (!b)) S1
  | _ => .bad
def dIf (c : DT) (a b : DE) : DE := fun env S => (c env S).bind fun k S1 => if k = true then a env S1 else b env S1
def dIfR (c : DT) (a b : DR) : DR := fun env S => (c env S).bind fun k S1 => if k = true then a env S1 else b env S1
def dCall (C : Calls) (f : Nat) (da : DA) : DR := fun env S => (da env S).bind fun xs S1 => C f xs S1
def dBlt (f : List D → Sto → Res R) (da : DA) : DR := fun env S => (da env S).bind f

/-! ### the rules of expressions -/
theorem EnvOk.at {K : PySem.W.Frag} {W : Wd} {H H0 : Hp} {e : Envm} {σ : L2.St} (q : EnvOk K W H H0 e σ) {i : Nat} {s : Sl} (h : e[i]? = some s) : ∃ o, σ[i]? = some o ∧ SlOk K W H H0 s o := by
  obtain ⟨hi, _⟩ := List.getElem?_eq_some_iff.mp h
  rw [q.len] at hi
  exact ⟨σ[i], List.getElem?_eq_getElem hi, q.sl i s _ h (List.getElem?_eq_getElem hi)⟩
theorem bind_ok {α β : Type} {r : Res α} {f : α → Sto → Res β} {b : β} {S' : Sto} (h : r.bind f = .ok b S') : ∃ a S1, r = .ok a S1 ∧ f a S1 = .ok b S' := by
  cases r with
  | ok a S1 => exact ⟨a, S1, rfl, h⟩
  | xn c x S => cases h
  | bad => cases h
theorem map_ok {α β : Type} {r : Res α} {f : α → β} {b : β} {S' : Sto} (h : r.map f = .ok b S') : ∃ a, r = .ok a S' ∧ f a = b := by
  cases r with
  | ok a S1 =>
    have h1 : Res.ok (f a) S1 = .ok b S' := h
    injection h1 with h2 h3
    subst h3
    exact ⟨a, rfl, h2⟩
  | xn c x S => cases h
  | bad => cases h
section
variable {X : Cx} {e a b : Expr} {pos : Pos}
theorem me_var (i : Nat) {x : Str} (hN : X.N[i]? = some x := by rfl) (hv : Vis X.env.scope x := by first | exact Or.inl rfl | exact Or.inr (Or.inl rfl) | exact Or.inr (Or.inr rfl)) (hd : (x == ("__debug__" : Str)) = false := by decide)
    (hcd : (x == ("__classdict__" : Str)) = false := by decide) : PE X (.Name x pos) (tV X.K (dVar i)) := by
  refine PE.imp (pe_var hN hv hd hcd) fun σ H Q ⟨W, S, H0, env, ok, eo, d, S', h, q⟩ => ?_
  unfold dVar at h
  split at h
  · rename_i d' he
    injection h with h1 h2
    subst h1; subst h2
    obtain ⟨o, h3, v, rfl, h4⟩ := eo.at he
    exact ⟨v, h3, q W H v (Ext.refl _ _) ok h4⟩
  · cases h
theorem me_bvar (i : Nat) {x : Str} (hN : X.N[i]? = some x := by rfl) (hv : Vis X.env.scope x := by first | exact Or.inl rfl | exact Or.inr (Or.inl rfl) | exact Or.inr (Or.inr rfl)) (hd : (x == ("__debug__" : Str)) = false := by decide)
    (hcd : (x == ("__classdict__" : Str)) = false := by decide) : PE X (.Name x pos) (tB X.K (dBVar i)) := by
  refine PE.imp (pe_var hN hv hd hcd) fun σ H Q ⟨W, S, H0, env, ok, eo, d, S', h, q⟩ => ?_
  unfold dBVar at h
  split at h
  · rename_i d' he
    injection h with h1 h2
    subst h1; subst h2
    obtain ⟨o, h3, v, rfl, h4⟩ := eo.at he
    exact ⟨v, h3, q W H v (Ext.refl _ _) ok (.inl h4)⟩
  · rename_i y he
    injection h with h1 h2
    subst h1; subst h2
    obtain ⟨o, h3, a, u, rfl, h4, h5, h6, h7, h8⟩ := eo.at he
    exact ⟨.ref a, h3, q W H (.ref a) (Ext.refl _ _) ok (.inr ⟨y, a, u, rfl, rfl, h4, h5, h6, h7⟩)⟩
  · cases h
theorem pe_vb {de : DE} (h : PE X e (tV X.K de)) : PE X e (tB X.K de) := PE.imp h fun σ H Q ⟨W, S, H0, env, ok, eo, d, S', h, q⟩ =>
  ⟨W, S, H0, env, ok, eo, d, S', h, fun W' H' v x o r => q W' H' v x o (.inl r)⟩
theorem pe_vr {de : DE} (h : PE X e (tV X.K de)) : PE X e (tR X.K (rv de)) := PE.imp h fun σ H Q ⟨W, S, H0, env, ok, eo, d, S', h, q⟩ => by
  obtain ⟨a, h1, h2⟩ := map_ok h
  subst h2
  exact ⟨W, S, H0, env, ok, eo, a, S', h1, fun W' H' v x o r => q W' H' v x o r⟩
/-- a new object is frozen -/
theorem freeze {K : PySem.W.Frag} {W : Wd} {S : Sto} {H : Hp} {x : O} {a : Addr} {u : HO} (ok : WOk K W S H) (h : H a = some u) (q : RepO K W.G W.r x u) (n : W.G a = none) (m : a ∉ W.r) :
    SubH W.G (upd W.G a u) ∧ WOk K ⟨upd W.G a u, W.r⟩ S H ∧ Rep K (upd W.G a u) W.r x.toD (.ref a) := by
  have s : SubH W.G (upd W.G a u) := fun b o e => by rw [upd_ne (ne_of_none e n)]; exact e
  refine ⟨s, ⟨fun b o e => ?_, ok.nd, ok.len, fun i y e => ?_, fun b hb => ?_⟩, ?_⟩
  · by_cases hb : b = a
    · subst hb
      have e' : upd W.G b u b = some o := e
      rw [upd_same] at e'
      cases e'
      exact h
    · have e' : upd W.G a u b = some o := e
      rw [upd_ne hb] at e'
      exact ok.sub b o e'
  · obtain ⟨c, v, h1, h2, h3⟩ := ok.cell i y e
    exact ⟨c, v, h1, h2, h3.mono s (List.prefix_refl _)⟩
  · have hb' : b ≠ a := fun z => m (z ▸ hb)
    show upd W.G a u b = none
    rw [upd_ne hb']
    exact ok.ng b hb
  · cases q with
    | l q => exact .lst upd_same (q.mono s (List.prefix_refl _))
    | k q1 q2 => exact .dk upd_same q1 (q2.mono s (List.prefix_refl _))
    | t q1 q2 => exact .dt upd_same q1 (q2.mono s (List.prefix_refl _))
    | fk q1 q2 => exact .fk upd_same q1 (q2.mono s (List.prefix_refl _))
    | ft q1 q2 => exact .ft upd_same q1 (q2.mono s (List.prefix_refl _))
theorem freeze_ext {W W' : Wd} {H H' : Hp} {a : Addr} {u : HO} (x : Ext W H W' H') (n : W'.G a = none) (h : H a = none) : Ext W H ⟨upd W'.G a u, W'.r⟩ H' := by
  refine ⟨fun b o e => ?_, x.r, fun b h1 h2 => ?_, x.rn, x.h, x.k⟩
  · have := x.g b o e
    show upd W'.G a u b = some o
    rw [upd_ne (ne_of_none this n)]
    exact this
  · by_cases hb : b = a
    · rw [hb]; exact .inl h
    · have h2' : upd W'.G a u b ≠ none := h2
      rw [upd_ne hb] at h2'
      exact x.gn b h1 h2'
theorem pe_fz {dr : DR} (h : PE X e (tR X.K dr)) : PE X e (tV X.K (fz dr)) := PE.imp h fun σ H Q ⟨W, S, H0, env, ok, eo, d, S', h, q⟩ => by
  obtain ⟨r, h1, h2⟩ := map_ok h
  subst h2
  refine ⟨W, S, H0, env, ok, eo, r, S', h1, fun W' H' v x o z => ?_⟩
  cases r with
  | v d => exact q W' H' v x o z
  | o y =>
    obtain ⟨a, u, rfl, z1, z2, z3, z4, z5⟩ := z
    obtain ⟨s, o2, r2⟩ := freeze o z1 z2 z3 z4
    exact q _ H' _ (freeze_ext x z3 z5) o2 r2
theorem me_c {v : V} {d : D} (h : PE X e (tC v)) (r : ∀ G l, Rep X.K G l d v) : PE X e (tV X.K (dC d)) := PE.imp h fun σ H Q ⟨W, S, H0, env, ok, eo, d', S', h, q⟩ => by
  cases h
  exact q W H v (Ext.refl _ _) ok (r _ _)
theorem me_int {i j} : PE X (.Constant (.int i) j pos) (tV X.K (dC (.int i))) := me_c pe_int fun _ _ => .int i
theorem me_bl {i j} : PE X (.Constant (.bool i) j pos) (tV X.K (dC (.bl i))) := me_c pe_bl fun _ _ => .bl i
theorem me_non {j} : PE X (.Constant .none j pos) (tV X.K (dC .non)) := me_c pe_non fun _ _ => .non
theorem me_str {x j} : PE X (.Constant (.str x) j pos) (tV X.K (dC (.str x))) := me_c pe_str fun _ _ => .str x

/-! ### operators -/
def rO (K : PySem.W.Frag) (f : D → D → Sto → Res R) : R2 := fun x y H Q => ∃ W S d e r S', WOk K W S H ∧ RepB K W H d x ∧ RepB K W H e y ∧ f d e S = .ok r S' ∧ ∀ W' H' v, Ext W H W' H' → WOk K W' S' H' → RepR K W' H' H r v → Q v H'
theorem RepR.back {K : PySem.W.Frag} {W : Wd} {H H0 H1 : Hp} {r : R} {v : V} (h : RepR K W H H1 r v) (f : ∀ a, H1 a = none → H0 a = none) : RepR K W H H0 r v := by
  cases r with
  | v d => exact h
  | o x =>
    obtain ⟨a, u, h1, h2, h3, h4, h5, h6⟩ := h
    exact ⟨a, u, h1, h2, h3, h4, h5, f a h6⟩
theorem tOp_of {K : PySem.W.Frag} {f : D → D → Sto → Res R} {da db : DE} {σ : L2.St} {H : Hp} {Q : VK} (h : tR K (dOp f da db) σ H Q) : tOp (rO K f) (MP.tB K da) (MP.tB K db) σ H Q := by
  obtain ⟨W, S, H0, env, ok, eo, d, S', h, q⟩ := h
  obtain ⟨x, S1, h1, h2⟩ := bind_ok h
  obtain ⟨y, S2, h3, h4⟩ := bind_ok h2
  refine ⟨W, S, H0, env, ok, eo, x, S1, h1, fun W1 H1 v e1 o1 r1 => ?_⟩
  refine ⟨W1, S1, H0, env, o1, eo.ext e1, y, S2, h3, fun W2 H2 u e2 o2 r2 => ?_⟩
  refine ⟨W2, S2, x, y, d, S', o2, r1.ext e2, r2, h4, fun W3 H3 z e3 o3 r3 => ?_⟩
  exact q W3 H3 z ((e1.trans e2).trans e3) o3 (r3.back fun a h => (e1.trans e2).fresh h)
theorem me_op {op : Operator} {f : D → D → Sto → Res R} {da db : DE} (ho : OpR X (binaryOp op) (rO X.K f)) (ha : PE X a (MP.tB X.K da)) (hb : PE X b (MP.tB X.K db)) : PE X (.BinOp a op b pos) (tR X.K (dOp f da db)) :=
  PE.imp (pe_op ho ha hb) fun _ _ _ h => tOp_of h
theorem me_cmp {op : CmpOp} {f : D → D → Sto → Res R} {da db : DE} (ho : OpR X (compareOp op) (rO X.K f)) (ha : PE X a (MP.tB X.K da)) (hb : PE X b (MP.tB X.K db)) (hm : behindInMarks op b = false) : PE X (.Compare a [op] [b] pos) (tR X.K (dOp f da db)) :=
  PE.imp (pe_cmpR ho ha hb hm) fun _ _ _ h => tOp_of h
def rU1 (K : PySem.W.Frag) (f : D → Sto → Res R) : V → Hp → VK → Prop := fun x H Q => ∃ W S d r S', WOk K W S H ∧ RepB K W H d x ∧ f d S = .ok r S' ∧ ∀ W' H' v, Ext W H W' H' → WOk K W' S' H' → RepR K W' H' H r v → Q v H'
theorem me_un {op : UnaryOp} {f : D → Sto → Res R} {da : DE} (ho : UnR X (unaryOp op) (rU1 X.K f)) (ha : PE X a (MP.tB X.K da)) : PE X (.UnaryOp op a pos) (tR X.K (dUn f da)) :=
  PE.imp (pe_un ho ha) fun σ H Q ⟨W, S, H0, env, ok, eo, d, S', h, q⟩ => by
    obtain ⟨x, S1, h1, h2⟩ := bind_ok h
    refine ⟨W, S, H0, env, ok, eo, x, S1, h1, fun W1 H1 v e1 o1 r1 => ?_⟩
    exact ⟨W1, S1, x, d, S', o1, r1, h2, fun W3 H3 z e3 o3 r3 => q W3 H3 z (e1.trans e3) o3 (r3.back fun a h => e1.fresh h)⟩
theorem me_ix {f : D → D → Sto → Res R} {da db : DE} (ho : IxR X (rO X.K f)) (ha : PE X a (MP.tB X.K da)) (hb : PE X b (MP.tB X.K db)) (hs : PlainIx b) : PE X (.Subscript a b pos) (tR X.K (dOp f da db)) :=
  PE.imp (pe_ix ho ha hb hs) fun _ _ _ h => tOp_of h

/-! ### arguments, displays -/
theorem ma_nil : PA X [] (tAV X.K dNil) := PA.imp pa_nil fun σ H Q ⟨W, S, H0, env, ok, eo, d, S', h, q⟩ => by
  cases h
  exact q W H [] (Ext.refl _ _) ok .nil
theorem ma_cons {es : List Expr} {da : DE} {dr : DA} (ha : PE X e (tV X.K da)) (hr : PA X es (tAV X.K dr)) (hs : starEach (e :: es) X.env = (false, eval e X.env) :: starEach es X.env := by rfl) : PA X (e :: es) (tAV X.K (dCons da dr)) :=
  PA.imp (pa_cons ha hr hs) fun σ H Q ⟨W, S, H0, env, ok, eo, d, S', h, q⟩ => by
    obtain ⟨x, S1, h1, h2⟩ := bind_ok h
    obtain ⟨xs, h3, h4⟩ := map_ok h2
    subst h4
    refine ⟨W, S, H0, env, ok, eo, x, S1, h1, fun W1 H1 v e1 o1 r1 => ?_⟩
    refine ⟨W1, S1, H0, env, o1, eo.ext e1, xs, S', h3, fun W2 H2 vs e2 o2 r2 => ?_⟩
    exact q W2 H2 _ (e1.trans e2) o2 (.cons (r1.ext e2) r2)
theorem mb_nil : PA X [] (tAB X.K dNil) := PA.imp pa_nil fun σ H Q ⟨W, S, H0, env, ok, eo, d, S', h, q⟩ => by
  cases h
  exact q W H [] (Ext.refl _ _) ok .nil
theorem AllB.ext {K : PySem.W.Frag} {W W' : Wd} {H H' : Hp} : ∀ {ds : List D} {vs : List V}, AllB K W H ds vs → Ext W H W' H' → AllB K W' H' ds vs
  | _, _, .nil, _ => .nil
  | _, _, .cons a b, e => .cons (a.ext e) (AllB.ext b e)
theorem mb_cons {es : List Expr} {da : DE} {dr : DA} (ha : PE X e (MP.tB X.K da)) (hr : PA X es (tAB X.K dr)) (hs : starEach (e :: es) X.env = (false, eval e X.env) :: starEach es X.env := by rfl) : PA X (e :: es) (tAB X.K (dCons da dr)) :=
  PA.imp (pa_cons ha hr hs) fun σ H Q ⟨W, S, H0, env, ok, eo, d, S', h, q⟩ => by
    obtain ⟨x, S1, h1, h2⟩ := bind_ok h
    obtain ⟨xs, h3, h4⟩ := map_ok h2
    subst h4
    refine ⟨W, S, H0, env, ok, eo, x, S1, h1, fun W1 H1 v e1 o1 r1 => ?_⟩
    refine ⟨W1, S1, H0, env, o1, eo.ext e1, xs, S', h3, fun W2 H2 vs e2 o2 r2 => ?_⟩
    exact q W2 H2 _ (e1.trans e2) o2 (.cons (r1.ext e2) r2)
theorem le_sizeLine {n : Nat} (h : n ≤ 100000) : n ≤ sizeLine := Nat.le_trans h (by decide)
/-- a new object laid beside the world -/
theorem lay_ext (W : Wd) {H : Hp} {p : Addr} {u : HO} (h : H p = none) : Ext W H W (upd H p u) :=
  ⟨SubH.refl _, List.prefix_refl _, fun a h k => absurd h k, fun a h => .inl h, fun a o e _ => by rw [upd_ne (ne_of_none e h)]; exact e, fun a o e => ⟨o, by rw [upd_ne (ne_of_none e h)]; exact e⟩⟩
theorem lay_ok {K : PySem.W.Frag} {W : Wd} {S : Sto} {H : Hp} {p : Addr} {u : HO} (ok : WOk K W S H) (h : H p = none) : WOk K W S (upd H p u) :=
  ⟨fun a o e => by
    have := ok.sub a o e
    rw [upd_ne (ne_of_none this h)]
    exact this, ok.nd, ok.len, fun i y e => by
      obtain ⟨c, v, h1, h2, h3⟩ := ok.cell i y e
      exact ⟨c, v, h1, by rw [upd_ne (ne_of_none h2 h)]; exact h2, h3⟩, ok.ng⟩
theorem WOk.gnone {K : PySem.W.Frag} {W : Wd} {S : Sto} {H : Hp} {p : Addr} (ok : WOk K W S H) (h : H p = none) : W.G p = none := by
  cases q : W.G p with
  | none => rfl
  | some o =>
    have := ok.sub p o q
    rw [h] at this; cases this
theorem WOk.rnone {K : PySem.W.Frag} {W : Wd} {S : Sto} {H : Hp} {p : Addr} (ok : WOk K W S H) (h : H p = none) : p ∉ W.r := fun m => by
  obtain ⟨i, hi, e⟩ := List.mem_iff_getElem.mp m
  have hi' : i < S.length := by rw [← ok.len]; exact hi
  obtain ⟨c, v, h1, h2, h3⟩ := ok.cell i S[i] (List.getElem?_eq_getElem hi')
  rw [List.getElem?_eq_getElem hi] at h1
  have : c = p := by rw [← Option.some.inj h1]; exact e
  rw [this, h] at h2
  cases h2
/-- a new tuple is laid and frozen -/
theorem tup_new {K : PySem.W.Frag} {W : Wd} {S : Sto} {H : Hp} {p : Addr} {xs : List V} {ds : List D} (ok : WOk K W S H) (h : H p = none) (q : RepL K W.G W.r ds xs) :
    Ext W H ⟨upd W.G p (.tup xs), W.r⟩ (upd H p (.tup xs)) ∧ WOk K ⟨upd W.G p (.tup xs), W.r⟩ S (upd H p (.tup xs)) ∧ Rep K (upd W.G p (.tup xs)) W.r (.tup ds) (.ref p) := by
  have n := ok.gnone h
  have s : SubH W.G (upd W.G p (.tup xs)) := fun b o e => by rw [upd_ne (ne_of_none e n)]; exact e
  refine ⟨freeze_ext (lay_ext W h) n h, ⟨fun b o e => ?_, ok.nd, ok.len, fun i y e => ?_, fun b hb => ?_⟩, .tup upd_same (q.mono s (List.prefix_refl _))⟩
  · by_cases hb : b = p
    · subst hb
      have e' : upd W.G b (.tup xs) b = some o := e
      rw [upd_same] at e'
      rw [upd_same]
      exact e'
    · have e' : upd W.G p (.tup xs) b = some o := e
      rw [upd_ne hb] at e'
      rw [upd_ne hb]
      exact ok.sub b o e'
  · obtain ⟨c, v, h1, h2, h3⟩ := ok.cell i y e
    exact ⟨c, v, h1, by rw [upd_ne (ne_of_none h2 h)]; exact h2, h3.mono s (List.prefix_refl _)⟩
  · have hb' : b ≠ p := fun z => ok.rnone h (z ▸ hb)
    show upd W.G p (.tup xs) b = none
    rw [upd_ne hb']
    exact ok.ng b hb
/-- a new object is laid -/
theorem obj_new {K : PySem.W.Frag} {W : Wd} {S : Sto} {H : Hp} {p : Addr} {u : HO} {x : O} (ok : WOk K W S H) (h : H p = none) (q : RepO K W.G W.r x u) :
    Ext W H W (upd H p u) ∧ WOk K W S (upd H p u) ∧ RepR K W (upd H p u) H (.o x) (.ref p) :=
  ⟨lay_ext W h, lay_ok ok h, p, u, rfl, upd_same, q, ok.gnone h, ok.rnone h, h⟩
theorem me_tup {es : List Expr} {x1} {da : DA} (h : PA X es (tAV X.K da)) : PE X (.Tuple es x1 pos) (tV X.K (dTup da)) := PE.imp (pe_tup h) fun σ H Q ⟨W, S, H0, env, ok, eo, d, S', h, q⟩ => by
  obtain ⟨xs, S1, h1, h2⟩ := bind_ok h
  split at h2
  · rename_i hl
    injection h2 with h3 h4
    subst h3; subst h4
    refine ⟨W, S, H0, env, ok, eo, xs, S1, h1, fun W1 H1 v e1 o1 r1 => ⟨by rw [← r1.length]; exact le_sizeLine hl, fun p hp => ?_⟩⟩
    obtain ⟨e2, o2, r2⟩ := tup_new o1 hp r1
    exact q _ _ _ (e1.trans e2) o2 r2
  · cases h2
theorem me_lst {es : List Expr} {da : DA} (h : PA X es (tAV X.K da)) : PE X (.List es pos) (tR X.K (dLst da)) := PE.imp (pe_lst h) fun σ H Q ⟨W, S, H0, env, ok, eo, d, S', h, q⟩ => by
  obtain ⟨xs, S1, h1, h2⟩ := bind_ok h
  split at h2
  · rename_i hl
    injection h2 with h3 h4
    subst h3; subst h4
    refine ⟨W, S, H0, env, ok, eo, xs, S1, h1, fun W1 H1 v e1 o1 r1 => ⟨by rw [← r1.length]; exact le_sizeLine hl, fun p hp => ?_⟩⟩
    obtain ⟨e2, o2, r2⟩ := obj_new (x := .l xs) o1 hp (.l r1)
    exact q _ _ _ (e1.trans e2) o2 (r2.back fun a h => e1.fresh h)
  · cases h2

/-! ### tests -/
theorem mt_val {de : DE} (h : PE X e (tV X.K de)) (he : ∀ whole, isTrue e X.env whole = (do let v ← whole; standAt e.pos; holding [v] (truthy v)) := by intro _; rfl) : PT X e (tT X.K (dB de)) :=
  PT.imp (pt_val h he) fun σ H Q ⟨W, S, H0, env, ok, eo, d, S', h, q⟩ => by
    obtain ⟨x, S1, h1, h2⟩ := bind_ok h
    split at h2
    · injection h2 with h3 h4
      subst h3; subst h4
      refine ⟨W, S, H0, env, ok, eo, _, _, h1, fun W1 H1 v e1 o1 r1 => ?_⟩
      cases r1
      exact ⟨_, rfl, q W1 H1 e1 o1⟩
    · cases h2
/-- a comparison as a test -/
theorem mt_cmp {op : CmpOp} {f : D → D → Sto → Res R} {da db : DE} (ho : OpR X (compareOp op) (rO X.K f)) (ha : PE X a (MP.tB X.K da)) (hb : PE X b (MP.tB X.K db)) (hm : behindInMarks op b = false) : PT X (.Compare a [op] [b] pos) (tT X.K (dB (fz (dOp f da db)))) :=
  PT.imp (pt_cmpR ho ha hb hm) fun σ H Q ⟨W, S, H0, env, ok, eo, d, S', h, q⟩ => by
    obtain ⟨x, S1, h1, h2⟩ := bind_ok h
    split at h2
    · injection h2 with h3 h4
      subst h3; subst h4
      obtain ⟨r, h5, h6⟩ := map_ok h1
      refine tOp_of ⟨W, S, H0, env, ok, eo, r, _, h5, fun W1 H1 v e1 o1 r1 => ?_⟩
      cases r with
      | v d =>
        cases h6
        cases r1
        exact ⟨_, rfl, q W1 H1 e1 o1⟩
      | o y => cases y <;> cases h6
    · cases h2
theorem mw_and1 {da : DT} (ha : PT X a (tT X.K da)) : PW X (.BoolOp .And [a] pos) (tT X.K da) := pw_and1 ha
theorem mw_or1 {da : DT} (ha : PT X a (tT X.K da)) : PW X (.BoolOp .Or [a] pos) (tT X.K da) := pw_or1 ha
theorem mw_and {rest : List Expr} {da db : DT} (ha : PT X a (tT X.K da)) (hb : PW X (.BoolOp .And (b :: rest) pos) (tT X.K db)) : PW X (.BoolOp .And (a :: b :: rest) pos) (tT X.K (dAndT da db)) :=
  PW.imp (pw_and ha hb) fun σ H Q ⟨W, S, H0, env, ok, eo, d, S', h, q⟩ => by
    obtain ⟨c, S1, h1, h2⟩ := bind_ok h
    refine ⟨W, S, H0, env, ok, eo, c, S1, h1, fun W1 H1 e1 o1 => ?_⟩
    cases c with
    | true => exact ⟨W1, S1, H0, env, o1, eo.ext e1, d, S', h2, fun W2 H2 e2 o2 => q W2 H2 (e1.trans e2) o2⟩
    | false =>
      cases h2
      exact q W1 H1 e1 o1
theorem mw_or {rest : List Expr} {da db : DT} (ha : PT X a (tT X.K da)) (hb : PW X (.BoolOp .Or (b :: rest) pos) (tT X.K db)) : PW X (.BoolOp .Or (a :: b :: rest) pos) (tT X.K (dOrT da db)) :=
  PW.imp (pw_or ha hb) fun σ H Q ⟨W, S, H0, env, ok, eo, d, S', h, q⟩ => by
    obtain ⟨c, S1, h1, h2⟩ := bind_ok h
    refine ⟨W, S, H0, env, ok, eo, c, S1, h1, fun W1 H1 e1 o1 => ?_⟩
    cases c with
    | false => exact ⟨W1, S1, H0, env, o1, eo.ext e1, d, S', h2, fun W2 H2 e2 o2 => q W2 H2 (e1.trans e2) o2⟩
    | true =>
      cases h2
      exact q W1 H1 e1 o1
theorem mt_not {da : DT} (ha : PT X a (tT X.K da)) : PT X (.UnaryOp .Not a pos) (tT X.K (dNotT da)) :=
  PT.imp (pt_not ha) fun σ H Q ⟨W, S, H0, env, ok, eo, d, S', h, q⟩ => by
    obtain ⟨c, h1, h2⟩ := map_ok h
    subst h2
    exact ⟨W, S, H0, env, ok, eo, c, S', h1, q⟩
/-! ### and, or, not, if as values -/
theorem me_one {op} {da : DE} (ha : PE X a (tV X.K da)) : PE X (.BoolOp op [a] pos) (tV X.K da) := pe_one ha
theorem me_and {rest : List Expr} {da db : DE} (ha : PE X a (tV X.K da)) (hb : PE X (.BoolOp .And (b :: rest) pos) (tV X.K db)) : PE X (.BoolOp .And (a :: b :: rest) pos) (tV X.K (dAnd da db)) :=
  PE.imp (pe_and ha hb) fun σ H Q ⟨W, S, H0, env, ok, eo, d, S', h, q⟩ => by
    obtain ⟨c, S1, h1, h2⟩ := bind_ok h
    refine ⟨W, S, H0, env, ok, eo, c, S1, h1, fun W1 H1 v e1 o1 r1 => ?_⟩
    split at h2
    · cases r1
      exact ⟨true, rfl, W1, S1, H0, env, o1, eo.ext e1, d, S', h2, fun W2 H2 v e2 o2 r2 => q W2 H2 v (e1.trans e2) o2 r2⟩
    · cases r1
      cases h2
      exact ⟨false, rfl, q W1 H1 _ e1 o1 (.bl false)⟩
    · cases h2
theorem me_not {da : DE} (ha : PE X a (tV X.K da)) : PE X (.UnaryOp .Not a pos) (tV X.K (dNot da)) :=
  PE.imp (pe_not ha) fun σ H Q ⟨W, S, H0, env, ok, eo, d, S', h, q⟩ => by
    obtain ⟨c, S1, h1, h2⟩ := bind_ok h
    refine ⟨W, S, H0, env, ok, eo, c, S1, h1, fun W1 H1 v e1 o1 r1 => ?_⟩
    split at h2
    · cases r1
      cases h2
      exact ⟨_, rfl, q W1 H1 _ e1 o1 (.bl _)⟩
    · cases h2
theorem me_ifR {c : Expr} {dc : DT} {da db : DR} (hc : PT X c (tT X.K dc)) (ha : PE X a (tR X.K da)) (hb : PE X b (tR X.K db)) : PE X (.IfExp c a b pos) (tR X.K (dIfR dc da db)) :=
  PE.imp (pe_ifExp hc ha hb) fun σ H Q ⟨W, S, H0, env, ok, eo, d, S', h, q⟩ => by
    obtain ⟨k, S1, h1, h2⟩ := bind_ok h
    refine ⟨W, S, H0, env, ok, eo, k, S1, h1, fun W1 H1 e1 o1 => ?_⟩
    cases k with
    | true => exact ⟨W1, S1, H0, env, o1, eo.ext e1, d, S', h2, fun W2 H2 v e2 o2 r2 => q W2 H2 v (e1.trans e2) o2 (r2.back fun a h => e1.fresh h)⟩
    | false => exact ⟨W1, S1, H0, env, o1, eo.ext e1, d, S', h2, fun W2 H2 v e2 o2 r2 => q W2 H2 v (e1.trans e2) o2 (r2.back fun a h => e1.fresh h)⟩
theorem me_if {c : Expr} {dc : DT} {da db : DE} (hc : PT X c (tT X.K dc)) (ha : PE X a (tV X.K da)) (hb : PE X b (tV X.K db)) : PE X (.IfExp c a b pos) (tV X.K (dIf dc da db)) :=
  PE.imp (pe_ifExp hc ha hb) fun σ H Q ⟨W, S, H0, env, ok, eo, d, S', h, q⟩ => by
    obtain ⟨k, S1, h1, h2⟩ := bind_ok h
    refine ⟨W, S, H0, env, ok, eo, k, S1, h1, fun W1 H1 e1 o1 => ?_⟩
    cases k with
    | true => exact ⟨W1, S1, H0, env, o1, eo.ext e1, d, S', h2, fun W2 H2 v e2 o2 r2 => q W2 H2 v (e1.trans e2) o2 r2⟩
    | false => exact ⟨W1, S1, H0, env, o1, eo.ext e1, d, S', h2, fun W2 H2 v e2 o2 r2 => q W2 H2 v (e1.trans e2) o2 r2⟩

/-! ### calls of the program's own defs -/
/-- what a def promises: what the calls' function C says -/
def spC (K : PySem.W.Frag) (C : Calls) (f : Nat) (m : Nat) : Sp := fun vs H Q E => vs.length = m ∧ ∃ W S ds, WOk K W S H ∧ RepL K W.G W.r ds vs ∧ ((∃ r S', C f ds S = .ok r S' ∧ ∀ W' H' v, Ext W H W' H' → WOk K W' S' H' → RepR K W' H' H r v → Q v H') ∨
  ∃ c x S', C f ds S = .xn c x S' ∧ ∀ W' H' cls d, Ext W H W' H' → WOk K W' S' H' → RepX K W' x cls d → E cls d H')
/-- the def at a, and its parameters -/
structure At (K : PySem.W.Frag) (a : Addr) (fd : FuncData) (ps : List Str) : Prop where
  o : ∃ oc od osl, K.lookup a = some ⟨oc, od, .func fd, osl⟩
  ps : fd.params.args.map (·.arg) = ps
/-- the facts of the text that a body may lean on: each def of the table keeps its promise, by C -/
structure Fx (P : Program) (w : World) (K : PySem.W.Frag) (mg : Str → Option Value) (base : Heap) (A : Around) (n : Nat) (T : Nat → Option (Str × Nat)) (C : Calls) : Prop where
  room : Room (n + 3) A
  gd : A.guards = some []
  ar : ∀ f x m ds S r S', T f = some (x, m) → C f ds S = .ok r S' → ds.length = m
  ax : ∀ f x m ds S c y S', T f = some (x, m) → C f ds S = .xn c y S' → ds.length = m
  fn : ∀ f x m, T f = some (x, m) → ∃ (a : Addr) (fd : FuncData) (ps : List Str), mg x = some (.ref a) ∧ PySem.W.keepIn K (.ref a) = true ∧ Binds K fd ps [] ∧ ps.length = m ∧ FnG P w K mg base (L2.CX P w) (n + 3) a fd ps (spC K C f m) ∧ At K a fd ps
variable {n : Nat} {T : Nat → Option (Str × Nat)} {C : Calls}
theorem passE0 {X : Cx} : Passes (L2.CX X.prog X.w) X E0 := fun _ _ _ _ _ _ _ ⟨_, _, _, _, _, _, _, _, _, _, _, _, h⟩ => h.elim
theorem me_call (F : Fx X.prog X.w X.K X.mg X.base X.A n T C) (f : Nat) {x : Str} {p : Pos} {es : List Expr} {da : DA} {m : Nat} (hT : T f = some (x, m)) (hg : Gl X x) (ha : PA X (e :: es) (tAV X.K da))
    (hdb : (x == ("__debug__" : Str)) = false := by decide) (he : starEach (e :: es) X.env = (false, eval e X.env) :: starEach es X.env := by rfl) (hpl : (backTo pos (starEach es X.env)).any (·.1) = false := by rfl) :
    PE X (.Call (.Name x p) (e :: es) [] pos) (tR X.K (dCall C f da)) := by
  obtain ⟨a, fd, ps, h1, h2, h3, h4, h5, _⟩ := F.fn f x m hT
  refine PE.imp (pe_callG (E := fun _ => E0) h5 F.gd F.room hg h1 h2 h3 (fun σ pins H s e s2 I q => passE0 pins σ H s e s2 I q) ha hdb he hpl) fun σ H Q ⟨W, S, H0, env, ok, eo, d, S', h, q⟩ => ?_
  obtain ⟨xs, S1, h6, h7⟩ := bind_ok h
  refine ⟨W, S, H0, env, ok, eo, xs, S1, h6, fun W1 H1 v e1 o1 r1 => ?_⟩
  show spC X.K C f m v H1 Q E0
  exact ⟨by rw [← r1.length]; exact F.ar _ _ _ _ _ _ _ hT h7, W1, S1, xs, o1, r1, .inl ⟨d, S', h7, fun W2 H2 z e2 o2 r2 => q W2 H2 z (e1.trans e2) o2 (r2.back fun a h => e1.fresh h)⟩⟩
end
end MP

namespace MP
open PySem PySem.Spec PyProof.Rows L2
variable {EX : L2.XK}

/-! ### targets -/
inductive Tg where
  | nm (i : Nat) | tp (ts : List Tg)
mutual
def bindTg : Tg → D → Envm → Option Envm
  | .nm i, d, e => some (e.set i (.va d))
  | .tp ts, .tup ds, e => bindTgs ts ds e
  | .tp ts, .lst ds, e => bindTgs ts ds e
  | .tp _, _, _ => none
def bindTgs : List Tg → List D → Envm → Option Envm
  | [], [], e => some e
  | t :: ts, d :: ds, e => match bindTg t d e with
    | some e1 => bindTgs ts ds e1
    | none => none
  | _, _, _ => none
end
mutual
def Tg.slots : Tg → List Nat
  | .nm i => [i]
  | .tp ts => slotsL ts
def slotsL : List Tg → List Nat
  | [] => []
  | t :: ts => t.slots ++ slotsL ts
end
/-- only these slots differ -/
structure SetOf (is : List Nat) (σ σ' : L2.St) : Prop where
  len : σ'.length = σ.length
  out : ∀ j, j ∉ is → σ'[j]? = σ[j]?
theorem SetOf.trans {is js : List Nat} {a b c : L2.St} (h : SetOf is a b) (k : SetOf js b c) : SetOf (is ++ js) a c :=
  ⟨k.len.trans h.len, fun j n => (k.out j fun z => n (List.mem_append_right _ z)).trans (h.out j fun z => n (List.mem_append_left _ z))⟩
section
variable {K : PySem.W.Frag} {W : Wd} {H H0 : Hp} {e : Envm} {σ : L2.St}
theorem EnvOk.setV (q : EnvOk K W H H0 e σ) {d : D} {v : V} (r : Rep K W.G W.r d v) (i : Nat) : EnvOk K W H H0 (e.set i (.va d)) (σ.set i (some v)) := by
  refine ⟨by rw [List.length_set, List.length_set]; exact q.len, fun j s o h1 h2 => ?_, fun j k x y a h1 h2 h3 h4 => ?_⟩
  · by_cases hj : i = j
    · subst hj
      by_cases hi : i < e.length
      · rw [List.getElem?_set_self hi] at h1
        cases h1
        rw [List.getElem?_set_self (by rw [← q.len]; exact hi)] at h2
        cases h2
        exact ⟨v, rfl, r⟩
      · rw [List.getElem?_eq_none (by rw [List.length_set]; omega)] at h1
        cases h1
    · rw [List.getElem?_set_ne hj] at h1 h2
      exact q.sl j s o h1 h2
  · have f : ∀ (m : Nat) (z : O), (e.set i (.va d))[m]? = some (.ow z) → i ≠ m ∧ e[m]? = some (.ow z) := fun m z hm => by
      by_cases c : i = m
      · subst c
        by_cases hi : i < e.length
        · rw [List.getElem?_set_self hi] at hm; cases hm
        · rw [List.getElem?_eq_none (by rw [List.length_set]; omega)] at hm; cases hm
      · rw [List.getElem?_set_ne c] at hm
        exact ⟨c, hm⟩
    obtain ⟨n1, g1⟩ := f j x h1
    obtain ⟨n2, g2⟩ := f k y h2
    rw [List.getElem?_set_ne n1] at h3
    rw [List.getElem?_set_ne n2] at h4
    exact q.dis j k x y a g1 g2 h3 h4
theorem setOf_one (σ : L2.St) (i : Nat) (o : Option V) : SetOf [i] σ (σ.set i o) := ⟨by rw [List.length_set], fun j n => by
  rw [List.getElem?_set_ne fun z => n (by simp [z])]⟩
end
section
variable (K : PySem.W.Frag)
def gT (t : Tg) : TG := fun v σ H Q => ∃ W S H0 env d, WOk K W S H ∧ EnvOk K W H H0 env σ ∧ Rep K W.G W.r d v ∧ ∃ env', bindTg t d env = some env' ∧ ∀ σ', EnvOk K W H H0 env' σ' → SetOf t.slots σ σ' → Q σ' H
def gTs (ts : List Tg) : TGs := fun vs σ H Q => ∃ W S H0 env ds, WOk K W S H ∧ EnvOk K W H H0 env σ ∧ RepL K W.G W.r ds vs ∧ ∃ env', bindTgs ts ds env = some env' ∧ ∀ σ', EnvOk K W H H0 env' σ' → SetOf (slotsL ts) σ σ' → Q σ' H
end
section
variable {X : Cx} {pos : Pos}
theorem PGs.imp {ts : List Expr} {t t' : TGs} (h : PGs X ts t) (i : ∀ v σ H R, t' v σ H R → t v σ H R) : PGs X ts t' := ⟨fun pins s σ H v u Q I r q => h.run pins s σ H v u Q I r (i v σ H Q q)⟩
theorem mg_name {i : Nat} {x : Str} (hN : X.N.Nodup) (hi : X.N[i]? = some x) (hx : Loc X.env.scope x) (hf : X.fn x = true ∨ X.env.scope.names.lookup x = some .local := by first | exact .inl rfl | exact .inr rfl | assumption) : PG X (.Name x pos) (gT X.K (.nm i)) :=
  PG.imp (pg_name hN hi hx hf) fun v σ H Q ⟨W, S, H0, env, d, ok, eo, r, env', h, q⟩ => by
    unfold bindTg at h
    cases h
    exact q _ (eo.setV r i) (by unfold Tg.slots; exact setOf_one σ i _)
theorem mgs_nil : PGs X [] (gTs X.K []) := PGs.imp pgs_nil fun v σ H Q ⟨W, S, H0, env, d, ok, eo, r, env', h, q⟩ => by
  cases r with
  | nil =>
    unfold bindTgs at h
    cases h
    exact ⟨rfl, q σ eo ⟨rfl, fun _ _ => rfl⟩⟩
  | cons _ _ => unfold bindTgs at h; cases h
theorem mgs_cons {e : Expr} {es : List Expr} {t : Tg} {ts : List Tg} (h1 : PG X e (gT X.K t)) (h2 : PGs X es (gTs X.K ts)) (hs : (assignEach (e :: es) X.env).map (·.2) = assign e X.env :: (assignEach es X.env).map (·.2) := by rfl) : PGs X (e :: es) (gTs X.K (t :: ts)) :=
  PGs.imp (pgs_cons h1 h2 hs) fun v σ H Q ⟨W, S, H0, env, d, ok, eo, r, env', h, q⟩ => by
    cases r with
    | nil => unfold bindTgs at h; cases h
    | cons r1 r2 =>
      unfold bindTgs at h
      split at h
      · rename_i e1 he1
        exact ⟨_, _, rfl, W, S, H0, env, _, ok, eo, r1, e1, he1, fun σ1 eo1 so1 => ⟨W, S, H0, e1, _, ok, eo1, r2, env', h, fun σ2 eo2 so2 => q σ2 eo2 (by unfold slotsL; exact so1.trans so2)⟩⟩
      · cases h
theorem bindTgs_len : ∀ {ts : List Tg} {ds : List D} {e e' : Envm}, bindTgs ts ds e = some e' → ds.length = ts.length
  | [], [], _, _, _ => rfl
  | t :: ts, d :: ds, e, e', h => by
    unfold bindTgs at h
    split at h
    · have := bindTgs_len h
      simp [this]
    · cases h
  | [], _ :: _, _, _, h => by unfold bindTgs at h; cases h
  | _ :: _, [], _, _, h => by unfold bindTgs at h; cases h
theorem PG.or {tg : Expr} {t t' : TG} (h : PG X tg t) (h' : PG X tg t') : PG X tg (fun v σ H Q => t v σ H Q ∨ t' v σ H Q) := ⟨fun pins s σ H v u Q I r q => q.elim (fun z => h.run pins s σ H v u Q I r z) fun z => h'.run pins s σ H v u Q I r z⟩
theorem mg_tup {es : List Expr} {k : Nat} {ts : List Tg} (hc : X.calm = true) (h : PGs X es (gTs X.K ts)) (hl : ts.length = es.length)
    (hn : (assignEach es X.env).length = es.length := by rfl) (hst : (assignEach es X.env).findIdx? (·.1) = none := by rfl) : PG X (.Tuple es k pos) (gT X.K (.tp ts)) :=
  PG.imp (PG.or (pg_tup (n := es.length) hc h hn hst) (pg_unl (n := es.length) hc h hn hst)) fun v σ H Q ⟨W, S, H0, env, d, ok, eo, r, env', h, q⟩ => by
    cases r with
    | @tup a xs ds r1 r2 =>
      unfold bindTg at h
      exact .inl ⟨_, _, rfl, SqT.of (ok.sub _ _ r1), by rw [← r2.length, bindTgs_len h]; exact hl, W, S, H0, env, _, ok, eo, r2, env', h, fun σ' eo' so => q σ' eo' (by unfold Tg.slots; exact so)⟩
    | @lst a xs ds r1 r2 =>
      unfold bindTg at h
      exact .inr ⟨_, _, rfl, SqL.of (ok.sub _ _ r1), by rw [← r2.length, bindTgs_len h]; exact hl, W, S, H0, env, _, ok, eo, r2, env', h, fun σ' eo' so => q σ' eo' (by unfold Tg.slots; exact so)⟩
    | _ => unfold bindTg at h; cases h
end

/-! ### what is walked -/
section
variable (K : PySem.W.Frag)
structure WalkM (P : Wd → Hp → Prop) (J : It) (ds : List D) : Prop where
  go : ∀ (i : Nat) W S H, i < ds.length → WOk K W S H → P W H → J.go i H
  stop : ∀ W S H, WOk K W S H → P W H → J.stop ds.length H
  yld : ∀ (i : Nat) W S H x H', i < ds.length → WOk K W S H → P W H → J.yld i H x H' → ∃ W' d, ds[i]? = some d ∧ Ext W H W' H' ∧ WOk K W' S H' ∧ Rep K W'.G W'.r d x
def PF (W : Wd) : Wd → Hp → Prop := fun W1 _ => Gr W W1
def PB (W : Wd) (H : Hp) : Wd → Hp → Prop := fun W1 H1 => Ext W H W1 H1
def iF (di : DA) : TI := fun σ H R => ∃ W S H0 env, WOk K W S H ∧ EnvOk K W H H0 env σ ∧ ∃ ds S', di env S = .ok ds S' ∧ ∀ W' H' J, Ext W H W' H' → WOk K W' S' H' → WalkM K (PF W') J ds → R J H'
def iB (di : DA) : TI := fun σ H R => ∃ W S H0 env, WOk K W S H ∧ EnvOk K W H H0 env σ ∧ ∃ ds S', di env S = .ok ds S' ∧ ∀ W' H' J, Ext W H W' H' → WOk K W' S' H' → WalkM K (PB W' H') J ds → R J H'
end
section
variable {X : Cx} {tg : Expr}
theorem WalkM.imp {K : PySem.W.Frag} {P P' : Wd → Hp → Prop} {J : It} {ds : List D} (w : WalkM K P J ds) (h : ∀ W H, P' W H → P W H) : WalkM K P' J ds :=
  ⟨fun i W S H hi ok p => w.go i W S H hi ok (h W H p), fun W S H ok p => w.stop W S H ok (h W H p), fun i W S H x H' hi ok p y => w.yld i W S H x H' hi ok (h W H p) y⟩
theorem pi_fb {it : Expr} {di : DA} (h : PI X tg it (iF X.K di)) : PI X tg it (iB X.K di) := PI.imp h fun σ H R ⟨W, S, H0, env, ok, eo, ds, S', h, q⟩ =>
  ⟨W, S, H0, env, ok, eo, ds, S', h, fun W' H' J e o w => q W' H' J e o (w.imp fun W1 H1 p => ⟨p.g, p.r⟩)⟩
/-- a list or tuple -/
theorem pi_sq {l : Expr} {tl : TE} (hl : PE X l tl) : PI X tg l (fun σ H R => tl σ H fun x H1 => ∃ a, x = .ref a ∧ (((∃ xs, SqL X.K H1 a xs) ∧ R (Itl X.K a) H1) ∨ ((∃ xs, SqT X.K H1 a xs) ∧ R (Itt X.K a) H1))) := by
  refine ⟨fun pins s σ H R I h => ?_⟩
  refine thn (hl.run pins s σ H _ I h) fun v s1 ⟨x, H1, I1, r1, q1⟩ => ?_
  obtain ⟨a, e, q1⟩ := q1
  subst e
  cases r1
  rcases q1 with ⟨⟨xs, hq⟩, q⟩ | ⟨⟨xs, hq⟩, q⟩
  · obtain ⟨its, rv, p, hz⟩ := I1.list hq
    refine wpAny_pyIter_list p.isList ?_
    refine ⟨s1.heap.objs.size, [s1.heap.objs.size], _, _, H1, rfl, I1.kept (t' := s1.toks) fun b o e => Heap.get?_push_of_some _ e, turn_list a _, ⟨_, Heap.get?_push_size _ rfl, rfl, rfl⟩, fun b hb => ?_, q⟩
    have e : b = s1.heap.objs.size := by simpa using hb
    subst e
    exact I1.fpOk (Nat.le_refl _) (I1.hok.fresh (Nat.le_refl _))
  · obtain ⟨its, rv, p, hz⟩ := I1.tuple hq
    refine wpAny_pyIter_tuple (show s1.heap.IsTuple a its.toArray from p) ?_
    refine ⟨s1.heap.objs.size, [s1.heap.objs.size], _, _, H1, rfl, I1.kept (t' := s1.toks) fun b o e => Heap.get?_push_of_some _ e, turn_tuple a _, ⟨_, Heap.get?_push_size _ rfl, rfl, rfl⟩, fun b hb => ?_, q⟩
    have e : b = s1.heap.objs.size := by simpa using hb
    subst e
    exact I1.fpOk (Nat.le_refl _) (I1.hok.fresh (Nat.le_refl _))
def itemsOf : D → Option (List D)
  | .tup ds => some ds
  | .lst ds => some ds
  | _ => none
def dSeq (de : DE) : DA := fun env S => (de env S).bind fun d S1 => match itemsOf d with
  | some ds => .ok ds S1
  | none => .bad
theorem walkL {K : PySem.W.Frag} {a : Addr} {xs : List V} {ds : List D} {P : Wd → Hp → Prop} (h : ∀ W S H, WOk K W S H → P W H → H a = some (.lst xs) ∧ RepL K W.G W.r ds xs) (hl : ds.length = xs.length) : WalkM K P (Itl K a) ds := by
  refine ⟨fun i W S H hi ok p => ?_, fun W S H ok p => ?_, fun i W S H x H' hi ok p y => ?_⟩
  · obtain ⟨h1, h2⟩ := h W S H ok p
    exact ⟨xs, xs[i]'(by omega), SqL.of h1, List.getElem?_eq_getElem _⟩
  · obtain ⟨h1, h2⟩ := h W S H ok p
    exact ⟨xs, SqL.of h1, by omega⟩
  · obtain ⟨h1, h2⟩ := h W S H ok p
    obtain ⟨rfl, y2⟩ := y
    obtain ⟨d, g1, g2⟩ := h2.getV (y2 xs (SqL.of h1))
    exact ⟨W, d, g1, Ext.refl _ _, ok, g2⟩
theorem walkT {K : PySem.W.Frag} {a : Addr} {xs : List V} {ds : List D} {P : Wd → Hp → Prop} (h : ∀ W S H, WOk K W S H → P W H → SqT K H a xs ∧ RepL K W.G W.r ds xs) (hl : ds.length = xs.length) : WalkM K P (Itt K a) ds := by
  refine ⟨fun i W S H hi ok p => ?_, fun W S H ok p => ?_, fun i W S H x H' hi ok p y => ?_⟩
  · obtain ⟨h1, h2⟩ := h W S H ok p
    exact ⟨xs, xs[i]'(by omega), h1, List.getElem?_eq_getElem _⟩
  · obtain ⟨h1, h2⟩ := h W S H ok p
    exact ⟨xs, h1, by omega⟩
  · obtain ⟨h1, h2⟩ := h W S H ok p
    obtain ⟨rfl, y2⟩ := y
    obtain ⟨d, g1, g2⟩ := h2.getV (y2 xs h1)
    exact ⟨W, d, g1, Ext.refl _ _, ok, g2⟩
theorem mi_seq {l : Expr} {de : DE} (hl : PE X l (tV X.K de)) : PI X tg l (iF X.K (dSeq de)) := PI.imp (pi_sq hl) fun σ H R ⟨W, S, H0, env, ok, eo, ds, S', h, q⟩ => by
  obtain ⟨d, S1, h1, h2⟩ := bind_ok h
  refine ⟨W, S, H0, env, ok, eo, d, S1, h1, fun W1 H1 v e1 o1 r1 => ?_⟩
  cases r1 with
  | @tup a xs ds' r1 r2 =>
    cases h2
    exact ⟨a, rfl, .inr ⟨⟨xs, SqT.of (o1.sub _ _ r1)⟩, q W1 H1 _ e1 o1 (walkT (fun W2 S2 H2 o2 p => ⟨SqT.of (o2.sub _ _ (p.g _ _ r1)), r2.mono p.g p.r⟩) r2.length)⟩⟩
  | @lst a xs ds' r1 r2 =>
    cases h2
    exact ⟨a, rfl, .inl ⟨⟨xs, SqL.of (o1.sub _ _ r1)⟩, q W1 H1 _ e1 o1 (walkL (fun W2 S2 H2 o2 p => ⟨o2.sub _ _ (p.g _ _ r1), r2.mono p.g p.r⟩) r2.length)⟩⟩
  | _ => cases h2
theorem mi_seqB {l : Expr} {de : DE} (hl : PE X l (MP.tB X.K de)) : PI X tg l (iB X.K (dSeq de)) := PI.imp (pi_sq hl) fun σ H R ⟨W, S, H0, env, ok, eo, ds, S', h, q⟩ => by
  obtain ⟨d, S1, h1, h2⟩ := bind_ok h
  refine ⟨W, S, H0, env, ok, eo, d, S1, h1, fun W1 H1 v e1 o1 r1 => ?_⟩
  rcases r1 with r1 | ⟨y, a, u, z1, z2, z3, z4, z5, z6⟩
  · cases r1 with
    | @tup a xs ds' r1 r2 =>
      cases h2
      exact ⟨a, rfl, .inr ⟨⟨xs, SqT.of (o1.sub _ _ r1)⟩, q W1 H1 _ e1 o1 (walkT (fun W2 S2 H2 o2 p => ⟨SqT.of (o2.sub _ _ (p.g _ _ r1)), r2.mono p.g p.r⟩) r2.length)⟩⟩
    | @lst a xs ds' r1 r2 =>
      cases h2
      exact ⟨a, rfl, .inl ⟨⟨xs, SqL.of (o1.sub _ _ r1)⟩, q W1 H1 _ e1 o1 (walkL (fun W2 S2 H2 o2 p => ⟨o2.sub _ _ (p.g _ _ r1), r2.mono p.g p.r⟩) r2.length)⟩⟩
    | _ => cases h2
  · subst z1 z2
    cases z4 with
    | @l ds' xs r2 =>
      cases h2
      exact ⟨a, rfl, .inl ⟨⟨xs, SqL.of z3⟩, q W1 H1 _ e1 o1 (walkL (fun W2 S2 H2 o2 p => ⟨(p.out z3 (fun _ h => nomatch h) z5 z6).1, r2.mono p.g p.r⟩) r2.length)⟩⟩
    | _ => cases h2
/-! ranges -/
def rangeD (lo hi : Int) : List D := (List.range (hi - lo).toNat).map fun i => .int (lo + (i : Nat))
def dRange1 (da : DE) : DA := fun env S => (da env S).bind fun d S1 => match d with
  | .int j => if j ≤ 100000 ∧ -100000 ≤ j then .ok (rangeD 0 j) S1 else .bad
  | _ => .bad
def dRange2 (da db : DE) : DA := fun env S => (da env S).bind fun x S1 => (db env S1).bind fun y S2 => match x, y with
  | .int i, .int j => if (i ≤ 100000 ∧ -100000 ≤ i) ∧ (j ≤ 100000 ∧ -100000 ≤ j) then .ok (rangeD i j) S2 else .bad
  | _, _ => .bad
theorem walkR {K : PySem.W.Frag} {P : Wd → Hp → Prop} (lo hi : Int) : WalkM K P (Itr lo (hi - lo).toNat) (rangeD lo hi) := by
  refine ⟨fun i W S H hl ok p => ?_, fun W S H ok p => ?_, fun i W S H x H' hl ok p y => ?_⟩
  · have hl' : i < (hi - lo).toNat := by
      have e : (rangeD lo hi).length = (hi - lo).toNat := by simp [rangeD]
      rw [e] at hl
      exact hl
    exact hl'
  · have e : (rangeD lo hi).length = (hi - lo).toNat := by simp [rangeD]
    show (hi - lo).toNat ≤ _
    rw [e]
    exact Nat.le_refl _
  · obtain ⟨rfl, rfl⟩ := y
    unfold rangeD at hl ⊢
    have hl' : i < (hi - lo).toNat := by simpa using hl
    exact ⟨W, .int (lo + (i : Nat)), by simp [hl'], Ext.refl _ _, ok, .int _⟩
theorem mi_range1 {a : Expr} {da : DE} {p pos : Pos} (hg : Gl X "range") (hm : X.mg "range" = none) (ha : PE X a (tV X.K da)) (hs : starEach [a] X.env = [(false, eval a X.env)] := by rfl) : PI X tg (.Call (.Name "range" p) [a] [] pos) (iF X.K (dRange1 da)) :=
  PI.imp (pi_range1 hg hm (pa_cons ha pa_nil hs) hs) fun σ H R ⟨W, S, H0, env, ok, eo, ds, S', h, q⟩ => by
    obtain ⟨d, S1, h1, h2⟩ := bind_ok h
    refine ⟨W, S, H0, env, ok, eo, d, S1, h1, fun W1 H1 v e1 o1 r1 => ?_⟩
    cases r1 with
    | int j =>
      have h2 : (if j ≤ 100000 ∧ -100000 ≤ j then Res.ok (rangeD 0 j) S1 else .bad) = .ok ds S' := h2
      split at h2
      · injection h2 with h3 h4
        subst h3; subst h4
        have := walkR (K := X.K) (P := PF W1) 0 j
        rw [Int.sub_zero] at this
        exact ⟨j, rfl, by omega, by omega, q W1 H1 _ e1 o1 this⟩
      · cases h2
    | _ => cases h2
theorem mi_range2 {a b : Expr} {da db : DE} {p pos : Pos} (hg : Gl X "range") (hm : X.mg "range" = none) (ha : PE X a (tV X.K da)) (hb : PE X b (tV X.K db)) (hs : starEach [a, b] X.env = [(false, eval a X.env), (false, eval b X.env)] := by rfl) (hs2 : starEach [b] X.env = [(false, eval b X.env)] := by rfl) : PI X tg (.Call (.Name "range" p) [a, b] [] pos) (iF X.K (dRange2 da db)) :=
  PI.imp (pi_range2 hg hm (pa_cons ha (pa_cons hb pa_nil (by rw [hs2]; rfl)) (by rw [hs, hs2])) hs hs2) fun σ H R ⟨W, S, H0, env, ok, eo, ds, S', h, q⟩ => by
    obtain ⟨d, S1, h1, h2⟩ := bind_ok h
    obtain ⟨d2, S2, h3, h4⟩ := bind_ok h2
    refine ⟨W, S, H0, env, ok, eo, d, S1, h1, fun W1 H1 v e1 o1 r1 => ?_⟩
    refine ⟨W1, S1, H0, env, o1, eo.ext e1, d2, S2, h3, fun W2 H2 u e2 o2 r2 => ?_⟩
    cases r1 with
    | int i =>
      cases r2 with
      | int j =>
        have h4 : (if (i ≤ 100000 ∧ -100000 ≤ i) ∧ (j ≤ 100000 ∧ -100000 ≤ j) then Res.ok (rangeD i j) S2 else .bad) = .ok ds S' := h4
        split at h4
        · injection h4 with h5 h6
          subst h5; subst h6
          exact ⟨i, j, rfl, ⟨by omega, by omega, by omega, by omega⟩, q W2 H2 _ (e1.trans e2) o2 (walkR i j)⟩
        · cases h4
      | _ => cases h4
    | _ => cases h4
end

/-! ### comprehensions -/
def wipeE (e : Envm) : List Nat → Envm
  | [] => e
  | v :: vs => (wipeE e vs).set v .no
def compL (tg : Tg) (dc : DT) (de : DE) (env : Envm) : List D → Sto → Res (List D)
  | [], S => .ok [] S
  | d :: ds, S => match bindTg tg d env with
    | none => .bad
    | some e1 => (dc e1 S).bind fun b S1 => if b = true then (de e1 S1).bind fun y S2 => (compL tg dc de env ds S2).map (y :: ·) else compL tg dc de env ds S1
def dComp (di : DA) (own : List Nat) (tg : Tg) (dc : DT) (de : DE) : DR := fun env S => (di env S).bind fun ds S1 => if ds.length ≤ 100000 then (compL tg dc de (wipeE env own) ds S1).map fun ys => .o (.l ys) else .bad
def dYes : DT := fun _ S => .ok true S
section
variable {X : Cx}
theorem mts_nil : PTs X [] (tT X.K dYes) := PTs.imp pts_nil fun σ H Q ⟨W, S, H0, env, ok, eo, d, S', h, q⟩ => by
  cases h
  exact q W H (Ext.refl _ _) ok
theorem mts_one {c : Expr} {dc : DT} (h : PT X c (tT X.K dc)) : PTs X [c] (tT X.K dc) := pts_one h
theorem EnvOk.wipe {K : PySem.W.Frag} {W : Wd} {H H0 : Hp} {e : Envm} {σ : L2.St} (q : EnvOk K W H H0 e σ) : ∀ vs : List Nat, EnvOk K W H H0 (wipeE e vs) (L2.wipe σ vs)
  | [] => q
  | v :: vs => by
    have ih := q.wipe vs
    unfold wipeE L2.wipe
    refine ⟨by rw [List.length_set, List.length_set]; exact ih.len, fun j s o h1 h2 => ?_, fun j k x y a h1 h2 h3 h4 => ?_⟩
    · by_cases hj : v = j
      · subst hj
        by_cases hi : v < (wipeE e vs).length
        · rw [List.getElem?_set_self hi] at h1
          cases h1
          trivial
        · rw [List.getElem?_eq_none (by rw [List.length_set]; omega)] at h1
          cases h1
      · rw [List.getElem?_set_ne hj] at h1 h2
        exact ih.sl j s o h1 h2
    · have f : ∀ (m : Nat) (z : O), ((wipeE e vs).set v .no)[m]? = some (.ow z) → v ≠ m ∧ (wipeE e vs)[m]? = some (.ow z) := fun m z hm => by
        by_cases c : v = m
        · subst c
          by_cases hi : v < (wipeE e vs).length
          · rw [List.getElem?_set_self hi] at hm; cases hm
          · rw [List.getElem?_eq_none (by rw [List.length_set]; omega)] at hm; cases hm
        · rw [List.getElem?_set_ne c] at hm
          exact ⟨c, hm⟩
      obtain ⟨n1, g1⟩ := f j x h1
      obtain ⟨n2, g2⟩ := f k y h2
      rw [List.getElem?_set_ne n1] at h3
      rw [List.getElem?_set_ne n2] at h4
      exact ih.dis j k x y a g1 g2 h3 h4
theorem wipe_len (σ : L2.St) : ∀ vs : List Nat, (L2.wipe σ vs).length = σ.length := wipe_length σ
theorem wipe_out' {σ : L2.St} {i : Nat} : ∀ {vs : List Nat}, i ∉ vs → (L2.wipe σ vs)[i]? = σ[i]?
  | [], _ => rfl
  | v :: vs, h => by
    unfold L2.wipe
    rw [List.getElem?_set_ne fun z => h (by simp [z])]
    exact wipe_out' fun z => h (List.mem_cons_of_mem _ z)
theorem wipe_in {σ : L2.St} {i : Nat} : ∀ {vs : List Nat}, i ∈ vs → i < σ.length → (L2.wipe σ vs)[i]? = some none
  | v :: vs, h, hi => by
    unfold L2.wipe
    by_cases c : v = i
    · subst c
      rw [List.getElem?_set_self (by rw [wipe_len]; exact hi)]
    · rw [List.getElem?_set_ne c]
      rcases List.mem_cons.mp h with z | z
      · exact absurd z.symm c
      · exact wipe_in z hi
theorem wipe_setOf {σ σ' : L2.St} {is own : List Nat} (h : SetOf is σ σ') (hs : ∀ i ∈ is, i ∈ own) : L2.wipe σ' own = L2.wipe σ own := by
  apply List.ext_getElem?
  intro i
  by_cases hi : i ∈ own
  · by_cases hl : i < σ.length
    · rw [wipe_in hi hl, wipe_in hi (by rw [h.len]; exact hl)]
    · rw [List.getElem?_eq_none (by rw [wipe_len, h.len]; omega), List.getElem?_eq_none (by rw [wipe_len]; omega)]
  · rw [wipe_out' hi, wipe_out' hi]
    exact h.out i fun z => hi (hs i z)
theorem wipe_wipe {σ : L2.St} {own : List Nat} : L2.wipe (L2.wipe σ own) own = L2.wipe σ own := by
  apply List.ext_getElem?
  intro i
  by_cases hi : i ∈ own
  · by_cases hl : i < σ.length
    · rw [wipe_in hi (by rw [wipe_len]; exact hl), wipe_in hi hl]
    · rw [List.getElem?_eq_none (by rw [wipe_len, wipe_len]; omega), List.getElem?_eq_none (by rw [wipe_len]; omega)]
  · rw [wipe_out' hi]
/-- the reading of a comprehension -/
theorem comp_of {K : PySem.W.Frag} {di : DA} {own : List Nat} {tg : Tg} {dc : DT} {de : DE} {σ : L2.St} {H : Hp} {Q : VK} (hs : ∀ i ∈ tg.slots, i ∈ own) (h : tR K (dComp di own tg dc de) σ H Q) : tLc (iB K di) (gT K tg) (tT K dc) (tV K de) own σ H Q := by
  obtain ⟨W, S, H0, env, ok, eo, r, S', h, q⟩ := h
  obtain ⟨ds, S1, h1, h2⟩ := bind_ok h
  split at h2
  case isFalse => cases h2
  rename_i hlen
  obtain ⟨ys, h3, h4⟩ := map_ok h2
  subst h4
  refine ⟨W, S, H0, env, ok, eo, ds, S1, h1, fun W1 H1 J e1 o1 w1 => ?_⟩
  intro D hD
  -- the invariant: what has been made stands at D, the rest is as the function says
  refine ⟨fun i m Hc => m = ds.length - i ∧ i ≤ ds.length ∧ ∃ W2 S2 acc xs zs, Ext W1 H1 W2 Hc ∧ WOk K W2 S2 Hc ∧ EnvOk K W2 Hc H0 env σ ∧ RepL K W2.G W2.r acc xs ∧ Hc D = some (.lst xs) ∧ W2.G D = none ∧ D ∉ W2.r ∧ acc.length ≤ i ∧ compL tg dc de (wipeE env own) (ds.drop i) S2 = .ok zs S' ∧ ys = acc ++ zs, ⟨ds.length, by simp, Nat.zero_le _, ?_⟩, ?_⟩
  · have x1 : Ext W1 H1 W1 (upd H1 D (.lst [])) := lay_ext W1 hD
    exact ⟨W1, S1, [], [], ys, x1, lay_ok o1 hD, (eo.ext e1).ext x1, .nil, upd_same, o1.gnone hD, o1.rnone hD, by simp, by simpa using h3, by simp⟩
  · rintro i m Hc ⟨rfl, hi, W2, S2, acc, xs, zs, x2, o2, eo2, r2, hD2, gD2, rD2, hacc, hc, hys⟩
    by_cases hlt : i < ds.length
    · refine .inr ⟨w1.go i W2 S2 Hc hlt o2 x2, fun Hn => ∃ W2 S2 acc xs zs, Ext W1 H1 W2 Hn ∧ WOk K W2 S2 Hn ∧ EnvOk K W2 Hn H0 env σ ∧ RepL K W2.G W2.r acc xs ∧ Hn D = some (.lst xs) ∧ W2.G D = none ∧ D ∉ W2.r ∧ acc.length ≤ i + 1 ∧ compL tg dc de (wipeE env own) (ds.drop (i + 1)) S2 = .ok zs S' ∧ ys = acc ++ zs, fun Hn hn => ⟨ds.length - (i + 1), by omega, rfl, hlt, hn⟩, fun x Hy hy => ?_⟩
      obtain ⟨W3, d, hd, x3, o3, rd⟩ := w1.yld i W2 S2 Hc x Hy hlt o2 x2 hy
      have ed : ds[i] = d := by
        rw [List.getElem?_eq_getElem hlt] at hd
        exact Option.some.inj hd
      rw [List.drop_eq_getElem_cons hlt, ed] at hc
      unfold compL at hc
      have eo3 : EnvOk K W3 Hy H0 (wipeE env own) (L2.wipe σ own) := (eo2.ext x3).wipe own
      split at hc
      · cases hc
      rename_i e1' he1
      obtain ⟨b, S3, hb1, hb2⟩ := bind_ok hc
      obtain ⟨hDy, gDy, rDy⟩ := x3.out hD2 (fun _ h => nomatch h) gD2 rD2
      refine ⟨W3, S2, H0, wipeE env own, d, o3, eo3, rd, e1', he1, fun σ3 eo4 so => ⟨?_, ?_⟩⟩
      · rw [wipe_setOf so hs, wipe_wipe]
      · refine ⟨W3, S2, H0, e1', o3, eo4, b, S3, hb1, fun W4 H4 x4 o4 => ?_⟩
        obtain ⟨hD4, gD4, rD4⟩ := x4.out hDy (fun _ h => nomatch h) gDy rDy
        have x24 := x3.trans x4
        cases b with
        | true =>
          have hb2 : ((de e1' S3).bind fun y S2 => (compL tg dc de (wipeE env own) (ds.drop (i + 1)) S2).map (y :: ·)) = .ok zs S' := hb2
          obtain ⟨y, S4, hy1, hy2⟩ := bind_ok hb2
          obtain ⟨zs', hz1, hz2⟩ := map_ok hy2
          subst hz2
          refine ⟨W4, S3, H0, e1', o4, eo4.ext x4, y, S4, hy1, fun W5 H5 v x5 o5 r5 => ?_⟩
          obtain ⟨hD5, gD5, rD5⟩ := x5.out hD4 (fun _ h => nomatch h) gD4 rD4
          have x25 := x24.trans x5
          have x6 : Ext W1 H1 W5 (upd H5 D (.lst (xs ++ [v]))) := by
            have z := x2.trans x25
            have hD0 : H1 D = none := hD
            exact ⟨z.g, z.r, z.gn, z.rn, fun a o e n => by rw [upd_ne (ne_of_none e hD0)]; exact z.h a o e n, fun a o e => by rw [upd_ne (ne_of_none e hD0)]; exact z.k a o e⟩
          have o6 : WOk K W5 S4 (upd H5 D (.lst (xs ++ [v]))) := by
            refine ⟨fun a o e => ?_, o5.nd, o5.len, fun n yy e => ?_, o5.ng⟩
            · rw [upd_ne (ne_of_none e gD5)]
              exact o5.sub a o e
            · obtain ⟨c, u, c1, c2, c3⟩ := o5.cell n yy e
              have nc : c ≠ D := fun z => rD5 (by rw [← z]; exact List.mem_of_getElem? c1)
              exact ⟨c, u, c1, by rw [upd_ne nc]; exact c2, c3⟩
          have eo6 : EnvOk K W5 (upd H5 D (.lst (xs ++ [v]))) H0 env σ := by
            have eo5 := (eo2.ext x25)
            refine ⟨eo5.len, fun j s o g1 g2 => ?_, eo5.dis⟩
            have z := eo5.sl j s o g1 g2
            cases s with
            | no => trivial
            | va d => exact z
            | ow y0 =>
              obtain ⟨a, u, z1, z2, z3, z4, z5, z6⟩ := z
              have z0 := (eo.ext e1).sl j _ o g1 g2
              obtain ⟨a', u', y1, y2, _⟩ := z0
              rw [z1] at y1
              cases y1
              exact ⟨a, u, z1, by rw [upd_ne (ne_of_none y2 hD)]; exact z2, z3, z4, z5, z6⟩
          refine ⟨xs, hD5, ?_, W5, S4, acc ++ [y], xs ++ [v], zs', x6, o6, eo6, ((r2.mono x25.g x25.r).snoc r5), upd_same, gD5, rD5, by simp; omega, hz1, by rw [hys]; simp⟩
          have := r2.length
          exact Nat.lt_of_le_of_lt (show xs.length ≤ 100000 by omega) (by decide)
        | false =>
          have hb2 : compL tg dc de (wipeE env own) (ds.drop (i + 1)) S3 = .ok zs S' := hb2
          exact ⟨W4, S3, acc, xs, zs, x2.trans x24, o4, eo2.ext x24, r2.mono x24.g x24.r, hD4, gD4, rD4, by omega, hb2, hys⟩
    · have ei : i = ds.length := by omega
      subst ei
      rw [List.drop_length] at hc
      unfold compL at hc
      injection hc with hc1 hc2
      subst hc1; subst hc2
      rw [List.append_nil] at hys
      subst hys
      refine .inl ⟨w1.stop W2 S2 Hc o2 x2, q W2 Hc _ (e1.trans x2) o2 ?_⟩
      exact ⟨D, .lst xs, rfl, hD2, .l r2, gD2, rD2, e1.fresh hD⟩
theorem me_comp {elt tg iter : Expr} {ifs : List Expr} {scope : Scope} {own : List (Str × Nat)} {pos : Pos} {di : DA} {g : Tg} {dc : DT} {de : DE} (hc : X.calm = true) (hN : X.N.Nodup) (hi : PI X tg iter (iB X.K di)) (ok : BlkOk X.N X.env.scope scope own)
    (hg : ∀ (s : Shared) (H : Hp) (C : Addr) (cl : List (Str × Addr)) (fp : List Addr), PG (X.blk s H scope (compEnvC scope cl C X.env) fp) tg (gT X.K g)) (ht : ∀ (s : Shared) (H : Hp) (C : Addr) (cl : List (Str × Addr)) (fp : List Addr), PTs (X.blk s H scope (compEnvC scope cl C X.env) fp) ifs (tT X.K dc))
    (he : ∀ (s : Shared) (H : Hp) (C : Addr) (cl : List (Str × Addr)) (fp : List Addr), PE (X.blk s H scope (compEnvC scope cl C X.env) fp) elt (tV X.K de)) (hsl : ∀ i ∈ g.slots, i ∈ own.map (·.2)) (hs : ∀ x, foldedSetIterable iter X.env x = pure x := by intro _; rfl) :
    PE X (.ListComp elt [⟨tg, iter, ifs, 0⟩] scope pos) (tR X.K (dComp di (own.map (·.2)) g dc de)) :=
  PE.imp (pe_lc hc hN hi ok hg ht he hs) fun _ _ _ h => comp_of hsl h
end
end MP

namespace MP
open PySem PySem.Spec PyProof.Rows L2
variable {EX : L2.XK}

/-! ### statements: what they say -/
def slOf : R → Sl
  | .v d => .va d
  | .o x => .ow x
def dSet (i : Nat) (dr : DR) : DS := fun env S => match dr env S with
  | .ok r S1 => .nx (env.set i (slOf r)) S1
  | .xn _ _ _ => .bad
  | .bad => .bad
/-- a shared object -/
def dSh (i : Nat) (dr : DR) : DS := fun env S => match dr env S with
  | .ok (.o x) S1 => .nx (env.set i (.va (.loc S1.length))) (S1 ++ [x])
  | .ok (.v (.loc n)) S1 => .nx (env.set i (.va (.loc n))) S1
  | .ok _ _ => .bad
  | .xn _ _ _ => .bad
  | .bad => .bad
def dSeqS (a b : DS) : DS := fun env S => match a env S with
  | .nx e S1 => b e S1
  | o => o
def dSkip : DS := fun env S => .nx env S
def dBreak : DS := fun env S => .bk env S
def dCont : DS := fun env S => .ct env S
def dRet (dr : DR) : DS := fun env S => match dr env S with
  | .ok r S1 => .rt r S1
  | .xn _ _ _ => .bad
  | .bad => .bad
def dRetN : DS := fun _ S => .rt (.v .non) S
def dDrop (de : DE) : DS := fun env S => match de env S with
  | .ok _ S1 => .nx env S1
  | .xn _ _ _ => .bad
  | .bad => .bad
def dIfS (c : DT) (a b : DS) : DS := fun env S => match c env S with
  | .ok true S1 => a env S1
  | .ok false S1 => b env S1
  | .xn _ _ _ => .bad
  | .bad => .bad
def dNever : DS := fun _ _ => .bad
/-- a slot's own object is frozen -/
def frzE (i : Nat) (env : Envm) : Envm := match env[i]? with
  | some (.ow x) => env.set i (.va x.toD)
  | _ => env
def dFrz (i : Nat) (d : DS) : DS := fun env S => d (frzE i env) S
def dUnp (t : Tg) (de : DE) : DS := fun env S => match de env S with
  | .ok d S1 => (match bindTg t d env with
    | some e1 => .nx e1 S1
    | none => .bad)
  | .xn _ _ _ => .bad
  | .bad => .bad
def forL (t : Tg) (b : DS) : List D → DS
  | [], env, S => .nx env S
  | d :: ds, env, S => match bindTg t d env with
    | none => .bad
    | some e1 => match b e1 S with
      | .nx e2 S2 => forL t b ds e2 S2
      | .ct e2 S2 => forL t b ds e2 S2
      | .bk e2 S2 => .nx e2 S2
      | .rt r S2 => .rt r S2
      | .xn c x S2 => .xn c x S2
      | .bad => .bad
def dFor (di : DA) (t : Tg) (b : DS) : DS := fun env S => match di env S with
  | .ok ds S1 => forL t b ds env S1
  | .xn _ _ _ => .bad
  | .bad => .bad
def whileL (c : DT) (b : DS) : Nat → DS
  | 0, _, _ => .bad
  | n + 1, env, S => match c env S with
    | .ok true S1 => (match b env S1 with
      | .nx e2 S2 => whileL c b n e2 S2
      | .ct e2 S2 => whileL c b n e2 S2
      | .bk e2 S2 => .nx e2 S2
      | .rt r S2 => .rt r S2
      | .xn c x S2 => .xn c x S2
      | .bad => .bad)
    | .ok false S1 => .nx env S1
    | .xn _ _ _ => .bad
    | .bad => .bad
def fuelW : Nat := 100000
def dWhile (c : DT) (b : DS) : DS := whileL c b fuelW
abbrev DRs := Envm → Sto → Res (List R)
def rNil : DRs := fun _ S => .ok [] S
def rCons (dr : DR) (d : DRs) : DRs := fun env S => (dr env S).bind fun r S1 => (d env S1).map fun rs => r :: rs
def setSls : List Nat → List R → Envm → Option Envm
  | [], [], e => some e
  | i :: is, r :: rs, e => setSls is rs (e.set i (slOf r))
  | _, _, _ => none
def dPar (is : List Nat) (d : DRs) : DS := fun env S => match d env S with
  | .ok rs S1 => (match setSls is rs env with
    | some e1 => .nx e1 S1
    | none => .bad)
  | .xn _ _ _ => .bad
  | .bad => .bad
/-- name op= e -/
def dAug (i : Nat) (f : D → D → Sto → Res R) (de : DE) : DS := fun env S => match env[i]? with
  | some (.va x) => (match (de env S).bind fun y S1 => f x y S1 with
    | .ok r S2 => .nx (env.set i (slOf r)) S2
    | .xn _ _ _ => .bad
    | .bad => .bad)
  | _ => .bad

/-! ### worlds within a body -/
section
variable {K : PySem.W.Frag} {W0 W W' : Wd} {H0 H H' : Hp} {S S' : Sto} {env : Envm} {σ : L2.St}
theorem SOk.step (s : SOk K W0 H0 W H S env σ) (e : Ext W H W' H') (o : WOk K W' S' H') : SOk K W0 H0 W' H' S' env σ := ⟨s.ext.trans e, o, s.env.ext e⟩
/-- a slot gets a result -/
theorem EnvOk.setR {e : Envm} (q : EnvOk K W H H0 e σ) {r : R} {v : V} (z : RepR K W H H0 r v) (i : Nat) (n : ∀ x a, r = .o x → v = .ref a → ∀ j y, j ≠ i → e[j]? = some (.ow y) → σ[j]? ≠ some (some (.ref a))) : EnvOk K W H H0 (e.set i (slOf r)) (σ.set i (some v)) := by
  cases r with
  | v d => exact q.setV z i
  | o x =>
    obtain ⟨a, u, rfl, z2, z3, z4, z5, z6⟩ := z
    refine ⟨by rw [List.length_set, List.length_set]; exact q.len, fun j s o h1 h2 => ?_, fun j k y y' b h1 h2 h3 h4 => ?_⟩
    · by_cases hj : i = j
      · subst hj
        by_cases hi : i < e.length
        · rw [List.getElem?_set_self hi] at h1
          cases h1
          rw [List.getElem?_set_self (by rw [← q.len]; exact hi)] at h2
          cases h2
          exact ⟨a, u, rfl, z2, z3, z4, z5, z6⟩
        · rw [List.getElem?_eq_none (by rw [List.length_set]; omega)] at h1
          cases h1
      · rw [List.getElem?_set_ne hj] at h1 h2
        exact q.sl j s o h1 h2
    · by_cases hj : i = j
      · subst hj
        by_cases hk : i = k
        · exact hk
        · rw [List.getElem?_set_ne hk] at h2 h4
          have hi : i < σ.length := by
            have := (List.getElem?_eq_some_iff.mp h3).1
            rw [List.length_set] at this
            exact this
          rw [List.getElem?_set_self hi] at h3
          cases h3
          exact absurd h4 (n x _ rfl rfl k y' (Ne.symm hk) h2)
      · by_cases hk : i = k
        · subst hk
          rw [List.getElem?_set_ne hj] at h1 h3
          have hi : i < σ.length := by
            have := (List.getElem?_eq_some_iff.mp h4).1
            rw [List.length_set] at this
            exact this
          rw [List.getElem?_set_self hi] at h4
          cases h4
          exact absurd h3 (n x _ rfl rfl j y (Ne.symm hj) h1)
        · rw [List.getElem?_set_ne hj] at h1 h3
          rw [List.getElem?_set_ne hk] at h2 h4
          exact q.dis j k y y' b h1 h2 h3 h4
/-- an own object of a slot stands in the heap -/
theorem EnvOk.owned {e : Envm} (q : EnvOk K W H H0 e σ) {j : Nat} {y : O} {a : Addr} (h : e[j]? = some (.ow y)) (h2 : σ[j]? = some (some (.ref a))) : ∃ u, H a = some u ∧ RepO K W.G W.r y u ∧ W.G a = none ∧ a ∉ W.r ∧ H0 a = none := by
  obtain ⟨b, u, h3, h4⟩ := q.sl j _ _ h h2
  cases h3
  exact ⟨u, h4⟩
theorem SOk.setR {r : R} {v : V} (s : SOk K W0 H0 W H S env σ) (e : Ext W H W' H') (o : WOk K W' S' H') (z : RepR K W' H' H r v) (i : Nat) : SOk K W0 H0 W' H' S' (env.set i (slOf r)) (σ.set i (some v)) := by
  have s' := s.step e o
  refine ⟨s'.ext, o, s'.env.setR (z.back fun a h => s.ext.fresh h) i fun x a er ev j y _ h1 h2 => ?_⟩
  subst er ev
  obtain ⟨b, u, h3, h4, h5, h6, h7, h8⟩ := z
  cases h3
  obtain ⟨u', g1, _⟩ := s.env.owned h1 h2
  rw [h8] at g1
  cases g1
/-- a slot's own object is frozen -/
theorem SOk.frz (s : SOk K W0 H0 W H S env σ) (i : Nat) : ∃ W', SOk K W0 H0 W' H S (frzE i env) σ ∧ Gr W W' := by
  unfold frzE
  split
  · rename_i x hx
    obtain ⟨o, h1, a, u, rfl, h2, h3, h4, h5, h6⟩ := s.env.at hx
    obtain ⟨f1, f2, f3⟩ := freeze s.ok h2 h3 h4 h5
    refine ⟨⟨upd W.G a u, W.r⟩, ⟨freeze_ext s.ext h4 h6, f2, ⟨by rw [List.length_set]; exact s.env.len, fun j t o g1 g2 => ?_, fun j k y y' b g1 g2 g3 g4 => ?_⟩⟩, ⟨f1, List.prefix_refl _⟩⟩
    · by_cases hj : i = j
      · subst hj
        have hi := (List.getElem?_eq_some_iff.mp hx).1
        rw [List.getElem?_set_self hi] at g1
        cases g1
        rw [h1] at g2
        cases g2
        exact ⟨_, rfl, f3⟩
      · rw [List.getElem?_set_ne hj] at g1
        have z := s.env.sl j t o g1 g2
        cases t with
        | no => trivial
        | va d =>
          obtain ⟨v, z1, z2⟩ := z
          exact ⟨v, z1, z2.mono f1 (List.prefix_refl _)⟩
        | ow y =>
          obtain ⟨b, u', z1, z2, z3, z4, z5, z6⟩ := z
          refine ⟨b, u', z1, z2, z3.mono f1 (List.prefix_refl _), ?_, z5, z6⟩
          show upd W.G a u b = none
          have nb : b ≠ a := fun e => by
            subst e
            subst z1
            exact hj (s.env.dis i j x y b hx g1 h1 g2)
          rw [upd_ne nb]
          exact z4
    · have f : ∀ (m : Nat) (z : O), (env.set i (.va x.toD))[m]? = some (.ow z) → env[m]? = some (.ow z) := fun m z hm => by
        by_cases c : i = m
        · subst c
          have hi := (List.getElem?_eq_some_iff.mp hx).1
          rw [List.getElem?_set_self hi] at hm
          cases hm
        · rw [List.getElem?_set_ne c] at hm
          exact hm
      exact s.env.dis j k y y' b (f j y g1) (f k y' g2) g3 g4
  · exact ⟨W, s, Gr.refl _⟩
/-- a slot's own object is changed -/
theorem SOk.own {i : Nat} {x x' : O} {a : Addr} {u : HO} (s : SOk K W0 H0 W H S env σ) (h : env[i]? = some (.ow x)) (h2 : σ[i]? = some (some (.ref a))) (q : RepO K W.G W.r x' u) : SOk K W0 H0 W (upd H a u) S (env.set i (.ow x')) σ := by
  obtain ⟨u0, g1, g2, g3, g4, g5⟩ := s.env.owned h h2
  have hi := (List.getElem?_eq_some_iff.mp h).1
  refine ⟨⟨s.ext.g, s.ext.r, s.ext.gn, s.ext.rn, fun b o e n => ?_, fun b o e => ?_⟩, ⟨fun b o e => ?_, s.ok.nd, s.ok.len, fun n y e => ?_, s.ok.ng⟩, ⟨by rw [List.length_set]; exact s.env.len, fun j t o e1 e2 => ?_, fun j k y y' b e1 e2 e3 e4 => ?_⟩⟩
  · rw [upd_ne (ne_of_none e g5)]
    exact s.ext.h b o e n
  · rw [upd_ne (ne_of_none e g5)]
    exact s.ext.k b o e
  · rw [upd_ne (ne_of_none e g3)]
    exact s.ok.sub b o e
  · obtain ⟨c, v, c1, c2, c3⟩ := s.ok.cell n y e
    have nc : c ≠ a := fun z => g4 (by rw [← z]; exact List.mem_of_getElem? c1)
    exact ⟨c, v, c1, by rw [upd_ne nc]; exact c2, c3⟩
  · by_cases hj : i = j
    · subst hj
      rw [List.getElem?_set_self hi] at e1
      cases e1
      rw [h2] at e2
      cases e2
      exact ⟨a, u, rfl, upd_same, q, g3, g4, g5⟩
    · rw [List.getElem?_set_ne hj] at e1
      have z := s.env.sl j t o e1 e2
      cases t with
      | no => trivial
      | va d => exact z
      | ow y =>
        obtain ⟨b, u', z1, z2, z3, z4, z5, z6⟩ := z
        have nb : b ≠ a := fun e => by
          subst e
          subst z1
          exact hj (s.env.dis i j x y b h e1 h2 e2)
        exact ⟨b, u', z1, by rw [upd_ne nb]; exact z2, z3, z4, z5, z6⟩
  · have f : ∀ (m : Nat) (z : O), (env.set i (.ow x'))[m]? = some (.ow z) → ∃ z', env[m]? = some (.ow z') := fun m z hm => by
      by_cases c : i = m
      · subst c
        exact ⟨x, h⟩
      · rw [List.getElem?_set_ne c] at hm
        exact ⟨z, hm⟩
    obtain ⟨z1, f1⟩ := f j y e1
    obtain ⟨z2, f2⟩ := f k y' e2
    exact s.env.dis j k z1 z2 b f1 f2 e3 e4
/-- a shared object is changed -/
theorem Ext.cell {a : Addr} {u : HO} (h : a ∈ W.r) : Ext W H W (upd H a u) :=
  ⟨SubH.refl _, List.prefix_refl _, fun a h k => absurd h k, fun a h => .inl h, fun b o e n => by
    have nb : b ≠ a := fun z => n (by rw [z]; exact h)
    rw [upd_ne nb]; exact e, fun b o e => by
    by_cases hb : b = a
    · exact ⟨u, by rw [hb]; exact upd_same⟩
    · exact ⟨o, by rw [upd_ne hb]; exact e⟩⟩
theorem WOk.cellSet {n : Nat} {a : Addr} {x : O} {u : HO} (ok : WOk K W S H) (h : W.r[n]? = some a) (q : RepO K W.G W.r x u) : WOk K W (S.set n x) (upd H a u) := by
  have ha := List.mem_of_getElem? h
  refine ⟨fun b o e => ?_, ok.nd, by rw [List.length_set]; exact ok.len, fun m y e => ?_, ok.ng⟩
  · rw [upd_ne (ne_of_none e (ok.ng a ha))]
    exact ok.sub b o e
  · by_cases hm : n = m
    · subst hm
      have hn : n < S.length := by
        rw [← ok.len]
        exact (List.getElem?_eq_some_iff.mp h).1
      rw [List.getElem?_set_self hn] at e
      cases e
      exact ⟨a, u, h, upd_same, q⟩
    · rw [List.getElem?_set_ne hm] at e
      obtain ⟨c, v, c1, c2, c3⟩ := ok.cell m y e
      have nc : c ≠ a := fun z => by
        subst z
        obtain ⟨l1, g1⟩ := List.getElem?_eq_some_iff.mp h
        obtain ⟨l2, g2⟩ := List.getElem?_eq_some_iff.mp c1
        exact hm ((List.getElem_inj ok.nd).mp (g1.trans g2.symm))
      exact ⟨c, v, c1, by rw [upd_ne nc]; exact c2, c3⟩
/-- a new object becomes a shared one -/
theorem share {a : Addr} {x : O} {u : HO} (ok : WOk K W S H) (h : H a = some u) (q : RepO K W.G W.r x u) (g : W.G a = none) (n : a ∉ W.r) : WOk K ⟨W.G, W.r ++ [a]⟩ (S ++ [x]) H ∧ Rep K W.G (W.r ++ [a]) (.loc S.length) (.ref a) := by
  refine ⟨⟨ok.sub, ?_, by simp [ok.len], fun m y e => ?_, fun b hb => ?_⟩, .loc ?_⟩
  · rw [List.nodup_append]
    refine ⟨ok.nd, by simp, fun b hb c hc => ?_⟩
    have : c = a := by simpa using hc
    subst this
    exact fun z => n (z ▸ hb)
  · by_cases hm : m < S.length
    · rw [List.getElem?_append_left hm] at e
      obtain ⟨c, v, c1, c2, c3⟩ := ok.cell m y e
      exact ⟨c, v, pre_get ⟨[a], rfl⟩ c1, c2, c3.mono (SubH.refl _) ⟨[a], rfl⟩⟩
    · rw [List.getElem?_append_right (by omega)] at e
      have e0 : m - S.length = 0 := by
        cases k : m - S.length with
        | zero => rfl
        | succ k' => rw [k] at e; simp at e
      rw [e0] at e
      cases e
      have em : m = S.length := by omega
      subst em
      exact ⟨a, u, by rw [← ok.len]; simp, h, q.mono (SubH.refl _) ⟨[a], rfl⟩⟩
  · rcases List.mem_append.mp hb with z | z
    · exact ok.ng b z
    · have : b = a := by simpa using z
      rw [this]
      exact g
  · rw [← ok.len]
    simp
end

/-! ### statements: their rules -/
section
variable {X : Cx} {st : Stmt} {rest : List Stmt} {e : Expr} {pos : Pos}
theorem mss_nil : PSs X [] (tS X.K EX dSkip) := PSs.imp pss_nil fun D σ H ⟨W0, H0, W, S, env, s, q⟩ => q W H σ s (Gr.refl _)
theorem mss_cons {a b : DS} (h1 : PS X st (tS X.K EX a)) (h2 : PSs X rest (tS X.K EX b)) : PSs X (st :: rest) (tS X.K EX (dSeqS a b)) := PSs.imp (pss_cons h1 h2) fun D σ H ⟨W0, H0, W, S, env, s, q⟩ => by
  refine ⟨W0, H0, W, S, env, s, ?_⟩
  unfold dSeqS at q
  cases h : a env S with
  | nx e S1 =>
    rw [h] at q
    exact fun W1 H1 σ1 s1 g1 => ⟨W0, H0, W1, S1, e, s1, q.mono _ g1⟩
  | rt r S1 => rw [h] at q; exact q
  | bk e S1 => rw [h] at q; exact q
  | ct e S1 => rw [h] at q; exact q
  | xn c x S1 => rw [h] at q; exact q
  | bad => rw [h] at q; exact q
theorem mss_one {a : DS} (h1 : PS X st (tS X.K EX a)) : PSs X [st] (tS X.K EX a) := pss_one h1
theorem ms_frz {a : DS} (i : Nat) (h1 : PS X st (tS X.K EX a)) : PS X st (tS X.K EX (dFrz i a)) := PS.imp h1 fun D σ H ⟨W0, H0, W, S, env, s, q⟩ => by
  obtain ⟨W', s', g⟩ := s.frz i
  exact ⟨W0, H0, W', S, frzE i env, s', q.mono _ g⟩
theorem ms_ret {dr : DR} (he : PE X e (tR X.K dr)) : PS X (.Return (some e) pos) (tS X.K EX (dRet dr)) := PS.imp (ps_ret he) fun D σ H ⟨W0, H0, W, S, env, s, q⟩ => by
  unfold dRet at q
  cases h : dr env S with
  | ok r S1 =>
    rw [h] at q
    exact ⟨W, S, H0, env, s.ok, s.env, r, S1, h, fun W1 H1 v e1 o1 r1 => q W1 H1 v (s.ext.trans e1) o1 (r1.back fun a h => s.ext.fresh h)⟩
  | xn c x S1 => rw [h] at q; exact q.elim
  | bad => rw [h] at q; exact q.elim
/-- return x, x a slot: its own object goes out -/
theorem ms_retMv (i : Nat) {x : Str} {p : Pos} (hN : X.N[i]? = some x := by rfl) (hv : Vis X.env.scope x := by first | exact Or.inl rfl | exact Or.inr (Or.inl rfl) | exact Or.inr (Or.inr rfl)) (hd : (x == ("__debug__" : Str)) = false := by decide)
    (hcd : (x == ("__classdict__" : Str)) = false := by decide) : PS X (.Return (some (.Name x p)) pos) (tS X.K EX (dRet (dMv i))) := PS.imp (ps_ret (pe_var hN hv hd hcd)) fun D σ H ⟨W0, H0, W, S, env, s, q⟩ => by
  unfold dRet dMv at q
  cases h : env[i]? with
  | none => rw [h] at q; exact q.elim
  | some sl =>
    rw [h] at q
    obtain ⟨o, h3, h4⟩ := s.env.at h
    cases sl with
    | no => exact q.elim
    | va d =>
      obtain ⟨v, rfl, h5⟩ := h4
      exact ⟨v, h3, q W H v s.ext s.ok h5⟩
    | ow y =>
      obtain ⟨a, u, rfl, h5, h6, h7, h8, h9⟩ := h4
      exact ⟨.ref a, h3, q W H _ s.ext s.ok ⟨a, u, rfl, h5, h6, h7, h8, h9⟩⟩
theorem ms_if {c : Expr} {a b : List Stmt} {dc : DT} {da db : DS} (hc : PT X c (tT X.K dc)) (ha : PSs X a (tS X.K EX da)) (hb : PSs X b (tS X.K EX db)) : PS X (.If c a b pos) (tS X.K EX (dIfS dc da db)) := PS.imp (ps_if hc ha hb) fun D σ H ⟨W0, H0, W, S, env, s, q⟩ => by
  unfold dIfS at q
  cases h : dc env S with
  | ok k S1 =>
    rw [h] at q
    refine ⟨W, S, H0, env, s.ok, s.env, k, S1, h, fun W1 H1 e1 o1 => ?_⟩
    cases k with
    | true => exact ⟨W0, H0, W1, S1, env, s.step e1 o1, q.mono _ e1.gr⟩
    | false => exact ⟨W0, H0, W1, S1, env, s.step e1 o1, q.mono _ e1.gr⟩
  | xn c x S1 => rw [h] at q; exact q.elim
  | bad => rw [h] at q; exact q.elim
theorem ms_set {i : Nat} {x : Str} {dr : DR} {pos' : Pos} (hN : X.N.Nodup) (hi : X.N[i]? = some x) (hx : Loc X.env.scope x) (he : PE X e (tR X.K dr)) (hs : swapsWith e (some (.Name x pos')) pos.line X.env = pure false := by rfl) (hf : X.fn x = true ∨ X.env.scope.names.lookup x = some .local := by first | exact .inl rfl | exact .inr rfl | assumption) :
    PS X (.Assign [.Name x pos'] e pos) (tS X.K EX (dSet i dr)) := PS.imp (ps_set hN hi hx he hs hf) fun D σ H ⟨W0, H0, W, S, env, s, q⟩ => by
  unfold dSet at q
  cases h : dr env S with
  | ok r S1 =>
    rw [h] at q
    exact ⟨W, S, H0, env, s.ok, s.env, r, S1, h, fun W1 H1 v e1 o1 r1 => q W1 H1 _ (s.setR e1 o1 r1 i) e1.gr⟩
  | xn c x S1 => rw [h] at q; exact q.elim
  | bad => rw [h] at q; exact q.elim
theorem ms_setLc {i : Nat} {y : Str} {py : Pos} {elt tg iter : Expr} {ifs : List Expr} {scope : Scope} {own : List (Str × Nat)} {pos spos : Pos} {di : DA} {g : Tg} {dc : DT} {de : DE} (hc : X.calm = true) (hN : X.N.Nodup) (hy : X.N[i]? = some y) (hyl : X.env.scope.names.lookup y = some .local)
    (hsw : swapsWith (.ListComp elt [⟨tg, iter, ifs, 0⟩] scope pos) (some (.Name y py)) spos.line X.env = pure true) (hi : PI X tg iter (iB X.K di)) (ok : BlkOk X.N X.env.scope scope own)
    (hg : ∀ (s : Shared) (H : Hp) (C : Addr) (cl : List (Str × Addr)) (fp : List Addr), PG (X.blk s H scope (compEnvC scope cl C X.env) fp) tg (gT X.K g)) (ht : ∀ (s : Shared) (H : Hp) (C : Addr) (cl : List (Str × Addr)) (fp : List Addr), PTs (X.blk s H scope (compEnvC scope cl C X.env) fp) ifs (tT X.K dc))
    (he : ∀ (s : Shared) (H : Hp) (C : Addr) (cl : List (Str × Addr)) (fp : List Addr), PE (X.blk s H scope (compEnvC scope cl C X.env) fp) elt (tV X.K de)) (hsl : ∀ i ∈ g.slots, i ∈ own.map (·.2)) (hs : ∀ x, foldedSetIterable iter X.env x = pure x := by intro _; rfl) :
    PS X (.Assign [.Name y py] (.ListComp elt [⟨tg, iter, ifs, 0⟩] scope pos) spos) (tS X.K EX (dSet i (dComp di (own.map (·.2)) g dc de))) := PS.imp (ps_setLc hc hN hy hyl hsw hi ok hg ht he hs) fun D σ H ⟨W0, H0, W, S, env, s, q⟩ => by
  unfold dSet at q
  cases h : dComp di (own.map (·.2)) g dc de env S with
  | ok r S1 =>
    rw [h] at q
    exact comp_of hsl ⟨W, S, H0, env, s.ok, s.env, r, S1, h, fun W1 H1 v e1 o1 r1 => q W1 H1 _ (s.setR e1 o1 r1 i) e1.gr⟩
  | xn c x S1 => rw [h] at q; exact q.elim
  | bad => rw [h] at q; exact q.elim
theorem ms_sh {i : Nat} {x : Str} {dr : DR} {pos' : Pos} (hN : X.N.Nodup) (hi : X.N[i]? = some x) (hx : Loc X.env.scope x) (he : PE X e (tR X.K dr)) (hs : swapsWith e (some (.Name x pos')) pos.line X.env = pure false := by rfl) (hf : X.fn x = true ∨ X.env.scope.names.lookup x = some .local := by first | exact .inl rfl | exact .inr rfl | assumption) :
    PS X (.Assign [.Name x pos'] e pos) (tS X.K EX (dSh i dr)) := PS.imp (ps_set hN hi hx he hs hf) fun D σ H ⟨W0, H0, W, S, env, s, q⟩ => by
  unfold dSh at q
  cases h : dr env S with
  | ok r S1 =>
    rw [h] at q
    refine ⟨W, S, H0, env, s.ok, s.env, r, S1, h, fun W1 H1 v e1 o1 r1 => ?_⟩
    cases r with
    | o y =>
      obtain ⟨a, u, rfl, z1, z2, z3, z4, z5⟩ := r1
      obtain ⟨f1, f2⟩ := share o1 z1 z2 z3 z4
      have x1 : Ext W H ⟨W1.G, W1.r ++ [a]⟩ H1 := ⟨e1.g, e1.r.trans ⟨[a], rfl⟩, e1.gn, fun b hb => by
        rcases List.mem_append.mp hb with z | z
        · exact e1.rn b z
        · have : b = a := by simpa using z
          rw [this]
          exact .inr z5, e1.h, e1.k⟩
      exact q _ H1 _ (s.setR (r := .v (.loc S1.length)) x1 f1 f2 i) x1.gr
    | v d =>
      cases d with
      | loc n => exact q W1 H1 _ (s.setR (r := .v (.loc n)) e1 o1 r1 i) e1.gr
      | _ => exact q.elim
  | xn c x S1 => rw [h] at q; exact q.elim
  | bad => rw [h] at q; exact q.elim
theorem ms_unp {tg : Expr} {t : Tg} {de : DE} (he : PE X e (tV X.K de)) (hg : PG X tg (gT X.K t)) (hs : swapsWithSole [tg] e pos.line X.env = pure false := by rfl) (hw : swappedStores [tg] e X.env = pure none := by rfl)
    (h1 : (assignEach [tg] X.env).map (·.2) = [assign tg X.env] := by rfl) : PS X (.Assign [tg] e pos) (tS X.K EX (dUnp t de)) := PS.imp (ps_asg he hg hs hw h1) fun D σ H ⟨W0, H0, W, S, env, s, q⟩ => by
  unfold dUnp at q
  cases h : de env S with
  | ok d S1 =>
    rw [h] at q
    refine ⟨W, S, H0, env, s.ok, s.env, d, S1, h, fun W1 H1 v e1 o1 r1 => ?_⟩
    have s1 := s.step e1 o1
    have q : OutOk X.K EX W0 H0 W D (match bindTg t d env with | some e1 => Out.nx e1 S1 | none => .bad) := q
    cases hb : bindTg t d env with
    | none => rw [hb] at q; exact q.elim
    | some env' =>
      rw [hb] at q
      exact ⟨W1, S1, H0, env, d, o1, s1.env, r1, env', hb, fun σ' eo _ => q W1 H1 σ' ⟨s1.ext, o1, eo⟩ e1.gr⟩
  | xn c x S1 => rw [h] at q; exact q.elim
  | bad => rw [h] at q; exact q.elim
theorem ms_for {tg iter : Expr} {body : List Stmt} {di : DA} {t : Tg} {db : DS} (hp : PassesOwn (model X.prog X.w) X.A X.env X.xe) (hc : X.calm = true) (hi : PI X tg iter (iF X.K di)) (hg : PG X tg (gT X.K t)) (hb : PSs X body (tS X.K EX db))
    (hs : ∀ x, foldedSetIterable iter X.env x = pure x := by intro _; rfl) : PS X (.For tg iter body [] pos) (tS X.K EX (dFor di t db)) := PS.imp (ps_for hp hc hi hg hb hs) fun D σ H ⟨W0, H0, W, S, env, s, q⟩ => by
  unfold dFor at q
  cases h : di env S with
  | xn c x S1 => rw [h] at q; exact q.elim
  | bad => rw [h] at q; exact q.elim
  | ok ds S1 =>
    rw [h] at q
    refine ⟨W, S, H0, env, s.ok, s.env, ds, S1, h, fun W1 H1 J e1 o1 w1 => ?_⟩
    refine ⟨fun i m σ H => m = ds.length - i ∧ i ≤ ds.length ∧ ∃ W2 S2 env2, SOk X.K W0 H0 W2 H S2 env2 σ ∧ Gr W1 W2 ∧ OutOk X.K EX W0 H0 W D (forL t db (ds.drop i) env2 S2), ⟨ds.length, by simp, Nat.zero_le _, W1, S1, env, s.step e1 o1, Gr.refl _, by simpa using q⟩, ?_⟩
    rintro i m σ2 H2 ⟨rfl, hi, W2, S2, env2, s2, p2, q2⟩
    by_cases hlt : i < ds.length
    · refine .inr ⟨w1.go i W2 S2 H2 hlt s2.ok p2, fun σ H => ∃ W2 S2 env2, SOk X.K W0 H0 W2 H S2 env2 σ ∧ Gr W1 W2 ∧ OutOk X.K EX W0 H0 W D (forL t db (ds.drop (i + 1)) env2 S2), fun σ' H' hn => ⟨ds.length - (i + 1), by omega, rfl, hlt, hn⟩, fun x Hy hy => ?_⟩
      obtain ⟨W3, d, hd, x3, o3, rd⟩ := w1.yld i W2 S2 H2 x Hy hlt s2.ok p2 hy
      have ed : ds[i] = d := by
        rw [List.getElem?_eq_getElem hlt] at hd
        exact Option.some.inj hd
      rw [List.drop_eq_getElem_cons hlt, ed] at q2
      unfold forL at q2
      have s3 := s2.step x3 o3
      have p3 := p2.trans x3.gr
      cases hbt : bindTg t d env2 with
      | none => rw [hbt] at q2; exact q2.elim
      | some env3 =>
        rw [hbt] at q2
        refine ⟨W3, S2, H0, env2, d, o3, s3.env, rd, env3, hbt, fun σ4 eo4 _ => ?_⟩
        refine ⟨W0, H0, W3, S2, env3, ⟨s3.ext, o3, eo4⟩, ?_⟩
        have q2 : OutOk X.K EX W0 H0 W D (match db env3 S2 with
          | .nx e2 S2 => forL t db (ds.drop (i + 1)) e2 S2
          | .ct e2 S2 => forL t db (ds.drop (i + 1)) e2 S2
          | .bk e2 S2 => .nx e2 S2
          | .rt r S2 => .rt r S2
          | .xn c x S2 => .xn c x S2
          | .bad => .bad) := q2
        cases hb : db env3 S2 with
        | nx e4 S4 => rw [hb] at q2; exact fun W5 H5 σ5 s5 g5 => ⟨W5, S4, e4, s5, p3.trans g5, q2⟩
        | ct e4 S4 => rw [hb] at q2; exact fun W5 H5 σ5 s5 g5 => ⟨W5, S4, e4, s5, p3.trans g5, q2⟩
        | bk e4 S4 => rw [hb] at q2; exact fun W5 H5 σ5 s5 g5 => q2 W5 H5 σ5 s5 ((e1.gr.trans p3).trans g5)
        | rt r S4 => rw [hb] at q2; exact q2
        | xn c x S4 => rw [hb] at q2; exact q2
        | bad => rw [hb] at q2; exact q2
    · have ei : i = ds.length := by omega
      subst ei
      rw [List.drop_length] at q2
      unfold forL at q2
      exact .inl ⟨w1.stop W2 S2 H2 s2.ok p2, q2 W2 H2 σ2 s2 (e1.gr.trans p2)⟩
theorem ms_while {c : Expr} {body : List Stmt} {dc : DT} {db : DS} (hp : PassesOwn (model X.prog X.w) X.A X.env X.xe) (hc : PT X c (tT X.K dc)) (hb : PSs X body (tS X.K EX db)) : PS X (.While c body [] pos) (tS X.K EX (dWhile dc db)) := PS.imp (ps_while hp hc hb) fun D σ H ⟨W0, H0, W, S, env, s, q⟩ => by
  unfold dWhile at q
  refine ⟨fun m σ H => ∃ W2 S2 env2, SOk X.K W0 H0 W2 H S2 env2 σ ∧ Gr W W2 ∧ OutOk X.K EX W0 H0 W D (whileL dc db m env2 S2), ⟨fuelW, W, S, env, s, Gr.refl _, q⟩, ?_⟩
  rintro m σ2 H2 ⟨W2, S2, env2, s2, g2, q2⟩
  cases m with
  | zero => exact q2.elim
  | succ m =>
    unfold whileL at q2
    cases h : dc env2 S2 with
    | xn c x S1 => rw [h] at q2; exact q2.elim
    | bad => rw [h] at q2; exact q2.elim
    | ok k S3 =>
      rw [h] at q2
      refine ⟨W2, S2, H0, env2, s2.ok, s2.env, k, S3, h, fun W3 H3 e3 o3 => ?_⟩
      have s3 := s2.step e3 o3
      have g3 := g2.trans e3.gr
      cases k with
      | false => exact q2 W3 H3 σ2 s3 g3
      | true =>
        refine ⟨fun σ H => ∃ W2 S2 env2, SOk X.K W0 H0 W2 H S2 env2 σ ∧ Gr W W2 ∧ OutOk X.K EX W0 H0 W D (whileL dc db m env2 S2), fun σ' H' hn => ⟨m, Nat.lt_succ_self m, hn⟩, W0, H0, W3, S3, env2, s3, ?_⟩
        have q2 : OutOk X.K EX W0 H0 W D (match db env2 S3 with
          | .nx e2 S2 => whileL dc db m e2 S2
          | .ct e2 S2 => whileL dc db m e2 S2
          | .bk e2 S2 => .nx e2 S2
          | .rt r S2 => .rt r S2
          | .xn c x S2 => .xn c x S2
          | .bad => .bad) := q2
        cases hb : db env2 S3 with
        | nx e4 S4 => rw [hb] at q2; exact fun W5 H5 σ5 s5 g5 => ⟨W5, S4, e4, s5, g3.trans g5, q2⟩
        | ct e4 S4 => rw [hb] at q2; exact fun W5 H5 σ5 s5 g5 => ⟨W5, S4, e4, s5, g3.trans g5, q2⟩
        | bk e4 S4 => rw [hb] at q2; exact fun W5 H5 σ5 s5 g5 => q2 W5 H5 σ5 s5 (g3.trans g5)
        | rt r S4 => rw [hb] at q2; exact q2
        | xn c x S4 => rw [hb] at q2; exact q2
        | bad => rw [hb] at q2; exact q2
end
end MP

namespace MP
open PySem PySem.Spec PyProof.Rows L2
variable {EX : L2.XK}

/-! ### several results at once -/
section
variable (K : PySem.W.Frag)
structure RL (W : Wd) (H H1 : Hp) (rs : List R) (vs : List V) : Prop where
  len : rs.length = vs.length
  each : ∀ (i : Nat) r v, rs[i]? = some r → vs[i]? = some v → RepR K W H H1 r v
  dis : ∀ (i j : Nat) x y a, rs[i]? = some (.o x) → rs[j]? = some (.o y) → vs[i]? = some (.ref a) → vs[j]? = some (.ref a) → i = j
def tAR (d : DRs) : TA := fun σ H Q => ∃ W S H0 env, WOk K W S H ∧ EnvOk K W H H0 env σ ∧ ∃ rs S', d env S = .ok rs S' ∧ ∀ W' H' vs, Ext W H W' H' → WOk K W' S' H' → RL K W' H' H rs vs → Q vs H'
end
theorem RepR.ext {K : PySem.W.Frag} {W W' : Wd} {H H' H0 : Hp} {r : R} {v : V} (h : RepR K W H H0 r v) (e : Ext W H W' H') : RepR K W' H' H0 r v := by
  cases r with
  | v d => exact Rep.ext h e
  | o x =>
    obtain ⟨a, u, h1, h2, h3, h4, h5, h6⟩ := h
    obtain ⟨g1, g2, g3⟩ := e.out h2 h3.nt h4 h5
    exact ⟨a, u, h1, g1, h3.mono e.g e.r, g2, g3, h6⟩
section
variable {X : Cx} {e : Expr} {pos : Pos}
theorem mr_nil : PA X [] (tAR X.K rNil) := PA.imp pa_nil fun σ H Q ⟨W, S, H0, env, ok, eo, d, S', h, q⟩ => by
  cases h
  exact q W H [] (Ext.refl _ _) ok ⟨rfl, fun i r v h => by simp at h, fun i j x y a h => by simp at h⟩
theorem mr_cons {es : List Expr} {dr : DR} {d : DRs} (ha : PE X e (tR X.K dr)) (hr : PA X es (tAR X.K d)) (hs : starEach (e :: es) X.env = (false, eval e X.env) :: starEach es X.env := by rfl) : PA X (e :: es) (tAR X.K (rCons dr d)) :=
  PA.imp (pa_cons ha hr hs) fun σ H Q ⟨W, S, H0, env, ok, eo, rs, S', h, q⟩ => by
    obtain ⟨x, S1, h1, h2⟩ := bind_ok h
    obtain ⟨xs, h3, h4⟩ := map_ok h2
    subst h4
    refine ⟨W, S, H0, env, ok, eo, x, S1, h1, fun W1 H1 v e1 o1 r1 => ?_⟩
    refine ⟨W1, S1, H0, env, o1, eo.ext e1, xs, S', h3, fun W2 H2 vs e2 o2 r2 => ?_⟩
    have old : ∀ (y : O) (a : Addr), x = .o y → v = .ref a → ∀ (j : Nat) z, xs[j]? = some (.o z) → vs[j]? = some (.ref a) → False := fun y a ex ev j z g1 g2 => by
      subst ex ev
      obtain ⟨b, u, k1, k2, _⟩ := r1
      cases k1
      obtain ⟨b, u', l1, l2, l3, l4, l5, l6⟩ := r2.each j _ _ g1 g2
      cases l1
      rw [l6] at k2
      cases k2
    refine q W2 H2 _ (e1.trans e2) o2 ⟨by simp [r2.len], fun i r u g1 g2 => ?_, fun i j y z a g1 g2 g3 g4 => ?_⟩
    · cases i with
      | zero =>
        cases g1
        cases g2
        exact (r1.ext e2)
      | succ i => exact (r2.each i r u (by simpa using g1) (by simpa using g2)).back fun a h => e1.fresh h
    · cases i with
      | zero =>
        cases g1
        cases g3
        cases j with
        | zero => rfl
        | succ j => exact (old y a rfl rfl j z (by simpa using g2) (by simpa using g4)).elim
      | succ i =>
        cases j with
        | zero =>
          cases g2
          cases g4
          exact (old z a rfl rfl i y (by simpa using g1) (by simpa using g3)).elim
        | succ j => rw [r2.dis i j y z a (by simpa using g1) (by simpa using g2) (by simpa using g3) (by simpa using g4)]
def setSts : List Nat → List V → L2.St → L2.St
  | i :: is, v :: vs, σ => setSts is vs (σ.set i (some v))
  | _, _, σ => σ
theorem EnvOk.setRs {K : PySem.W.Frag} {W : Wd} {H H0 H1 : Hp} : ∀ (is : List Nat) (rs : List R) (vs : List V) (e e' : Envm) (σ : L2.St), EnvOk K W H H0 e σ → RL K W H H1 rs vs → (∀ a, H1 a = none → H0 a = none) → setSls is rs e = some e' →
    (∀ (i : Nat) (x : O) (a : Addr), rs[i]? = some (.o x) → vs[i]? = some (.ref a) → ∀ (j : Nat) (y : O), e[j]? = some (.ow y) → σ[j]? ≠ some (some (.ref a))) → EnvOk K W H H0 e' (setSts is vs σ)
  | [], [], vs, e, e', σ, q, z, b, h, n => by
    unfold setSls at h
    cases h
    unfold setSts
    exact q
  | i :: is, r :: rs, [], e, e', σ, q, z, b, h, n => by
    have := z.len
    simp at this
  | i :: is, r :: rs, v :: vs, e, e', σ, q, z, b, h, n => by
    unfold setSls at h
    unfold setSts
    have r0 := z.each 0 r v rfl rfl
    refine EnvOk.setRs (H1 := H1) is rs vs (e.set i (slOf r)) e' (σ.set i (some v)) (q.setR (r0.back b) i fun x a er ev j y _ g1 => ?_) ⟨?_, fun j r' v' g1 g2 => z.each (j + 1) r' v' (by simpa using g1) (by simpa using g2), fun j k x y a g1 g2 g3 g4 => ?_⟩ b h fun j x a g1 g2 k y g3 => ?_
    · subst er ev
      exact n 0 x a rfl rfl j y g1
    · have := z.len
      simpa using this
    · have := z.dis (j + 1) (k + 1) x y a (by simpa using g1) (by simpa using g2) (by simpa using g3) (by simpa using g4)
      omega
    · by_cases hk : i = k
      · subst hk
        have hi : i < σ.length := by
          have := (List.getElem?_eq_some_iff.mp g3).1
          rw [List.length_set, q.len] at this
          exact this
        rw [List.getElem?_set_self (by rw [q.len]; exact hi)] at g3
        rw [List.getElem?_set_self hi]
        intro ev
        have ev' : v = .ref a := Option.some.inj (Option.some.inj ev)
        cases r with
        | v d => cases g3
        | o w =>
          have := z.dis 0 (j + 1) w x a rfl (by simpa using g1) (by simp [ev']) (by simpa using g2)
          omega
      · rw [List.getElem?_set_ne hk] at g3 ⊢
        exact n (j + 1) x a (by simpa using g1) (by simpa using g2) k y g3
  | [], _ :: _, _, _, _, _, _, _, _, h, _ => by unfold setSls at h; cases h
  | _ :: _, [], _, _, _, _, _, _, _, h, _ => by unfold setSls at h; cases h
theorem SOk.setRs {K : PySem.W.Frag} {W0 W W' : Wd} {H0 H H' : Hp} {S S' : Sto} {env env' : Envm} {σ : L2.St} {is : List Nat} {rs : List R} {vs : List V} (s : SOk K W0 H0 W H S env σ) (e : Ext W H W' H') (o : WOk K W' S' H') (z : RL K W' H' H rs vs) (h : setSls is rs env = some env') :
    SOk K W0 H0 W' H' S' env' (setSts is vs σ) := by
  have s' := s.step e o
  refine ⟨s'.ext, o, EnvOk.setRs (H1 := H) is rs vs env env' σ s'.env z (fun a h => s.ext.fresh h) h fun i x a g1 g2 j y g3 g4 => ?_⟩
  obtain ⟨b, u, l1, l2, l3, l4, l5, l6⟩ := z.each i _ _ g1 g2
  cases l1
  obtain ⟨u', k1, _⟩ := s.env.owned g3 g4
  rw [l6] at k1
  cases k1
/-- the end of an assignment to several names -/
theorem par_of {K : PySem.W.Frag} {is : List Nat} {d : DRs} {D : Ends} {σ : L2.St} {H : Hp} (h : tS K EX (dPar is d) D σ H) : tAR K d σ H fun vs H1 => vs.length = is.length ∧ D.nx (setSts is vs σ) H1 ∧ ∀ p u, H1 p = none → D.nx (setSts is vs σ) (upd H1 p u) := by
  obtain ⟨W0, H0, W, S, env, s, q⟩ := h
  unfold dPar at q
  cases h : d env S with
  | xn c x S1 => rw [h] at q; exact q.elim
  | bad => rw [h] at q; exact q.elim
  | ok rs S1 =>
    rw [h] at q
    have q : OutOk K EX W0 H0 W D (match setSls is rs env with | some e1 => Out.nx e1 S1 | none => .bad) := q
    refine ⟨W, S, H0, env, s.ok, s.env, rs, S1, h, fun W1 H1 vs e1 o1 r1 => ?_⟩
    cases hb : setSls is rs env with
    | none => rw [hb] at q; exact q.elim
    | some env' =>
      rw [hb] at q
      have ln : ∀ (is : List Nat) (rs : List R) (e e' : Envm), setSls is rs e = some e' → rs.length = is.length := by
        intro is
        induction is with
        | nil =>
          intro rs e e' g
          cases rs with
          | nil => rfl
          | cons _ _ => unfold setSls at g; cases g
        | cons i is ih =>
          intro rs e e' g
          cases rs with
          | nil => unfold setSls at g; cases g
          | cons r rs =>
            unfold setSls at g
            simp [ih rs _ _ g]
      have s1 := s.setRs e1 o1 r1 hb
      refine ⟨by rw [← r1.len]; exact ln _ _ _ _ hb, q W1 H1 _ s1 e1.gr, fun p u hp => ?_⟩
      have x2 : Ext W1 H1 W1 (upd H1 p u) := lay_ext W1 hp
      exact q W1 _ _ (s1.step x2 (lay_ok o1 hp)) e1.gr
theorem ms_par2 {i j : Nat} {x y : Str} {a b : Expr} {d : DRs} {px py pt : Pos} {kt k2 pt2} (hc : X.calm = true) (hN : X.N.Nodup) (hi : X.N[i]? = some x) (hj : X.N[j]? = some y) (hij : i ≠ j)
    (hx : X.env.scope.names.lookup x = some .local) (hy : X.env.scope.names.lookup y = some .local) (ha : PA X [a, b] (tAR X.K d))
    (hw : swappedStores [.Tuple [.Name x px, .Name y py] kt pt] (.Tuple [a, b] k2 pt2) X.env = pure (some [x, y]))
    (hs : swapsWithSole [.Tuple [.Name x px, .Name y py] kt pt] (.Tuple [a, b] k2 pt2) pos.line X.env = pure false := by rfl) :
    PS X (.Assign [.Tuple [.Name x px, .Name y py] kt pt] (.Tuple [a, b] k2 pt2) pos) (tS X.K EX (dPar [i, j] d)) := PS.imp (ps_par hc hN hi hj hij hx hy ha hw hs) fun D σ H h => by
  obtain ⟨W, S, H0, env, o, eo, rs, S', h1, q⟩ := par_of h
  refine ⟨W, S, H0, env, o, eo, rs, S', h1, fun W' H' vs e1 o1 r1 => ?_⟩
  obtain ⟨q1, q2, _⟩ := q W' H' vs e1 o1 r1
  match vs, q1, q2 with
  | [v, w], _, q2 => exact ⟨v, w, rfl, q2⟩
theorem ms_par3 {i j l : Nat} {x y z : Str} {a b c : Expr} {d : DRs} {px py pz pt : Pos} {kt k2 pt2} (hc : X.calm = true) (hN : X.N.Nodup) (hi : X.N[i]? = some x) (hj : X.N[j]? = some y) (hl : X.N[l]? = some z) (hij : i ≠ j) (hil : i ≠ l) (hjl : j ≠ l)
    (hx : X.env.scope.names.lookup x = some .local) (hy : X.env.scope.names.lookup y = some .local) (hz : X.env.scope.names.lookup z = some .local) (ha : PA X [a, b, c] (tAR X.K d))
    (hw : swappedStores [.Tuple [.Name x px, .Name y py, .Name z pz] kt pt] (.Tuple [a, b, c] k2 pt2) X.env = pure (some [x, y, z]))
    (hs : swapsWithSole [.Tuple [.Name x px, .Name y py, .Name z pz] kt pt] (.Tuple [a, b, c] k2 pt2) pos.line X.env = pure false := by rfl) :
    PS X (.Assign [.Tuple [.Name x px, .Name y py, .Name z pz] kt pt] (.Tuple [a, b, c] k2 pt2) pos) (tS X.K EX (dPar [i, j, l] d)) := PS.imp (ps_par3 hc hN hi hj hl hij hil hjl hx hy hz ha hw hs) fun D σ H h => by
  obtain ⟨W, S, H0, env, o, eo, rs, S', h1, q⟩ := par_of h
  refine ⟨W, S, H0, env, o, eo, rs, S', h1, fun W' H' vs e1 o1 r1 => ?_⟩
  obtain ⟨q1, q2, _⟩ := q W' H' vs e1 o1 r1
  match vs, q1, q2 with
  | [v, w, u], _, q2 => exact ⟨v, w, u, rfl, q2⟩
/-- names, one after another -/
def gNames : List Nat → TGs
  | [] => gNil
  | i :: is => gCons (gName i) (gNames is)
/-! ### name op= e -/
/-! ### objects of slots, and shared ones, that change -/
def isL (S : Sto) (n : Nat) : Bool := match S[n]? with
  | some (.l _) => true
  | _ => false
/-- what is done with a list; own or shared -/
def mutL (i : Nat) (f : List D → Option (List D)) (env : Envm) (S : Sto) : Out := match env[i]? with
  | some (.ow (.l ds)) => (match f ds with
    | some ds' => .nx (env.set i (.ow (.l ds'))) S
    | none => .bad)
  | some (.va (.loc n)) => (match S[n]? with
    | some (.l ds) => (match f ds with
      | some ds' => .nx env (S.set n (.l ds'))
      | none => .bad)
    | _ => .bad)
  | _ => .bad
def listSlot (i : Nat) (env : Envm) (S : Sto) : Bool := match env[i]? with
  | some (.ow (.l _)) => true
  | some (.va (.loc n)) => isL S n
  | _ => false
/-- the slot's list -/
theorem list_slot {K : PySem.W.Frag} {i : Nat} {env : Envm} {S : Sto} {W : Wd} {H H0 : Hp} {σ : L2.St} (o : WOk K W S H) (eo : EnvOk K W H H0 env σ) (h : listSlot i env S = true) : ∃ a xs, σ[i]? = some (some (.ref a)) ∧ H a = some (.lst xs) := by
  unfold listSlot at h
  cases hi : env[i]? with
  | none => rw [hi] at h; cases h
  | some sl =>
    rw [hi] at h
    obtain ⟨ov, h3, h4⟩ := eo.at hi
    cases sl with
    | no => cases h
    | ow y =>
      cases y with
      | k _ _ => cases h
      | t _ _ => cases h
      | fk _ _ => cases h
      | ft _ _ => cases h
      | l ds =>
        obtain ⟨a, u, rfl, g1, g2, g3⟩ := h4
        cases g2 with
        | @l _ xs g2 => exact ⟨a, xs, h3, g1⟩
    | va x =>
      cases x with
      | loc n =>
        obtain ⟨v, rfl, g1⟩ := h4
        cases g1 with
        | @loc _ a g1 =>
        have h : isL S n = true := h
        unfold isL at h
        cases hS : S[n]? with
        | none => rw [hS] at h; cases h
        | some y =>
          rw [hS] at h
          obtain ⟨a0, u0, c1, c2, c3⟩ := o.cell n y hS
          rw [g1] at c1
          cases c1
          cases y with
          | k _ _ => cases h
          | t _ _ => cases h
          | fk _ _ => cases h
          | ft _ _ => cases h
          | l ds =>
            cases c3 with
            | @l _ xs c3 => exact ⟨a, xs, h3, c2⟩
      | _ => cases h
/-- .. and how it is changed -/
theorem mut_of {K : PySem.W.Frag} {i : Nat} {f : List D → Option (List D)} {env : Envm} {S : Sto} {W0 W Wc : Wd} {H H0 : Hp} {σ : L2.St} {D : Ends} (s : SOk K W0 H0 W H S env σ) (g : Gr Wc W) (q : OutOk K EX W0 H0 Wc D (mutL i f env S)) :
    ∃ a ds xs ds', σ[i]? = some (some (.ref a)) ∧ H a = some (.lst xs) ∧ RepL K W.G W.r ds xs ∧ f ds = some ds' ∧ ∀ xs', RepL K W.G W.r ds' xs' → D.nx σ (upd H a (.lst xs')) := by
  unfold mutL at q
  cases hi : env[i]? with
  | none => rw [hi] at q; exact q.elim
  | some sl =>
    rw [hi] at q
    obtain ⟨o, h3, h4⟩ := s.env.at hi
    cases sl with
    | no => exact q.elim
    | ow y =>
      cases y with
      | k _ _ => exact q.elim
      | t _ _ => exact q.elim
      | fk _ _ => exact q.elim
      | ft _ _ => exact q.elim
      | l ds =>
        obtain ⟨a, u, rfl, g1, g2, g3, g4, g5⟩ := h4
        cases g2 with
        | @l _ xs g2 =>
        have q : OutOk K EX W0 H0 Wc D (match f ds with
          | some ds' => .nx (env.set i (.ow (.l ds'))) S
          | none => .bad) := q
        cases hf : f ds with
        | none => rw [hf] at q; exact q.elim
        | some ds' =>
          rw [hf] at q
          exact ⟨a, ds, xs, ds', h3, g1, g2, hf, fun xs' rx => q W _ σ (s.own hi h3 (.l rx)) g⟩
    | va x =>
      cases x with
      | loc n =>
        have q : OutOk K EX W0 H0 Wc D (match S[n]? with
          | some (.l ds) => (match f ds with
            | some ds' => .nx env (S.set n (.l ds'))
            | none => .bad)
          | _ => .bad) := q
        obtain ⟨v0, rfl, g1⟩ := h4
        cases g1 with
        | @loc _ a g1 =>
        cases hS : S[n]? with
        | none => rw [hS] at q; exact q.elim
        | some y =>
          rw [hS] at q
          cases y with
          | k _ _ => exact q.elim
          | t _ _ => exact q.elim
          | fk _ _ => exact q.elim
          | ft _ _ => exact q.elim
          | l ds =>
            have q : OutOk K EX W0 H0 Wc D (match f ds with
              | some ds' => .nx env (S.set n (.l ds'))
              | none => .bad) := q
            cases hf : f ds with
            | none => rw [hf] at q; exact q.elim
            | some ds' =>
              rw [hf] at q
              obtain ⟨a0, u0, c1, c2, c3⟩ := s.ok.cell n _ hS
              rw [g1] at c1
              cases c1
              cases c3 with
              | @l _ xs c3 =>
              refine ⟨a, ds, xs, ds', h3, c2, c3, hf, fun xs' rx => ?_⟩
              exact q W _ σ (s.step (Ext.cell (List.mem_of_getElem? g1)) (s.ok.cellSet g1 (.l rx))) g
      | _ => exact q.elim
/-- x.m(e) as a statement, x a slot's list -/
def dMut1 (i : Nat) (f : List D → D → Option (List D)) (de : DE) : DS := fun env S => if listSlot i env S = true then (match de env S with
  | .ok d S1 => mutL i (f · d) env S1
  | .xn _ _ _ => .bad
  | .bad => .bad) else .bad
theorem mut1_of {K : PySem.W.Frag} {i : Nat} {f : List D → D → Option (List D)} {de : DE} {r : V → List V → Hp → VK → Prop} {D : Ends} {σ : L2.St} {H : Hp}
    (hr : ∀ (G : Hp) (l : List Addr) (H : Hp) (a : Addr) (ds ds' : List MP.D) (d : MP.D) (xs : List V) (v : V) (Q : VK), SubH G H → H a = some (.lst xs) → RepL K G l ds xs → Rep K G l d v → f ds d = some ds' → (∀ xs', RepL K G l ds' xs' → Q .non (upd H a (.lst xs'))) → r (.ref a) [v] H Q)
    (h : tS K EX (dMut1 i f de) D σ H) : tDrop (tBM K "list" r (tVar i) (tCons (tV K de) tNil)) D σ H := by
  obtain ⟨W0, H0, W, S, env, s, q⟩ := h
  unfold dMut1 at q
  split at q
  case isFalse => exact q.elim
  rename_i hl
  obtain ⟨a, xs, h1, h2⟩ := list_slot s.ok s.env hl
  refine ⟨.ref a, h1, .inl ⟨rfl, xs, SqL.of h2⟩, ?_⟩
  cases h : de env S with
  | xn c x S1 => rw [h] at q; exact q.elim
  | bad => rw [h] at q; exact q.elim
  | ok d S1 =>
    rw [h] at q
    refine ⟨W, S, H0, env, s.ok, s.env, d, S1, h, fun W1 H1 v e1 o1 r1 => ?_⟩
    obtain ⟨a', ds, xs', ds', g1, g2, g3, g4, g5⟩ := mut_of (s.step e1 o1) e1.gr q
    rw [h1] at g1
    cases g1
    exact hr W1.G W1.r H1 a ds ds' d xs' v _ o1.sub g2 g3 r1 g4 g5
def fApp : List D → D → Option (List D) := fun ds d => if ds.length ≤ 100000 then some (ds ++ [d]) else none
def fExt : List D → D → Option (List D) := fun ds d => match d with
  | .lst es => if ds.length + es.length ≤ 100000 then some (ds ++ es) else none
  | _ => none
theorem ms_app (i : Nat) {x : Str} {de : DE} {p1 p2 p3 : Pos} (he : PE X e (tV X.K de)) (hN : X.N[i]? = some x := by rfl) (hv : Vis X.env.scope x := by first | exact Or.inl rfl | exact Or.inr (Or.inl rfl) | exact Or.inr (Or.inr rfl)) (hd : (x == ("__debug__" : Str)) = false := by decide)
    (hcd : (x == ("__classdict__" : Str)) = false := by decide) (hst : starEach [e] X.env = (false, eval e X.env) :: starEach [] X.env := by rfl) (hbase : attributeBase (.Name x p1) "append" X.env (eval (.Name x p1) X.env) = eval (.Name x p1) X.env := by rfl)
    (hfew : ((backTo p3 (starEach [e] X.env)).all (fun x => !x.1) && (backToKw p3 (keywordEach [] X.env)).all (fun x => x.1.isSome) && decide ([e].length + ([] : List Keyword).length + (if ([] : List Keyword).isEmpty then 0 else 1) < 30)) = true := by rfl)
    (hline : (p2.endLine == p3.line) = true := by rfl) (hs : swapsWith (.Call (.Attribute (.Name x p1) "append" p2) [e] [] p3) none pos.line X.env = pure false := by rfl) :
    PS X (.Expr (.Call (.Attribute (.Name x p1) "append" p2) [e] [] p3) pos) (tS X.K EX (dMut1 i fApp de)) :=
  PS.imp (ps_expr (pe_bm PySem.F.plainAttrs_list PySem.F.slot_list_append PySem.F.type_list_append mt_append (pe_var hN hv hd hcd) (pa_cons he pa_nil hst) hbase hfew hline hst) hs) fun D σ H h => mut1_of (fun G l H a ds ds' d xs v Q sb h1 h2 h3 h4 h5 => by
    unfold fApp at h4
    split at h4
    case isFalse => cases h4
    cases h4
    have := h2.length
    exact ⟨a, xs, v, rfl, rfl, h1, Nat.lt_of_le_of_lt (show xs.length ≤ 100000 by omega) (by decide), h5 _ (h2.snoc h3)⟩) h
/-- found.append(left.pop(e)) -/
def dAppPop (i j : Nat) (de : DE) : DS := fun env S => if listSlot i env S = true ∧ listSlot j env S = true ∧ i ≠ j then (match de env S with
  | .ok (.int k) S1 => (match env[i]?, env[j]? with
    | some (.ow (.l ds)), some (.ow (.l es)) => if 0 ≤ k ∧ k ≤ 100000 ∧ ds.length ≤ 100000 then (match es[k.toNat]? with
      | some y => .nx ((env.set j (.ow (.l (es.eraseIdx k.toNat)))).set i (.ow (.l (ds ++ [y])))) S1
      | none => .bad) else .bad
    | _, _ => .bad)
  | .ok _ _ => .bad
  | .xn _ _ _ => .bad
  | .bad => .bad) else .bad
theorem own_slot {K : PySem.W.Frag} {W : Wd} {H H0 : Hp} {e : Envm} {σ : L2.St} (q : EnvOk K W H H0 e σ) {i : Nat} {ds : List D} (h : e[i]? = some (.ow (.l ds))) : ∃ a xs, σ[i]? = some (some (.ref a)) ∧ H a = some (.lst xs) ∧ RepL K W.G W.r ds xs := by
  obtain ⟨o, h3, a, u, rfl, g1, g2, g3⟩ := q.at h
  cases g2 with
  | @l _ xs g2 => exact ⟨a, xs, h3, g1, g2⟩
theorem ms_appPop (i j : Nat) {x y : Str} {de : DE} {p1 p2 p3 q1 q2 q3 : Pos} (he : PE X e (tV X.K de)) (hN : X.N[i]? = some x := by rfl) (hv : Vis X.env.scope x := by first | exact Or.inl rfl | exact Or.inr (Or.inl rfl) | exact Or.inr (Or.inr rfl)) (hd : (x == ("__debug__" : Str)) = false := by decide)
    (hcd : (x == ("__classdict__" : Str)) = false := by decide) (hN2 : X.N[j]? = some y := by rfl) (hv2 : Vis X.env.scope y := by first | exact Or.inl rfl | exact Or.inr (Or.inl rfl) | exact Or.inr (Or.inr rfl)) (hd2 : (y == ("__debug__" : Str)) = false := by decide)
    (hcd2 : (y == ("__classdict__" : Str)) = false := by decide)
    (hst : starEach [(.Call (.Attribute (.Name y q1) "pop" q2) [e] [] q3 : Expr)] X.env = (false, eval (.Call (.Attribute (.Name y q1) "pop" q2) [e] [] q3) X.env) :: starEach [] X.env := by rfl) (hbase : attributeBase (.Name x p1) "append" X.env (eval (.Name x p1) X.env) = eval (.Name x p1) X.env := by rfl)
    (hfew : ((backTo p3 (starEach [(.Call (.Attribute (.Name y q1) "pop" q2) [e] [] q3 : Expr)] X.env)).all (fun x => !x.1) && (backToKw p3 (keywordEach [] X.env)).all (fun x => x.1.isSome) && decide ([(.Call (.Attribute (.Name y q1) "pop" q2) [e] [] q3 : Expr)].length + ([] : List Keyword).length + (if ([] : List Keyword).isEmpty then 0 else 1) < 30)) = true := by rfl)
    (hline : (p2.endLine == p3.line) = true := by rfl) (hst2 : starEach [e] X.env = (false, eval e X.env) :: starEach [] X.env := by rfl) (hbase2 : attributeBase (.Name y q1) "pop" X.env (eval (.Name y q1) X.env) = eval (.Name y q1) X.env := by rfl)
    (hfew2 : ((backTo q3 (starEach [e] X.env)).all (fun x => !x.1) && (backToKw q3 (keywordEach [] X.env)).all (fun x => x.1.isSome) && decide ([e].length + ([] : List Keyword).length + (if ([] : List Keyword).isEmpty then 0 else 1) < 30)) = true := by rfl)
    (hline2 : (q2.endLine == q3.line) = true := by rfl) (hs : swapsWith (.Call (.Attribute (.Name x p1) "append" p2) [(.Call (.Attribute (.Name y q1) "pop" q2) [e] [] q3 : Expr)] [] p3) none pos.line X.env = pure false := by rfl) :
    PS X (.Expr (.Call (.Attribute (.Name x p1) "append" p2) [(.Call (.Attribute (.Name y q1) "pop" q2) [e] [] q3 : Expr)] [] p3) pos) (tS X.K EX (dAppPop i j de)) :=
  PS.imp (ps_expr (pe_bm PySem.F.plainAttrs_list PySem.F.slot_list_append PySem.F.type_list_append mt_append (pe_var hN hv hd hcd) (pa_cons (pe_bm PySem.F.plainAttrs_list PySem.F.slot_list_pop PySem.F.type_list_pop mt_popAt (pe_var hN2 hv2 hd2 hcd2) (pa_cons he pa_nil hst2) hbase2 hfew2 hline2 hst2) pa_nil hst) hbase hfew hline hst) hs) fun D σ H ⟨W0, H0, W, S, env, s, q⟩ => by
    unfold dAppPop at q
    split at q
    case isFalse => exact q.elim
    rename_i hl
    obtain ⟨l1, l2, nij⟩ := hl
    obtain ⟨a, xs, h1, h2⟩ := list_slot s.ok s.env l1
    obtain ⟨b, ys, h3, h4⟩ := list_slot s.ok s.env l2
    refine ⟨.ref a, h1, .inl ⟨rfl, xs, SqL.of h2⟩, .ref b, h3, .inl ⟨rfl, ys, SqL.of h4⟩, ?_⟩
    cases h : de env S with
    | xn c x S1 => rw [h] at q; exact q.elim
    | bad => rw [h] at q; exact q.elim
    | ok d S1 =>
      rw [h] at q
      cases d with
      | int k =>
        refine ⟨W, S, H0, env, s.ok, s.env, _, S1, h, fun W1 H1 v e1 o1 r1 => ?_⟩
        cases r1
        have s1 := s.step e1 o1
        have q : OutOk X.K EX W0 H0 W D (match env[i]?, env[j]? with
          | some (.ow (.l ds)), some (.ow (.l es)) => if 0 ≤ k ∧ k ≤ 100000 ∧ ds.length ≤ 100000 then (match es[k.toNat]? with
            | some y => .nx ((env.set j (.ow (.l (es.eraseIdx k.toNat)))).set i (.ow (.l (ds ++ [y])))) S1
            | none => .bad) else .bad
          | _, _ => .bad) := q
        split at q
        case h_2 => exact q.elim
        rename_i ds es gi gj
        split at q
        case isFalse => exact q.elim
        rename_i hk
        cases hy : es[k.toNat]? with
        | none => rw [hy] at q; exact q.elim
        | some z =>
          rw [hy] at q
          obtain ⟨b', ys', k1, k2, k3⟩ := own_slot s1.env gj
          rw [h3] at k1
          cases k1
          obtain ⟨w, m1, m2⟩ := k3.get hy
          have kl : k.toNat < ys'.length := (List.getElem?_eq_some_iff.mp m1).1
          have s2 := s1.own gj h3 (x' := .l (es.eraseIdx k.toNat)) (.l (k3.eraseIdx k.toNat))
          have gi2 : (env.set j (.ow (.l (es.eraseIdx k.toNat))))[i]? = some (.ow (.l ds)) := by
            rw [List.getElem?_set_ne (Ne.symm nij)]
            exact gi
          obtain ⟨a', xs', n1, n2, n3⟩ := own_slot s2.env gi2
          rw [h1] at n1
          cases n1
          have hxl := n3.length
          have ek : seqIndex? k ys'.length = some k.toNat := (ixN_seq (show ixN ys'.length k = some k.toNat by
            unfold ixN
            rw [if_pos hk.1, if_pos (by omega)])).1
          refine ⟨b, ys', k, k.toNat, w, rfl, rfl, k2, by omega, by omega, ek, m1, ?_⟩
          refine ⟨a, xs', w, rfl, rfl, n2, Nat.lt_of_le_of_lt (show xs'.length ≤ 100000 by omega) (by decide), ?_⟩
          exact q W1 _ σ (s2.own gi2 h1 (x' := .l (ds ++ [z])) (.l (n3.snoc m2))) e1.gr
      | _ => exact q.elim
end
end MP

namespace MP
open PySem PySem.Spec PyProof.Rows L2
variable {EX : L2.XK}

/-! ### inversions -/
section
variable {K : PySem.W.Frag} {W : Wd} {S : Sto} {H : Hp} {v : V}
theorem RepB.int_inv {i : Int} (h : RepB K W H (.int i) v) : v = .int i := by
  rcases h with h | ⟨x, a, u, e, _⟩
  · cases h; rfl
  · cases x <;> cases e
theorem RepB.bl_inv {i : Bool} (h : RepB K W H (.bl i) v) : v = .bl i := by
  rcases h with h | ⟨x, a, u, e, _⟩
  · cases h; rfl
  · cases x <;> cases e
theorem RepB.str_inv {i : Str} (h : RepB K W H (.str i) v) : v = .str i := by
  rcases h with h | ⟨x, a, u, e, _⟩
  · cases h; rfl
  · cases x <;> cases e
theorem RepB.non_inv (h : RepB K W H .non v) : v = .non := by
  rcases h with h | ⟨x, a, u, e, _⟩
  · cases h; rfl
  · cases x <;> cases e
theorem RepB.lst_inv {ds : List D} (h : RepB K W H (.lst ds) v) (ok : WOk K W S H) : ∃ a xs, v = .ref a ∧ H a = some (.lst xs) ∧ RepL K W.G W.r ds xs := by
  rcases h with h | ⟨x, a, u, e, e2, e3, e4, _⟩
  · cases h with
    | lst h1 h2 => exact ⟨_, _, rfl, ok.sub _ _ h1, h2⟩
  · cases e4 with
    | l e4 =>
      cases e
      exact ⟨_, _, e2, e3, e4⟩
    | k _ _ => cases e
    | t _ _ => cases e
    | fk _ _ => cases e
    | ft _ _ => cases e
theorem RepB.tup_inv {ds : List D} (h : RepB K W H (.tup ds) v) : ∃ a xs, v = .ref a ∧ W.G a = some (.tup xs) ∧ RepL K W.G W.r ds xs := by
  rcases h with h | ⟨x, a, u, e, e2, e3, e4, _⟩
  · cases h with
    | tup h1 h2 => exact ⟨_, _, rfl, h1, h2⟩
  · cases x <;> cases e
theorem RepB.wt_inv {ds : List D} (h : RepB K W H (.wt ds) v) : ∃ a xs, v = .ref a ∧ SqT K W.G a xs ∧ RepL K W.G W.r ds xs := by
  rcases h with h | ⟨x, a, u, e, e2, e3, e4, _⟩
  · cases h with
    | wt h1 h2 => exact ⟨_, _, rfl, h1, h2⟩
  · cases x <;> cases e
theorem RepB.scr_inv {ns : List Int} (h : RepB K W H (.scr ns) v) : ∃ a, v = .ref a ∧ SqL K W.G a (ns.map V.int) := by
  rcases h with h | ⟨x, a, u, e, e2, e3, e4, _⟩
  · cases h with
    | scr h1 => exact ⟨_, rfl, h1⟩
  · cases x <;> cases e
theorem RepB.loc_inv {n : Nat} (h : RepB K W H (.loc n) v) : ∃ a, v = .ref a ∧ W.r[n]? = some a := by
  rcases h with h | ⟨x, a, u, e, e2, e3, e4, _⟩
  · cases h with
    | loc h1 => exact ⟨_, rfl, h1⟩
  · cases x <;> cases e
theorem RepB.dk_inv {ks : List Key} {ds : List D} (h : RepB K W H (.dk ks ds) v) (ok : WOk K W S H) : ∃ a kvs, v = .ref a ∧ H a = some (.dK kvs) ∧ kvs.map (·.1) = ks ∧ RepL K W.G W.r ds (kvs.map (·.2)) := by
  rcases h with h | ⟨x, a, u, e, e2, e3, e4, _⟩
  · cases h with
    | dk h1 h2 h3 => exact ⟨_, _, rfl, ok.sub _ _ h1, h2, h3⟩
  · cases e4 with
    | l e4 => cases e
    | k e4 e5 =>
      cases e
      exact ⟨_, _, e2, e3, e4, e5⟩
    | t _ _ => cases e
    | fk _ _ => cases e
    | ft _ _ => cases e
theorem RepB.dt_inv {ks : List (List Key)} {ds : List D} (h : RepB K W H (.dt ks ds) v) (ok : WOk K W S H) : ∃ a kvs, v = .ref a ∧ H a = some (.dT kvs) ∧ kvs.map (·.1) = ks ∧ RepL K W.G W.r ds (kvs.map (·.2)) := by
  rcases h with h | ⟨x, a, u, e, e2, e3, e4, _⟩
  · cases h with
    | dt h1 h2 h3 => exact ⟨_, _, rfl, ok.sub _ _ h1, h2, h3⟩
  · cases e4 with
    | l e4 => cases e
    | t e4 e5 =>
      cases e
      exact ⟨_, _, e2, e3, e4, e5⟩
    | k _ _ => cases e
    | fk _ _ => cases e
    | ft _ _ => cases e
/-- a locked dict -/
theorem RepB.fk_inv {ks : List Key} {ds : List D} (h : RepB K W H (.fk ks ds) v) (ok : WOk K W S H) : ∃ a o kvs, v = .ref a ∧ H a = some (.frz o (.dK kvs)) ∧ kvs.map (·.1) = ks ∧ RepL K W.G W.r ds (kvs.map (·.2)) := by
  rcases h with h | ⟨x, a, u, e, e2, e3, e4, _⟩
  · cases h with
    | fk h1 h2 h3 => exact ⟨_, _, _, rfl, ok.sub _ _ h1, h2, h3⟩
  · cases e4 with
    | fk e4 e5 =>
      cases e
      exact ⟨_, _, _, e2, e3, e4, e5⟩
    | _ => cases e
theorem RepB.ft_inv {ks : List (List Key)} {ds : List D} (h : RepB K W H (.ft ks ds) v) (ok : WOk K W S H) : ∃ a o kvs, v = .ref a ∧ H a = some (.frz o (.dT kvs)) ∧ kvs.map (·.1) = ks ∧ RepL K W.G W.r ds (kvs.map (·.2)) := by
  rcases h with h | ⟨x, a, u, e, e2, e3, e4, _⟩
  · cases h with
    | ft h1 h2 h3 => exact ⟨_, _, _, rfl, ok.sub _ _ h1, h2, h3⟩
  · cases e4 with
    | ft e4 e5 =>
      cases e
      exact ⟨_, _, _, e2, e3, e4, e5⟩
    | _ => cases e
theorem WOk.loc {n : Nat} {a : Addr} {ds : List D} (ok : WOk K W S H) (h : W.r[n]? = some a) (e : S[n]? = some (.l ds)) : ∃ xs, H a = some (.lst xs) ∧ RepL K W.G W.r ds xs := by
  obtain ⟨b, u, h1, h2, h3⟩ := ok.cell n _ e
  rw [h] at h1
  cases h1
  cases h3 with
  | l h3 => exact ⟨_, h2, h3⟩
end
/-- an operator that gives a value of no heap -/
def pureO (g : D → D → Option D) : D → D → Sto → Res R := fun d e S => match g d e with
  | some r => .ok (.v r) S
  | none => .bad
theorem pureO_ok {g : D → D → Option D} {d e : D} {S S' : Sto} {r : R} (h : pureO g d e S = .ok r S') : ∃ z, g d e = some z ∧ r = .v z ∧ S' = S := by
  unfold pureO at h
  cases hg : g d e with
  | none => rw [hg] at h; cases h
  | some z =>
    rw [hg] at h
    cases h
    exact ⟨z, rfl, rfl, rfl⟩

/-! ### arithmetic -/
def fAdd : D → D → Sto → Res R := fun d e S => match d, e with
  | .int i, .int j => .ok (.v (.int (i + j))) S
  | .lst xs, .lst ys => if xs.length + ys.length ≤ 100000 then .ok (.o (.l (xs ++ ys))) S else .bad
  | .tup xs, .tup ys => if xs.length + ys.length ≤ 100000 then .ok (.v (.tup (xs ++ ys))) S else .bad
  | .str x, .str y => if x.length + y.length ≤ 100000 then .ok (.v (.str (x ++ y))) S else .bad
  | _, _ => .bad
def gI (f : Int → Int → Int) : D → D → Option D := fun d e => match d, e with
  | .int i, .int j => some (.int (f i j))
  | _, _ => none
def gB (f : Int → Int → Bool) : D → D → Option D := fun d e => match d, e with
  | .int i, .int j => some (.bl (f i j))
  | _, _ => none
theorem gI_inv {f : Int → Int → Int} {d e z : D} (h : gI f d e = some z) : ∃ i j, d = .int i ∧ e = .int j ∧ z = .int (f i j) := by
  unfold gI at h
  split at h
  · cases h
    exact ⟨_, _, rfl, rfl, rfl⟩
  · cases h
section
variable {X : Cx}
theorem OpR.imp {f : Value → Value → Sem Value} {r r' : R2} (h : OpR X f r) (i : ∀ x y H Q, r' x y H Q → r x y H Q) : OpR X f r' := fun pins s σ H x y v u Q I rx ry q => h pins s σ H x y v u Q I rx ry (i x y H Q q)
theorem CallR.imp {f : Value} {r r' : List V → Hp → VK → Prop} (h : CallR X f r) (i : ∀ x H Q, r' x H Q → r x H Q) : CallR X f r' := fun pins s σ H x u Q I rx q => h pins s σ H x u Q I rx (i x H Q q)
theorem IxR.imp {r r' : R2} (h : IxR X r) (i : ∀ x y H Q, r' x y H Q → r x y H Q) : IxR X r' := fun value slice pins s σ H x y v u Q I rx ry q => h value slice pins s σ H x y v u Q I rx ry (i x y H Q q)
theorem mo_add : OpR X (binaryOp .Add) (rO X.K fAdd) :=
  OpR.imp (OpR.or op_add (OpR.or op_cat (OpR.or op_catA op_add_str))) fun x y H Q ⟨W, S, d, e, r, S', ok, rx, ry, h, q⟩ => by
    unfold fAdd at h
    split at h
    · cases h
      obtain rfl := rx.int_inv
      obtain rfl := ry.int_inv
      exact .inl ⟨_, _, rfl, rfl, q W H _ (Ext.refl _ _) ok (.int _)⟩
    · split at h
      case isFalse => cases h
      cases h
      rename_i hl
      obtain ⟨a, xs', rfl, h1, h2⟩ := rx.lst_inv ok
      obtain ⟨b, ys', rfl, h3, h4⟩ := ry.lst_inv ok
      refine .inr (.inl ⟨a, b, xs', ys', rfl, rfl, h1, h3, ?_, fun p hp => ?_⟩)
      · rw [← h2.length, ← h4.length]
        exact le_sizeLine hl
      · obtain ⟨e1, o1, r1⟩ := obj_new (x := .l _) ok hp (.l (h2.append h4))
        exact q _ _ _ e1 o1 r1
    · split at h
      case isFalse => cases h
      cases h
      rename_i hl
      obtain ⟨a, xs', rfl, h1, h2⟩ := rx.tup_inv
      obtain ⟨b, ys', rfl, h3, h4⟩ := ry.tup_inv
      refine .inr (.inr (.inl ⟨a, b, xs', ys', rfl, rfl, SqT.of (ok.sub _ _ h1), SqT.of (ok.sub _ _ h3), ?_, fun z => ?_, fun z1 z2 => ?_, fun z1 z2 p hp => ?_⟩))
      · rw [← h2.length, ← h4.length]
        exact le_sizeLine hl
      · subst z
        cases h2
        exact q W H _ (Ext.refl _ _) ok (.tup h3 h4)
      · subst z2
        cases h4
        rw [List.append_nil] at q
        exact q W H _ (Ext.refl _ _) ok (.tup h1 h2)
      · obtain ⟨e1, o1, r1⟩ := tup_new ok hp (h2.append h4)
        exact q _ _ _ e1 o1 r1
    · split at h
      case isFalse => cases h
      cases h
      rename_i hl
      obtain rfl := rx.str_inv
      obtain rfl := ry.str_inv
      exact .inr (.inr (.inr ⟨_, _, rfl, rfl, le_sizeLine hl, q W H _ (Ext.refl _ _) ok (.str _)⟩))
    · cases h
theorem mo_int {f : Value → Value → Sem Value} {g : Int → Int → Int} (h : OpR X f (rI0 fun i j => .int (g i j))) : OpR X f (rO X.K (pureO (gI g))) := OpR.imp h fun x y H Q ⟨W, S, d, e, r, S', ok, rx, ry, h, q⟩ => by
  obtain ⟨z, h1, rfl, rfl⟩ := pureO_ok h
  obtain ⟨i, j, rfl, rfl, rfl⟩ := gI_inv h1
  obtain rfl := rx.int_inv
  obtain rfl := ry.int_inv
  exact ⟨_, _, rfl, rfl, q W H _ (Ext.refl _ _) ok (.int _)⟩
def fSub := pureO (gI fun i j => i - j)
theorem mo_sub : OpR X (binaryOp .Sub) (rO X.K fSub) := mo_int op_sub
/-- products: of ints, one of them below 2^64, or both below 2^2000; a list so many times -/
def big : Nat := 2 ^ 2000
def mulOk (i j : Int) : Bool := decide (i.natAbs < 18446744073709551616) || decide (j.natAbs < 18446744073709551616) || (decide (i.natAbs < big) && decide (j.natAbs < big))
theorem mulOk_ok {i j : Int} (h : mulOk i j = true) : CMul i j ∨ CMulW i j := by
  unfold mulOk at h
  simp only [Bool.or_eq_true, Bool.and_eq_true, decide_eq_true_eq] at h
  rcases h with (h | h) | ⟨h1, h2⟩
  · exact .inl (.inl ⟨by omega, by omega⟩)
  · exact .inl (.inr ⟨by omega, by omega⟩)
  · exact .inr (wide_mul (a := 2000) (b := 2000) h1 h2 (by decide) (by decide) (by decide))
def fMul : D → D → Sto → Res R := fun d e S => match d, e with
  | .int i, .int j => if mulOk i j = true then .ok (.v (.int (i * j))) S else .bad
  | .lst xs, .int k => if xs.length * k.toNat ≤ 100000 ∧ -100000 ≤ k ∧ k ≤ 100000 then .ok (.o (.l (List.replicate k.toNat xs).flatten)) S else .bad
  | _, _ => .bad
theorem RepL.rep {K : PySem.W.Frag} {G : Hp} {l : List Addr} {ds : List D} {xs : List V} (h : RepL K G l ds xs) : ∀ n : Nat, RepL K G l (List.replicate n ds).flatten (List.replicate n xs).flatten
  | 0 => .nil
  | n + 1 => by
    rw [List.replicate_succ, List.replicate_succ, List.flatten_cons, List.flatten_cons]
    exact h.append (h.rep n)
theorem mo_mul : OpR X (binaryOp .Mult) (rO X.K fMul) :=
  OpR.imp (OpR.or op_mul (OpR.or op_mulW op_rep)) fun x y H Q ⟨W, S, d, e, r, S', ok, rx, ry, h, q⟩ => by
    unfold fMul at h
    split at h
    · split at h
      case isFalse => cases h
      cases h
      rename_i hm
      obtain rfl := rx.int_inv
      obtain rfl := ry.int_inv
      rcases mulOk_ok hm with c | c
      · exact .inl ⟨_, _, rfl, rfl, c, q W H _ (Ext.refl _ _) ok (.int _)⟩
      · exact .inr (.inl ⟨_, _, rfl, rfl, c, q W H _ (Ext.refl _ _) ok (.int _)⟩)
    · split at h
      case isFalse => cases h
      cases h
      rename_i hm
      obtain ⟨a, xs', rfl, h1, h2⟩ := rx.lst_inv ok
      obtain rfl := ry.int_inv
      refine .inr (.inr ⟨a, _, xs', rfl, rfl, h1, by omega, by omega, ?_, fun p hp => ?_⟩)
      · rw [← h2.length]
        exact le_sizeLine hm.1
      · obtain ⟨e1, o1, r1⟩ := obj_new (x := .l _) ok hp (.l (h2.rep _))
        exact q _ _ _ e1 o1 r1
    · cases h
def fIMul : D → D → Sto → Res R := fun d e S => match d, e with
  | .int i, .int j => if mulOk i j = true then .ok (.v (.int (i * j))) S else .bad
  | _, _ => .bad
def fDiv : D → D → Sto → Res R := fun d e S => match d, e with
  | .int i, .int j => if 0 < j ∧ j.natAbs < big then .ok (.v (.int (i / j))) S else .bad
  | _, _ => .bad
theorem mo_div : OpR X (binaryOp .FloorDiv) (rO X.K fDiv) := OpR.imp op_fdivW fun x y H Q ⟨W, S, d, e, r, S', ok, rx, ry, h, q⟩ => by
  unfold fDiv at h
  split at h
  · split at h
    case isFalse => cases h
    cases h
    rename_i hm
    obtain rfl := rx.int_inv
    obtain rfl := ry.int_inv
    exact ⟨_, _, rfl, rfl, wide_div (b := 2000) hm.1 hm.2 (by decide) (by decide), q W H _ (Ext.refl _ _) ok (.int _)⟩
  · cases h
def fMod : D → D → Sto → Res R := fun d e S => match d, e with
  | .int i, .int j => if 0 < j then .ok (.v (.int (i % j))) S else .bad
  | _, _ => .bad
theorem mo_mod : OpR X (binaryOp .Mod) (rO X.K fMod) := OpR.imp op_mod fun x y H Q ⟨W, S, d, e, r, S', ok, rx, ry, h, q⟩ => by
  unfold fMod at h
  split at h
  · split at h
    case isFalse => cases h
    cases h
    rename_i hm
    obtain rfl := rx.int_inv
    obtain rfl := ry.int_inv
    exact ⟨_, _, rfl, rfl, hm, q W H _ (Ext.refl _ _) ok (.int _)⟩
  · cases h
def fPow : D → D → Sto → Res R := fun d e S => match d, e with
  | .int i, .int j => if 0 ≤ j ∧ j ≤ 1000 ∧ i.natAbs < 18446744073709551616 then .ok (.v (.int (i ^ j.toNat))) S else .bad
  | _, _ => .bad
theorem mo_pow : OpR X (binaryOp .Pow) (rO X.K fPow) := OpR.imp op_pow fun x y H Q ⟨W, S, d, e, r, S', ok, rx, ry, h, q⟩ => by
  unfold fPow at h
  split at h
  · split at h
    case isFalse => cases h
    cases h
    rename_i hm
    obtain rfl := rx.int_inv
    obtain rfl := ry.int_inv
    exact ⟨_, _, rfl, rfl, ⟨hm.1, by omega, hm.2.2⟩, q W H _ (Ext.refl _ _) ok (.int _)⟩
  · cases h
def fNeg : D → Sto → Res R := fun d S => match d with
  | .int i => .ok (.v (.int (-i))) S
  | _ => .bad
theorem mo_neg : UnR X (unaryOp .USub) (rU1 X.K fNeg) := fun pins s σ H x v Q I rx ⟨W, S, d, r, S', ok, rd, h, q⟩ => by
  unfold fNeg at h
  split at h
  · cases h
    obtain rfl := rd.int_inv
    exact un_neg pins s σ H _ v Q I rx ⟨_, rfl, q W H _ (Ext.refl _ _) ok (.int _)⟩
  · cases h

/-! ### equality -/
def fitN : Nat → D → Bool
  | _, .non => true
  | _, .bl _ => true
  | _, .int _ => true
  | _, .str x => PyData.strOk x
  | n + 1, .tup ds => ds.all (fitN n)
  | n + 1, .lst ds => ds.all (fitN n)
  | _, _ => false
mutual
def toPy : D → PyData
  | .bl b => .bool b
  | .int i => .int i
  | .str x => .str x
  | .tup ds => .tuple (toPys ds)
  | .lst ds => .list (toPys ds)
  | _ => .none
def toPys : List D → List PyData
  | [] => []
  | d :: ds => toPy d :: toPys ds
end
mutual
/-- Python's == of data -/
def deq : D → D → Bool
  | .non, .non => true
  | .bl a, .bl b => a == b
  | .bl a, .int j => (if a then 1 else 0) == j
  | .int i, .bl b => i == (if b then 1 else 0)
  | .int i, .int j => i == j
  | .str x, .str y => x == y
  | .lst xs, .lst ys => deqs xs ys
  | .tup xs, .tup ys => deqs xs ys
  | _, _ => false
def deqs : List D → List D → Bool
  | [], [] => true
  | x :: xs, y :: ys => deq x y && deqs xs ys
  | _, _ => false
end
theorem fit_lay : ∀ (n : Nat) (d : D), fitN n d = true → (toPy d).canLay0 = true ∧ (toPy d).depth ≤ n + 1 := by
  intro n
  induction n with
  | zero =>
    intro d h
    cases d with
    | non => exact ⟨by simp [toPy, PyData.canLay0], by simp [toPy, PyData.depth]⟩
    | bl b => exact ⟨by simp [toPy, PyData.canLay0], by simp [toPy, PyData.depth]⟩
    | int i => exact ⟨by simp [toPy, PyData.canLay0], by simp [toPy, PyData.depth]⟩
    | str x =>
      have h : PyData.strOk x = true := h
      exact ⟨by simpa [toPy, PyData.canLay0] using h, by simp [toPy, PyData.depth]⟩
    | _ => simp [fitN] at h
  | succ n ih =>
    have all : ∀ ds : List D, ds.all (fitN n) = true → PyData.canLayAll0 (toPys ds) = true ∧ PyData.depthAll (toPys ds) ≤ n + 1 := by
      intro ds
      induction ds with
      | nil => intro _; exact ⟨by simp [toPys, PyData.canLayAll0], by simp [toPys, PyData.depthAll]⟩
      | cons d ds ih2 =>
        intro h
        rw [List.all_cons, Bool.and_eq_true] at h
        obtain ⟨h1, h2⟩ := ih d h.1
        obtain ⟨h3, h4⟩ := ih2 h.2
        refine ⟨by simp [toPys, PyData.canLayAll0, h1, h3], ?_⟩
        simp only [toPys, PyData.depthAll]
        omega
    intro d h
    cases d with
    | non => exact ⟨by simp [toPy, PyData.canLay0], by simp [toPy, PyData.depth]⟩
    | bl b => exact ⟨by simp [toPy, PyData.canLay0], by simp [toPy, PyData.depth]⟩
    | int i => exact ⟨by simp [toPy, PyData.canLay0], by simp [toPy, PyData.depth]⟩
    | str x =>
      have h : PyData.strOk x = true := h
      exact ⟨by simpa [toPy, PyData.canLay0] using h, by simp [toPy, PyData.depth]⟩
    | tup ds =>
      have h : ds.all (fitN n) = true := h
      obtain ⟨h1, h2⟩ := all ds h
      refine ⟨by simpa [toPy, PyData.canLay0] using h1, ?_⟩
      simp only [toPy, PyData.depth]
      omega
    | lst ds =>
      have h : ds.all (fitN n) = true := h
      obtain ⟨h1, h2⟩ := all ds h
      refine ⟨by simpa [toPy, PyData.canLay0] using h1, ?_⟩
      simp only [toPy, PyData.depth]
      omega
    | _ => simp [fitN] at h
theorem fit_shaped {d : D} (h : fitN 20 d = true) : SeqAt.shaped (toPy d) = true := by
  obtain ⟨h1, h2⟩ := fit_lay 20 d h
  unfold SeqAt.shaped
  rw [h1, Bool.true_and]
  exact decide_eq_true (by omega)
theorem fit_dp {K : PySem.W.Frag} {G H : Hp} {l : List Addr} (sb : SubH G H) : ∀ (n : Nat) (d : D) (v : V), fitN n d = true → Rep K G l d v → Dp K H v (toPy d) := by
  intro n
  induction n with
  | zero =>
    intro d v h r
    cases r with
    | non => exact .non
    | bl b => exact .bl b
    | int i => exact .int i
    | str x => exact .str x
    | _ => simp [fitN] at h
  | succ n ih =>
    have all : ∀ (ds : List D) (xs : List V), ds.all (fitN n) = true → RepL K G l ds xs → DpAll K H xs (toPys ds) := by
      intro ds
      induction ds with
      | nil => intro xs _ r; cases r; exact .nil
      | cons d ds ih2 =>
        intro xs h r
        rw [List.all_cons, Bool.and_eq_true] at h
        cases r with
        | cons r1 r2 => exact .cons (ih d _ h.1 r1) (ih2 _ h.2 r2)
    intro d v h r
    cases r with
    | non => exact .non
    | bl b => exact .bl b
    | int i => exact .int i
    | str x => exact .str x
    | @tup a xs ds r1 r2 => exact .tup (SqT.of (sb _ _ r1)) (all ds xs h r2)
    | @lst a xs ds r1 r2 => exact .lst (SqL.of (sb _ _ r1)) (all ds xs h r2)
    | _ => simp [fitN] at h
theorem fit_dps {K : PySem.W.Frag} {G H : Hp} {l : List Addr} (sb : SubH G H) (n : Nat) : ∀ (ds : List D) (xs : List V), ds.all (fitN n) = true → RepL K G l ds xs → DpAll K H xs (toPys ds)
  | [], _, _, .nil => .nil
  | d :: ds, _, h, .cons r1 r2 => by
    rw [List.all_cons, Bool.and_eq_true] at h
    exact .cons (fit_dp sb n d _ h.1 r1) (fit_dps sb n ds _ h.2 r2)
theorem RepB.dp {K : PySem.W.Frag} {W : Wd} {S : Sto} {H : Hp} {d : D} {v : V} {n : Nat} (h : RepB K W H d v) (ok : WOk K W S H) (f : fitN (n + 1) d = true) : Dp K H v (toPy d) := by
  rcases h with h | ⟨x, a, u, rfl, rfl, h3, h4, _⟩
  · exact fit_dp ok.sub (n + 1) d v f h
  · cases h4 with
    | @l ds xs h4 => exact .lst (SqL.of h3) (fit_dps ok.sub n ds xs f h4)
    | k _ _ => simp [O.toD, fitN] at f
    | t _ _ => simp [O.toD, fitN] at f
    | fk _ _ => simp [O.toD, fitN] at f
    | ft _ _ => simp [O.toD, fitN] at f
theorem deq_py : ∀ (n : Nat) (d e : D), fitN n d = true → fitN n e = true → PyData.eqv (toPy d) (toPy e) = deq d e := by
  intro n
  induction n with
  | zero =>
    intro d e h1 h2
    cases d <;> first | (simp [fitN] at h1; done) | (cases e <;> first | (simp [fitN] at h2; done) | simp [toPy, PyData.eqv, deq])
  | succ n ih =>
    have all : ∀ ds es : List D, ds.all (fitN n) = true → es.all (fitN n) = true → PyData.eqvAll (toPys ds) (toPys es) = deqs ds es := by
      intro ds
      induction ds with
      | nil => intro es _ _; cases es <;> simp [toPys, PyData.eqvAll, deqs]
      | cons d ds ih2 =>
        intro es h1 h2
        cases es with
        | nil => simp [toPys, PyData.eqvAll, deqs]
        | cons e es =>
          rw [List.all_cons, Bool.and_eq_true] at h1 h2
          simp only [toPys, PyData.eqvAll, deqs]
          rw [ih d e h1.1 h2.1, ih2 es h1.2 h2.2]
    intro d e h1 h2
    cases d <;> first | (simp [fitN] at h1; done) | (cases e <;> first | (simp [fitN] at h2; done) | (simp [toPy, PyData.eqv, deq]; done) | (simp only [toPy, PyData.eqv, deq]; exact all _ _ h1 h2))
def fEq : D → D → Sto → Res R := fun d e S => if fitN 20 d = true ∧ fitN 20 e = true then .ok (.v (.bl (deq d e))) S else .bad
def fNe : D → D → Sto → Res R := fun d e S => if fitN 20 d = true ∧ fitN 20 e = true then .ok (.v (.bl (!deq d e))) S else .bad
theorem mo_eq (hu : X.A.units + 64 < cLine) : OpR X (compareOp .Eq) (rO X.K fEq) := OpR.imp (op_eqD hu) fun x y H Q ⟨W, S, d, e, r, S', ok, rx, ry, h, q⟩ => by
  unfold fEq at h
  split at h
  case isFalse => cases h
  cases h
  rename_i hf
  refine ⟨toPy d, toPy e, rx.dp ok hf.1, ry.dp ok hf.2, fit_shaped hf.1, fit_shaped hf.2, ?_⟩
  rw [deq_py 20 d e hf.1 hf.2]
  exact q W H _ (Ext.refl _ _) ok (.bl _)
theorem mo_ne (hu : X.A.units + 64 < cLine) : OpR X (compareOp .NotEq) (rO X.K fNe) := OpR.imp (op_neD hu) fun x y H Q ⟨W, S, d, e, r, S', ok, rx, ry, h, q⟩ => by
  unfold fNe at h
  split at h
  case isFalse => cases h
  cases h
  rename_i hf
  refine ⟨toPy d, toPy e, rx.dp ok hf.1, ry.dp ok hf.2, fit_shaped hf.1, fit_shaped hf.2, ?_⟩
  rw [deq_py 20 d e hf.1 hf.2]
  exact q W H _ (Ext.refl _ _) ok (.bl _)
def isNon : D → Bool
  | .non => true
  | _ => false
theorem RepB.isNon {K : PySem.W.Frag} {W : Wd} {H : Hp} {d : D} {v : V} (h : RepB K W H d v) : decide (v = .non) = MP.isNon d := by
  rcases h with h | ⟨x, a, u, rfl, rfl, _⟩
  · cases h <;> first | rfl | exact decide_eq_false (fun z => nomatch z)
  · cases x <;> exact decide_eq_false (fun z => nomatch z)
end
end MP

namespace MP
open PySem PySem.Spec PyProof.Rows L2
variable {EX : L2.XK}

/-! ### dicts by keys -/
def keyOf : D → Option Key
  | .int i => some (.inl i)
  | .str x => some (.inr x)
  | _ => none
def keysOfL : List D → Option (List Key)
  | [] => some []
  | d :: ds => match keyOf d, keysOfL ds with
    | some k, some ks => some (k :: ks)
    | _, _ => none
def keysOf : D → Option (List Key)
  | .tup ds => keysOfL ds
  | _ => none
section
variable {κ : Type} [DecidableEq κ]
def lookK : List κ → List D → κ → Option D
  | k :: ks, d :: ds, q => if k = q then some d else lookK ks ds q
  | _, _, _ => none
def putVs : List κ → List D → κ → D → List D
  | k :: ks, d :: ds, q, z => (if k = q then z else d) :: putVs ks ds q z
  | _, _, _, _ => []
def putKs (ks : List κ) (q : κ) : List κ := if q ∈ ks then ks else ks ++ [q]
def putDs (ks : List κ) (ds : List D) (q : κ) (z : D) : List D := if q ∈ ks then putVs ks ds q z else ds ++ [z]
variable {K : PySem.W.Frag} {G : Hp} {l : List Addr}
theorem look_some : ∀ {kvs : List (κ × V)} {ks : List κ} {ds : List D} {q : κ} {d : D}, kvs.map (·.1) = ks → RepL K G l ds (kvs.map (·.2)) → lookK ks ds q = some d → ∃ v, valV kvs q = some v ∧ Rep K G l d v
  | [], ks, ds, q, d, e, r, h => by
    subst e
    cases r
    unfold lookK at h
    cases h
  | (k, v) :: kvs, ks, ds, q, d, e, r, h => by
    subst e
    cases r with
    | cons r1 r2 =>
      rw [List.map_cons] at h
      unfold lookK at h
      by_cases c : k = q
      · rw [if_pos c] at h
        cases h
        exact ⟨v, valV_pos c, r1⟩
      · rw [if_neg c] at h
        obtain ⟨w, h1, h2⟩ := look_some rfl r2 h
        exact ⟨w, by rw [valV_neg c]; exact h1, h2⟩
theorem look_none : ∀ {kvs : List (κ × V)} {ks : List κ} {ds : List D} {q : κ}, kvs.map (·.1) = ks → RepL K G l ds (kvs.map (·.2)) → lookK ks ds q = none → valV kvs q = none
  | [], ks, ds, q, e, r, h => rfl
  | (k, v) :: kvs, ks, ds, q, e, r, h => by
    subst e
    cases r with
    | cons r1 r2 =>
      rw [List.map_cons] at h
      unfold lookK at h
      by_cases c : k = q
      · rw [if_pos c] at h
        cases h
      · rw [if_neg c] at h
        rw [valV_neg c]
        exact look_none rfl r2 h
end
theorem key_rep {K : PySem.W.Frag} {W : Wd} {H : Hp} {d : D} {v : V} {k : Key} (h : RepB K W H d v) (e : keyOf d = some k) : v = kV k := by
  cases d with
  | int i => cases e; rw [h.int_inv]; rfl
  | str x => cases e; rw [h.str_inv]; rfl
  | _ => cases e
theorem keysL_rep {K : PySem.W.Frag} {W : Wd} {H : Hp} : ∀ {ds : List D} {xs : List V} {ks : List Key}, RepL K W.G W.r ds xs → keysOfL ds = some ks → xs = ks.map kV
  | [], _, ks, r, e => by
    cases r
    unfold keysOfL at e
    cases e
    rfl
  | d :: ds, _, ks, r, e => by
    cases r with
    | cons r1 r2 =>
      unfold keysOfL at e
      split at e
      · rename_i k ks' h1 h2
        cases e
        rw [key_rep (H := H) (.inl r1) h1, keysL_rep (H := H) r2 h2]
        rfl
      · cases e
theorem keys_rep {K : PySem.W.Frag} {W : Wd} {S : Sto} {H : Hp} {d : D} {v : V} {ks : List Key} (h : RepB K W H d v) (ok : WOk K W S H) (e : keysOf d = some ks) : ∃ b, v = .ref b ∧ H b = some (.tup (ks.map kV)) := by
  cases d with
  | tup ds =>
    obtain ⟨b, xs, rfl, h1, h2⟩ := h.tup_inv
    rw [← keysL_rep (H := H) h2 e]
    exact ⟨b, rfl, ok.sub _ _ h1⟩
  | _ => cases e
/-- what a dict holds at a key -/
def dlook : D → D → Option (Option D)
  | .dk ks ds, k => match keyOf k with
    | some q => some (lookK ks ds q)
    | none => none
  | .dt ks ds, k => match keysOf k with
    | some q => some (lookK ks ds q)
    | none => none
  | .fk ks ds, k => match keyOf k with
    | some q => some (lookK ks ds q)
    | none => none
  | .ft ks ds, k => match keysOf k with
    | some q => some (lookK ks ds q)
    | none => none
  | _, _ => none
theorem dlook_get {K : PySem.W.Frag} {W : Wd} {S : Sto} {H : Hp} {d k : D} {v y : V} {o : Option D} (ok : WOk K W S H) (h : RepB K W H d v) (hk : RepB K W H k y) (e : dlook d k = some o) :
    ∃ a ov, v = .ref a ∧ DGet H a y ov ∧ ov.isSome = o.isSome ∧ (∀ z, o = some z → ∃ u, ov = some u ∧ Rep K W.G W.r z u) := by
  unfold dlook at e
  split at e
  · split at e
    case h_2 => cases e
    rename_i ks ds _ q hq
    obtain ⟨a, kvs, rfl, h1, h2, h3⟩ := h.dk_inv ok
    obtain rfl := key_rep hk hq
    cases e
    refine ⟨a, valV kvs q, rfl, DGet.k h1, ?_, fun z hz => ?_⟩
    · cases hl : lookK ks ds q with
      | none => rw [look_none h2 h3 hl]; rfl
      | some z =>
        obtain ⟨u, g1, g2⟩ := look_some h2 h3 hl
        rw [g1]
        rfl
    · obtain ⟨u, g1, g2⟩ := look_some h2 h3 hz
      exact ⟨u, g1, g2⟩
  · split at e
    case h_2 => cases e
    rename_i ks ds _ q hq
    obtain ⟨a, kvs, rfl, h1, h2, h3⟩ := h.dt_inv ok
    obtain ⟨b, rfl, hb⟩ := keys_rep hk ok hq
    cases e
    refine ⟨a, valV kvs q, rfl, DGet.t h1 hb, ?_, fun z hz => ?_⟩
    · cases hl : lookK ks ds q with
      | none => rw [look_none h2 h3 hl]; rfl
      | some z =>
        obtain ⟨u, g1, g2⟩ := look_some h2 h3 hl
        rw [g1]
        rfl
    · obtain ⟨u, g1, g2⟩ := look_some h2 h3 hz
      exact ⟨u, g1, g2⟩
  · split at e
    case h_2 => cases e
    rename_i ks ds _ q hq
    obtain ⟨a, oo, kvs, rfl, h1, h2, h3⟩ := h.fk_inv ok
    obtain rfl := key_rep hk hq
    cases e
    refine ⟨a, valV kvs q, rfl, (.inl ⟨kvs, q, .inr ⟨oo, h1⟩, rfl, rfl⟩), ?_, fun z hz => ?_⟩
    · cases hl : lookK ks ds q with
      | none => rw [look_none h2 h3 hl]; rfl
      | some z =>
        obtain ⟨u, g1, g2⟩ := look_some h2 h3 hl
        rw [g1]
        rfl
    · obtain ⟨u, g1, g2⟩ := look_some h2 h3 hz
      exact ⟨u, g1, g2⟩
  · split at e
    case h_2 => cases e
    rename_i ks ds _ q hq
    obtain ⟨a, oo, kvs, rfl, h1, h2, h3⟩ := h.ft_inv ok
    obtain ⟨b, rfl, hb⟩ := keys_rep hk ok hq
    cases e
    refine ⟨a, valV kvs q, rfl, (.inr ⟨kvs, q, b, .inr ⟨oo, h1⟩, rfl, hb, rfl⟩), ?_, fun z hz => ?_⟩
    · cases hl : lookK ks ds q with
      | none => rw [look_none h2 h3 hl]; rfl
      | some z =>
        obtain ⟨u, g1, g2⟩ := look_some h2 h3 hl
        rw [g1]
        rfl
    · obtain ⟨u, g1, g2⟩ := look_some h2 h3 hz
      exact ⟨u, g1, g2⟩
  · cases e

/-! ### in -/
def din (d c : D) : Option Bool := match c with
  | .lst es => if fitN 20 d = true ∧ es.all (fitN 19) = true then some (es.any fun z => deq z d) else none
  | .tup es => if fitN 20 d = true ∧ es.all (fitN 19) = true then some (es.any fun z => deq z d) else none
  | .wt es => if fitN 20 d = true ∧ es.all (fitN 19) = true then some (es.any fun z => deq z d) else none
  | .dk ks ds => (dlook (.dk ks ds) d).map (·.isSome)
  | .dt ks ds => (dlook (.dt ks ds) d).map (·.isSome)
  | .fk ks ds => (dlook (.fk ks ds) d).map (·.isSome)
  | .ft ks ds => (dlook (.ft ks ds) d).map (·.isSome)
  | _ => none
def fIn : D → D → Sto → Res R := fun d c S => match din d c with
  | some b => .ok (.v (.bl b)) S
  | none => .bad
def fNotIn : D → D → Sto → Res R := fun d c S => match din d c with
  | some b => .ok (.v (.bl (!b))) S
  | none => .bad
theorem fit_mono : ∀ (n : Nat) (d : D), fitN n d = true → fitN (n + 1) d = true := by
  intro n
  induction n with
  | zero =>
    intro d h
    cases d <;> first | exact h | simp [fitN] at h
  | succ n ih =>
    intro d h
    cases d with
    | tup ds =>
      have h : ds.all (fitN n) = true := h
      show ds.all (fitN (n + 1)) = true
      rw [List.all_eq_true] at h ⊢
      exact fun x hx => ih x (h x hx)
    | lst ds =>
      have h : ds.all (fitN n) = true := h
      show ds.all (fitN (n + 1)) = true
      rw [List.all_eq_true] at h ⊢
      exact fun x hx => ih x (h x hx)
    | _ => first | exact h | simp [fitN] at h
theorem any_py {es : List D} {d : D} (h : es.all (fitN 19) = true) (hd : fitN 20 d = true) : ((toPys es).any fun z => PyData.eqv z (toPy d)) = es.any fun z => deq z d := by
  induction es with
  | nil => simp [toPys]
  | cons e es ih =>
    rw [List.all_cons, Bool.and_eq_true] at h
    simp only [toPys, List.any_cons]
    rw [ih h.2, deq_py 20 e d (fit_mono 19 e h.1) hd]
section
variable {X : Cx}
theorem op_inT (hu : X.A.units + 65 < cLine) : OpR X (compareOp .In) (fun x y H Q => ∃ d ds, Dp X.K H x d ∧ Dp X.K H y (.tuple ds) ∧ SeqAt.shaped d = true ∧ SeqAt.shaped (.tuple ds) = true ∧ Q (.bl (ds.any fun z => PyData.eqv z d)) H) := by
  intro pins s σ H x y v u Q I rx ry ⟨d, ds, hd, he, sd, se, q⟩
  obtain ⟨_, r1⟩ := Dp.reads I d x v hd rx
  obtain ⟨_, r2⟩ := Dp.reads I (.tuple ds) y u he ry
  exact SeqAt.in_tuple_reads r2 r1 (SeqAt.canLay_of_shaped se) (SeqAt.canLay_of_shaped sd) (room_in_shaped sd hu) ⟨.bl _, H, I, rfl, q⟩
theorem op_notInT (hu : X.A.units + 65 < cLine) : OpR X (compareOp .NotIn) (fun x y H Q => ∃ d ds, Dp X.K H x d ∧ Dp X.K H y (.tuple ds) ∧ SeqAt.shaped d = true ∧ SeqAt.shaped (.tuple ds) = true ∧ Q (.bl (!ds.any fun z => PyData.eqv z d)) H) := by
  intro pins s σ H x y v u Q I rx ry ⟨d, ds, hd, he, sd, se, q⟩
  obtain ⟨_, r1⟩ := Dp.reads I d x v hd rx
  obtain ⟨_, r2⟩ := Dp.reads I (.tuple ds) y u he ry
  exact SeqAt.notIn_tuple_reads r2 r1 (SeqAt.canLay_of_shaped se) (SeqAt.canLay_of_shaped sd) (room_in_shaped sd hu) ⟨.bl _, H, I, rfl, q⟩
theorem op_inDk (hu : X.A.units + 65 < cLine) : OpR X (compareOp .In) (fun x y H Q => ∃ a o, y = .ref a ∧ DGet H a x o ∧ Q (.bl o.isSome) H) := by
  intro pins s σ H x y v u Q I rx ry ⟨a, o, ey, g, q⟩
  subst ey
  cases ry
  exact d_in (by omega) I g rx fun s' I' => ⟨.bl _, H, I', rfl, q⟩
theorem op_notInDk (hu : X.A.units + 65 < cLine) : OpR X (compareOp .NotIn) (fun x y H Q => ∃ a o, y = .ref a ∧ DGet H a x o ∧ Q (.bl (!o.isSome)) H) := by
  intro pins s σ H x y v u Q I rx ry ⟨a, o, ey, g, q⟩
  subst ey
  cases ry
  exact d_notIn (by omega) I g rx fun s' I' => ⟨.bl _, H, I', rfl, q⟩
theorem din_of {K : PySem.W.Frag} {W : Wd} {S : Sto} {H : Hp} {d c : D} {x y : V} {b : Bool} (ok : WOk K W S H) (rx : RepB K W H d x) (ry : RepB K W H c y) (h : din d c = some b) :
    (∃ p ps, Dp K H x p ∧ Dp K H y (.list ps) ∧ SeqAt.shaped p = true ∧ SeqAt.shaped (.list ps) = true ∧ (ps.any fun z => PyData.eqv z p) = b) ∨
    (∃ p ps, Dp K H x p ∧ Dp K H y (.tuple ps) ∧ SeqAt.shaped p = true ∧ SeqAt.shaped (.tuple ps) = true ∧ (ps.any fun z => PyData.eqv z p) = b) ∨
    (∃ a o, y = .ref a ∧ DGet H a x o ∧ o.isSome = b) := by
  have dictc : ∀ {dd : D}, (dlook dd d).map (·.isSome) = some b → RepB K W H dd y → ∃ a o, y = .ref a ∧ DGet H a x o ∧ o.isSome = b := fun {dd} h1 h2 => by
    obtain ⟨o, e1, e2⟩ := Option.map_eq_some_iff.mp h1
    obtain ⟨a, ov, g1, g2, g3, _⟩ := dlook_get ok h2 rx e1
    exact ⟨a, ov, g1, g2, g3.trans e2⟩
  unfold din at h
  split at h
  · split at h
    case isFalse => cases h
    rename_i es hf
    cases h
    have ff : fitN 20 (.lst es) = true := hf.2
    refine .inl ⟨toPy d, toPys es, rx.dp ok hf.1, by have := ry.dp (n := 19) ok ff; simpa [toPy] using this, fit_shaped hf.1, by have := fit_shaped ff; simpa [toPy] using this, any_py hf.2 hf.1⟩
  · split at h
    case isFalse => cases h
    rename_i es hf
    cases h
    have ff : fitN 20 (.tup es) = true := hf.2
    refine .inr (.inl ⟨toPy d, toPys es, rx.dp ok hf.1, by have := ry.dp (n := 19) ok ff; simpa [toPy] using this, fit_shaped hf.1, by have := fit_shaped ff; simpa [toPy] using this, any_py hf.2 hf.1⟩)
  · split at h
    case isFalse => cases h
    rename_i es hf
    cases h
    have ff : fitN 20 (.tup es) = true := hf.2
    obtain ⟨a, xs, rfl, h1, h2⟩ := ry.wt_inv
    refine .inr (.inl ⟨toPy d, toPys es, rx.dp ok hf.1, .tup (ok.sub.sqT h1) (fit_dps ok.sub 19 es xs hf.2 h2), fit_shaped hf.1, by have := fit_shaped ff; simpa [toPy] using this, any_py hf.2 hf.1⟩)
  · exact .inr (.inr (dictc h ry))
  · exact .inr (.inr (dictc h ry))
  · exact .inr (.inr (dictc h ry))
  · exact .inr (.inr (dictc h ry))
  · cases h
theorem mo_in (hu : X.A.units + 65 < cLine) : OpR X (compareOp .In) (rO X.K fIn) := OpR.imp (OpR.or (op_inD hu) (OpR.or (op_inT hu) (op_inDk hu))) fun x y H Q ⟨W, S, d, e, r, S', ok, rx, ry, h, q⟩ => by
  unfold fIn at h
  cases hb : din d e with
  | none => rw [hb] at h; cases h
  | some b =>
    rw [hb] at h
    cases h
    have fin := q W H _ (Ext.refl _ _) ok (.bl b)
    rcases din_of ok rx ry hb with ⟨p, ps, h1, h2, h3, h4, h5⟩ | ⟨p, ps, h1, h2, h3, h4, h5⟩ | ⟨a, o, h1, h2, h3⟩
    · exact .inl ⟨p, ps, h1, h2, h3, h4, by rw [h5]; exact fin⟩
    · exact .inr (.inl ⟨p, ps, h1, h2, h3, h4, by rw [h5]; exact fin⟩)
    · exact .inr (.inr ⟨a, o, h1, h2, by rw [h3]; exact fin⟩)
theorem mo_notIn (hu : X.A.units + 65 < cLine) : OpR X (compareOp .NotIn) (rO X.K fNotIn) := OpR.imp (OpR.or (op_notInD hu) (OpR.or (op_notInT hu) (op_notInDk hu))) fun x y H Q ⟨W, S, d, e, r, S', ok, rx, ry, h, q⟩ => by
  unfold fNotIn at h
  cases hb : din d e with
  | none => rw [hb] at h; cases h
  | some b =>
    rw [hb] at h
    cases h
    have fin := q W H _ (Ext.refl _ _) ok (.bl (!b))
    rcases din_of ok rx ry hb with ⟨p, ps, h1, h2, h3, h4, h5⟩ | ⟨p, ps, h1, h2, h3, h4, h5⟩ | ⟨a, o, h1, h2, h3⟩
    · exact .inl ⟨p, ps, h1, h2, h3, h4, by rw [h5]; exact fin⟩
    · exact .inr (.inl ⟨p, ps, h1, h2, h3, h4, by rw [h5]; exact fin⟩)
    · exact .inr (.inr ⟨a, o, h1, h2, by rw [h3]; exact fin⟩)

/-! ### items -/
def ixD (xs : List D) (i : Int) : Option D := if 0 ≤ i then xs[i.toNat]? else if -(xs.length : Int) ≤ i then xs[(i + xs.length).toNat]? else none
def fIx : D → D → Sto → Res R := fun d e S => match d, e with
  | .tup xs, .int i => (match ixD xs i with | some z => .ok (.v z) S | none => .bad)
  | .lst xs, .int i => (match ixD xs i with | some z => .ok (.v z) S | none => .bad)
  | .wt xs, .int i => (match ixD xs i with | some z => .ok (.v z) S | none => .bad)
  | .loc n, .int i => (match S[n]? with
    | some (.l xs) => (match ixD xs i with | some z => .ok (.v z) S | none => .bad)
    | _ => .bad)
  | .scr ns, .int i => (match (if 0 ≤ i then ns[i.toNat]? else none) with | some z => .ok (.v (.int z)) S | none => .bad)
  | .dk ks ds, k => (match dlook (.dk ks ds) k with | some (some z) => .ok (.v z) S | _ => .bad)
  | .dt ks ds, k => (match dlook (.dt ks ds) k with | some (some z) => .ok (.v z) S | _ => .bad)
  | .fk ks ds, k => (match dlook (.fk ks ds) k with | some (some z) => .ok (.v z) S | _ => .bad)
  | .ft ks ds, k => (match dlook (.ft ks ds) k with | some (some z) => .ok (.v z) S | _ => .bad)
  | _, _ => .bad
theorem ixD_at {K : PySem.W.Frag} {G : Hp} {l : List Addr} {ds : List D} {xs : List V} {i : Int} {z : D} (r : RepL K G l ds xs) (h : ixD ds i = some z) : ∃ v, atI xs i = some v ∧ Rep K G l z v := by
  unfold ixD at h
  have hl := r.length
  unfold atI ixN
  by_cases c : 0 ≤ i
  · rw [if_pos c] at h
    obtain ⟨v, g1, g2⟩ := r.get h
    have hi := (List.getElem?_eq_some_iff.mp g1).1
    refine ⟨v, ?_, g2⟩
    rw [if_pos c, if_pos (by omega)]
    exact g1
  · rw [if_neg c] at h
    split at h
    case isFalse => cases h
    rename_i c2
    obtain ⟨v, g1, g2⟩ := r.get h
    refine ⟨v, ?_, g2⟩
    rw [if_neg c, if_pos (by omega), ← hl]
    exact g1
theorem ix_dict (hu : X.A.units + 65 < cLine) : IxR X (fun x y H Q => ∃ a v, x = .ref a ∧ DGet H a y (some v) ∧ Q v H) := by
  intro value slice pins s σ H x y v u Q I rx ry ⟨a, z, ex, g, q⟩ hs
  subst ex
  cases rx
  exact tail_any (dict_typeIs I g) PySem.F.slot_dict_getitem.lookup (d_getItem (by omega) I g ry fun w' s' I' rw' => ⟨z, H, I', rw', q⟩) hs
theorem IxR.or {r r' : R2} (h : IxR X r) (h' : IxR X r') : IxR X (fun x y H Q => r x y H Q ∨ r' x y H Q) := fun value slice pins s σ H x y v u Q I rx ry q => q.elim (h value slice pins s σ H x y v u Q I rx ry) (h' value slice pins s σ H x y v u Q I rx ry)
theorem mo_ix (hu : X.A.units + 65 < cLine) : IxR X (rO X.K fIx) := IxR.imp (IxR.or ix_list (IxR.or ix_tup (ix_dict hu))) fun x y H Q ⟨W, S, d, e, r, S', ok, rx, ry, h, q⟩ => by
  have dictc : ∀ {dd k : D}, (match dlook dd k with | some (some z) => Res.ok (R.v z) S | _ => .bad) = .ok r S' → RepB X.K W H dd x → RepB X.K W H k y → ∃ a v, x = .ref a ∧ DGet H a y (some v) ∧ Q v H := fun {dd k} h1 h2 h3 => by
    split at h1
    · rename_i z hz
      cases h1
      obtain ⟨a, ov, g1, g2, g3, g4⟩ := dlook_get ok h2 h3 hz
      obtain ⟨u, rfl, g6⟩ := g4 z rfl
      exact ⟨a, u, g1, g2, q W H _ (Ext.refl _ _) ok g6⟩
    · cases h1
  unfold fIx at h
  split at h
  · obtain rfl := ry.int_inv
    obtain ⟨a, xs', rfl, h1, h2⟩ := rx.tup_inv
    split at h
    case h_2 => cases h
    rename_i z hz
    cases h
    obtain ⟨v, g1, g2⟩ := ixD_at h2 hz
    exact .inr (.inl ⟨a, xs', _, v, rfl, rfl, SqT.of (ok.sub _ _ h1), g1, q W H _ (Ext.refl _ _) ok g2⟩)
  · obtain rfl := ry.int_inv
    obtain ⟨a, xs', rfl, h1, h2⟩ := rx.lst_inv ok
    split at h
    case h_2 => cases h
    rename_i z hz
    cases h
    obtain ⟨v, g1, g2⟩ := ixD_at h2 hz
    exact .inl ⟨a, xs', _, v, rfl, rfl, SqL.of h1, g1, q W H _ (Ext.refl _ _) ok g2⟩
  · obtain rfl := ry.int_inv
    obtain ⟨a, xs', rfl, h1, h2⟩ := rx.wt_inv
    split at h
    case h_2 => cases h
    rename_i z hz
    cases h
    obtain ⟨v, g1, g2⟩ := ixD_at h2 hz
    exact .inr (.inl ⟨a, xs', _, v, rfl, rfl, ok.sub.sqT h1, g1, q W H _ (Ext.refl _ _) ok g2⟩)
  · obtain rfl := ry.int_inv
    obtain ⟨a, rfl, h1⟩ := rx.loc_inv
    split at h
    case h_2 => cases h
    rename_i xs hS
    obtain ⟨xs', h2, h3⟩ := ok.loc h1 hS
    split at h
    case h_2 => cases h
    rename_i z hz
    cases h
    obtain ⟨v, g1, g2⟩ := ixD_at h3 hz
    exact .inl ⟨a, xs', _, v, rfl, rfl, SqL.of h2, g1, q W H _ (Ext.refl _ _) ok g2⟩
  · rename_i ns i
    obtain rfl := ry.int_inv
    obtain ⟨a, rfl, h1⟩ := rx.scr_inv
    split at h
    case h_2 => cases h
    rename_i z hz
    split at hz
    case isFalse => cases hz
    rename_i c
    cases h
    have hi := (List.getElem?_eq_some_iff.mp hz).1
    refine .inl ⟨a, ns.map V.int, i, .int z, rfl, rfl, ok.sub.sqL h1, ?_, q W H _ (Ext.refl _ _) ok (.int _)⟩
    unfold atI ixN
    rw [if_pos c, if_pos (by rw [List.length_map]; omega)]
    show (ns.map V.int)[i.toNat]? = _
    rw [List.getElem?_map, hz]
    rfl
  · exact .inr (.inr (dictc h rx ry))
  · exact .inr (.inr (dictc h rx ry))
  · exact .inr (.inr (dictc h rx ry))
  · exact .inr (.inr (dictc h rx ry))
  · cases h

/-! ### built-in functions of one argument and more -/
def rC (K : PySem.W.Frag) (f : List D → Sto → Res R) : List V → Hp → VK → Prop := fun xs H Q => ∃ W S ds r S', WOk K W S H ∧ AllB K W H ds xs ∧ f ds S = .ok r S' ∧ ∀ W' H' v, Ext W H W' H' → WOk K W' S' H' → RepR K W' H' H r v → Q v H'
theorem tCB_of {K : PySem.W.Frag} {f : List D → Sto → Res R} {da : DA} {σ : L2.St} {H : Hp} {Q : VK} (h : tR K (dBlt f da) σ H Q) : tCB (rC K f) (tAB K da) σ H Q := by
  obtain ⟨W, S, H0, env, ok, eo, r, S', h, q⟩ := h
  obtain ⟨ds, S1, h1, h2⟩ := bind_ok h
  exact ⟨W, S, H0, env, ok, eo, ds, S1, h1, fun W1 H1 vs e1 o1 r1 => ⟨W1, S1, ds, r, S', o1, r1, h2, fun W2 H2 z e2 o2 r2 => q W2 H2 z (e1.trans e2) o2 (r2.back fun a h => e1.fresh h)⟩⟩
theorem me_callB {id : String} {f : List D → Sto → Res R} {x : Str} {p pos : Pos} {e : Expr} {es : List Expr} {da : DA} (hc : CallR X (.builtin id) (rC X.K f)) (hg : Gl X x) (hm : X.mg x = none) (hv : bootBuiltins x = some (.builtin id)) (ha : PA X (e :: es) (tAB X.K da))
    (hn : x ≠ "__name__" := by decide) (hdb : (x == ("__debug__" : Str)) = false := by decide) (he : starEach (e :: es) X.env = (false, eval e X.env) :: starEach es X.env := by rfl) (hpl : (backTo pos (starEach es X.env)).any (·.1) = false := by rfl) :
    PE X (.Call (.Name x p) (e :: es) [] pos) (tR X.K (dBlt f da)) := PE.imp (pe_callB hc hg hm hv ha hn hdb he hpl) fun _ _ _ h => tCB_of h
theorem me_callTy {T : String} {f : List D → Sto → Res R} {x : Str} {p pos : Pos} {e : Expr} {es : List Expr} {da : DA} (hc : CallR X (.type T) (rC X.K f)) (hg : Gl X x) (hm : X.mg x = none) (hv : bootBuiltins x = some (.type T)) (ha : PA X (e :: es) (tAB X.K da))
    (hn : x ≠ "__name__" := by decide) (hdb : (x == ("__debug__" : Str)) = false := by decide) (he : starEach (e :: es) X.env = (false, eval e X.env) :: starEach es X.env := by rfl) (hpl : (backTo pos (starEach es X.env)).any (·.1) = false := by rfl) :
    PE X (.Call (.Name x p) (e :: es) [] pos) (tR X.K (dBlt f da)) := PE.imp (pe_callTy hc hg hm hv ha hn hdb he hpl) fun _ _ _ h => tCB_of h
theorem CallR.or {f : Value} {r r' : List V → Hp → VK → Prop} (h : CallR X f r) (h' : CallR X f r') : CallR X f (fun x H Q => r x H Q ∨ r' x H Q) := fun pins s σ H x u Q I rx q => q.elim (h pins s σ H x u Q I rx) (h' pins s σ H x u Q I rx)
/-- len -/
def bLen : List D → Sto → Res R := fun ds S => match ds with
  | [.tup xs] => .ok (.v (.int xs.length)) S
  | [.lst xs] => .ok (.v (.int xs.length)) S
  | [.scr ns] => .ok (.v (.int ns.length)) S
  | [.loc n] => (match S[n]? with | some (.l xs) => .ok (.v (.int xs.length)) S | _ => .bad)
  | [.dk ks _] => .ok (.v (.int ks.length)) S
  | _ => .bad
theorem mb_len : CallR X (.builtin "len") (rC X.K bLen) := CallR.imp (CallR.or call_len_seq call_lenD) fun vs H Q ⟨W, S, ds, r, S', ok, ra, h, q⟩ => by
  unfold bLen at h
  split at h
  · cases ra with
    | cons r1 r2 =>
      cases r2
      obtain ⟨a, xs', rfl, h1, h2⟩ := r1.tup_inv
      cases h
      rw [h2.length] at q
      exact .inl ⟨a, xs', rfl, .inr (SqT.of (ok.sub _ _ h1)), q W H _ (Ext.refl _ _) ok (.int _)⟩
  · cases ra with
    | cons r1 r2 =>
      cases r2
      obtain ⟨a, xs', rfl, h1, h2⟩ := r1.lst_inv ok
      cases h
      rw [h2.length] at q
      exact .inl ⟨a, xs', rfl, .inl (SqL.of h1), q W H _ (Ext.refl _ _) ok (.int _)⟩
  · cases ra with
    | cons r1 r2 =>
      cases r2
      obtain ⟨a, rfl, h1⟩ := r1.scr_inv
      cases h
      rw [← List.length_map (f := V.int)] at q
      exact .inl ⟨a, _, rfl, .inl (ok.sub.sqL h1), q W H _ (Ext.refl _ _) ok (.int _)⟩
  · cases ra with
    | cons r1 r2 =>
      cases r2
      obtain ⟨a, rfl, h1⟩ := r1.loc_inv
      split at h
      case h_2 => cases h
      rename_i xs hS
      obtain ⟨xs', h2, h3⟩ := ok.loc h1 hS
      cases h
      rw [h3.length] at q
      exact .inl ⟨a, xs', rfl, .inl (SqL.of h2), q W H _ (Ext.refl _ _) ok (.int _)⟩
  · cases ra with
    | cons r1 r2 =>
      cases r2
      obtain ⟨a, kvs, rfl, h1, h2, h3⟩ := r1.dk_inv ok
      cases h
      rw [← h2, List.length_map] at q
      exact .inr ⟨a, kvs, rfl, h1, q W H _ (Ext.refl _ _) ok (.int _)⟩
  · cases h
/-- list(x), tuple(x) of a list or a tuple -/
def bList : List D → Sto → Res R := fun ds S => match ds with
  | [.tup xs] => .ok (.o (.l xs)) S
  | [.lst xs] => .ok (.o (.l xs)) S
  | _ => .bad
theorem mb_list : CallR X (.type "list") (rC X.K bList) := CallR.imp call_list_of fun vs H Q ⟨W, S, ds, r, S', ok, ra, h, q⟩ => by
  unfold bList at h
  split at h
  · cases ra with
    | cons r1 r2 =>
      cases r2
      obtain ⟨a, xs', rfl, h1, h2⟩ := r1.tup_inv
      cases h
      refine ⟨a, xs', rfl, .inr (SqT.of (ok.sub _ _ h1)), fun p hp => ?_⟩
      obtain ⟨e1, o1, r1⟩ := obj_new (x := .l _) ok hp (.l h2)
      exact q _ _ _ e1 o1 r1
  · cases ra with
    | cons r1 r2 =>
      cases r2
      obtain ⟨a, xs', rfl, h1, h2⟩ := r1.lst_inv ok
      cases h
      refine ⟨a, xs', rfl, .inl (SqL.of h1), fun p hp => ?_⟩
      obtain ⟨e1, o1, r1⟩ := obj_new (x := .l _) ok hp (.l h2)
      exact q _ _ _ e1 o1 r1
  · cases h
def bTuple : List D → Sto → Res R := fun ds S => match ds with
  | [.tup xs] => .ok (.v (.tup xs)) S
  | [.lst xs] => .ok (.v (.tup xs)) S
  | _ => .bad
theorem mb_tuple : CallR X (.type "tuple") (rC X.K bTuple) := CallR.imp call_tuple_of fun vs H Q ⟨W, S, ds, r, S', ok, ra, h, q⟩ => by
  unfold bTuple at h
  split at h
  · cases ra with
    | cons r1 r2 =>
      cases r2
      obtain ⟨a, xs', rfl, h1, h2⟩ := r1.tup_inv
      cases h
      exact ⟨a, xs', rfl, .inr ⟨SqT.of (ok.sub _ _ h1), q W H _ (Ext.refl _ _) ok (.tup h1 h2)⟩⟩
  · cases ra with
    | cons r1 r2 =>
      cases r2
      obtain ⟨a, xs', rfl, h1, h2⟩ := r1.lst_inv ok
      cases h
      refine ⟨a, xs', rfl, .inl ⟨SqL.of h1, fun p hp => ?_⟩⟩
      obtain ⟨e1, o1, r1⟩ := tup_new ok hp h2
      exact q _ _ _ e1 o1 r1
  · cases h
def bAbs : List D → Sto → Res R := fun ds S => match ds with
  | [.int i] => .ok (.v (.int (if i < 0 then -i else i))) S
  | _ => .bad
theorem mb_abs : CallR X (.builtin "abs") (rC X.K bAbs) := CallR.imp call_abs fun vs H Q ⟨W, S, ds, r, S', ok, ra, h, q⟩ => by
  unfold bAbs at h
  split at h
  · cases ra with
    | cons r1 r2 =>
      cases r2
      obtain rfl := r1.int_inv
      cases h
      exact ⟨_, rfl, q W H _ (Ext.refl _ _) ok (.int _)⟩
  · cases h
def bInt : List D → Sto → Res R := fun ds S => match ds with
  | [.int i] => .ok (.v (.int i)) S
  | [.bl b] => .ok (.v (.int (if b then 1 else 0))) S
  | _ => .bad
theorem mb_int : CallR X (.type "int") (rC X.K bInt) := CallR.imp call_int1 fun vs H Q ⟨W, S, ds, r, S', ok, ra, h, q⟩ => by
  unfold bInt at h
  split at h
  · cases ra with
    | cons r1 r2 =>
      cases r2
      obtain rfl := r1.int_inv
      cases h
      exact .inl ⟨_, rfl, q W H _ (Ext.refl _ _) ok (.int _)⟩
  · cases ra with
    | cons r1 r2 =>
      cases r2
      obtain rfl := r1.bl_inv
      cases h
      exact .inr ⟨_, rfl, q W H _ (Ext.refl _ _) ok (.int _)⟩
  · cases h
def bMax2 : List D → Sto → Res R := fun ds S => match ds with
  | [.int i, .int j] => .ok (.v (.int (if j > i then j else i))) S
  | _ => .bad
def bMin2 : List D → Sto → Res R := fun ds S => match ds with
  | [.int i, .int j] => .ok (.v (.int (if j < i then j else i))) S
  | _ => .bad
theorem mb_max2 (hc : X.calm = true) : CallR X (.builtin "max") (rC X.K bMax2) := CallR.imp (call_max2 hc) fun vs H Q ⟨W, S, ds, r, S', ok, ra, h, q⟩ => by
  unfold bMax2 at h
  split at h
  · cases ra with
    | cons r1 r2 =>
      cases r2 with
      | cons r2 r3 =>
        cases r3
        obtain rfl := r1.int_inv
        obtain rfl := r2.int_inv
        cases h
        exact ⟨_, _, rfl, q W H _ (Ext.refl _ _) ok (.int _)⟩
  · cases h
theorem mb_min2 (hc : X.calm = true) : CallR X (.builtin "min") (rC X.K bMin2) := CallR.imp (call_min2 hc) fun vs H Q ⟨W, S, ds, r, S', ok, ra, h, q⟩ => by
  unfold bMin2 at h
  split at h
  · cases ra with
    | cons r1 r2 =>
      cases r2 with
      | cons r2 r3 =>
        cases r3
        obtain rfl := r1.int_inv
        obtain rfl := r2.int_inv
        cases h
        exact ⟨_, _, rfl, q W H _ (Ext.refl _ _) ok (.int _)⟩
  · cases h
/-- lists of ints, of bools -/
def intsOf : List D → Option (List Int)
  | [] => some []
  | .int i :: r => (intsOf r).map (i :: ·)
  | _ :: _ => none
def blsOf : List D → Option (List Bool)
  | [] => some []
  | .bl i :: r => (blsOf r).map (i :: ·)
  | _ :: _ => none
theorem blsOf_rep {K : PySem.W.Frag} {G : Hp} {l : List Addr} : ∀ {ds : List D} {xs : List V} {ns : List Bool}, RepL K G l ds xs → blsOf ds = some ns → xs = ns.map V.bl
  | [], _, ns, r, e => by
    cases r
    unfold blsOf at e
    cases e
    rfl
  | d :: ds, _, ns, r, e => by
    cases r with
    | cons r1 r2 =>
      cases d with
      | bl i =>
        unfold blsOf at e
        obtain ⟨ns', e1, rfl⟩ := Option.map_eq_some_iff.mp e
        cases r1
        rw [blsOf_rep r2 e1]
        rfl
      | _ => unfold blsOf at e; cases e
def bAll : List D → Sto → Res R := fun ds S => match ds with
  | [.lst xs] => (match blsOf xs with | some bs => .ok (.v (.bl (bs.all id))) S | none => .bad)
  | _ => .bad
def bAny : List D → Sto → Res R := fun ds S => match ds with
  | [.lst xs] => (match blsOf xs with | some bs => .ok (.v (.bl (bs.any id))) S | none => .bad)
  | _ => .bad
def bSum : List D → Sto → Res R := fun ds S => match ds with
  | [.lst xs] => (match intsOf xs with | some ns => .ok (.v (.int ns.sum)) S | none => .bad)
  | _ => .bad
theorem mb_all (hc : X.calm = true) : CallR X (.builtin "all") (rC X.K bAll) := CallR.imp (cr_all hc) fun vs H Q ⟨W, S, ds, r, S', ok, ra, h, q⟩ => by
  unfold bAll at h
  split at h
  · cases ra with
    | cons r1 r2 =>
      cases r2
      obtain ⟨a, xs', rfl, h1, h2⟩ := r1.lst_inv ok
      split at h
      case h_2 => cases h
      rename_i bs hb
      cases h
      obtain rfl := blsOf_rep h2 hb
      exact ⟨a, bs, rfl, SqL.of h1, q W H _ (Ext.refl _ _) ok (.bl _)⟩
  · cases h
end
end MP

namespace MP
open PySem PySem.W PySem.Calls PyProof.Rows
variable {EX : L2.XK}
section
variable {prog : Program} {w : World} {A : Around} {E : Value → Shared → Prop} {s : Shared}
/-- the items of a tuple, collected -/
theorem collectT {l : Addr} {us : List Value} {Q : List Value → Shared → Prop} (ht : s.heap.IsTuple l us.toArray) (hz : us.length ≤ sizeLine)
    (q : Q us { s with heap := (s.heap.push (seqObj "list" #[] 0)).update s.heap.objs.size (Obj.mapSeq (· ++ us.toArray)) }) : wpAny (model prog w) A (collect (.ref l)) Q E s := by
  obtain ⟨ob, g1, g2, m, g3⟩ := id ht
  unfold collect
  refine wpAny_bind (wpAny_runValue (codeAny_builtin entry_proto_collect' ?_))
  show wpAny _ _ (do again (.builtin "list.__iadd__" ⟨[← newList [], .ref l], []⟩)) _ _ s
  refine wpAny_bind (wpAny_newList (wpAny_pure ⟨Code.quiet_builtin _ (by decide +kernel), codeAny_builtin entry_list_iadd' ?_⟩))
  show wpAny _ _ (Builtin.List.listExtendWith (.ref s.heap.objs.size) (.ref l) (.ref s.heap.objs.size)) _ _ { s with heap := s.heap.push (seqObj "list" #[] 0) }
  unfold Builtin.List.listExtendWith
  have g4 : (s.heap.push (seqObj "list" #[] 0)).get? l = some ob := Heap.get?_push_of_some _ g1
  refine wpAny_bind (wpAny_typeOf (T := "tuple") ⟨ob, g4, g2⟩ ?_)
  have g5 : (Value.type "tuple" == Value.type "tuple") = true := by rfl
  rw [if_pos (by rw [g5]; simp)]
  refine wpAny_bind (listItems_at g4 g3 ?_)
  refine wpAny_bind (listItems_at (xs := #[]) (n := 0) (Heap.get?_push_size _ rfl) rfl ?_)
  rw [if_neg (by simp)]
  refine wpAny_bind (listUpdate_at (xs := #[]) (n := 0) (Heap.get?_push_size _ rfl) rfl ?_ (Nat.zero_le _) (by show (#[] ++ us.toArray).size ≤ sizeLine + 1; simp only [Array.size_append, List.size_toArray, List.length_nil]; omega))
  refine wpAny_pure ?_
  show wpAny (model prog w) A (do
      let o ← load s.heap.objs.size
      match o.data with
      | .seq xs _ => pure xs.toList
      | _ => unsupported "internal:collect") Q E { s with heap := (s.heap.push (seqObj "list" #[] 0)).update s.heap.objs.size (Obj.mapSeq (· ++ us.toArray)) }
  refine wpAny_bind (wpAny_load (get?_update_seq (Heap.get?_push_size _ rfl) _) ?_)
  show wpAny _ _ (pure ((#[] : Array Value) ++ us.toArray).toList) Q E _
  rw [show ((#[] : Array Value) ++ us.toArray).toList = us by simp]
  exact wpAny_pure q
theorem sortedT_of {l : Addr} {us : List Value} {Q : Value → Shared → Prop} (ht : s.heap.IsTuple l us.toArray) (hz : us.length ≤ sizeLine)
    (body : ∀ E1 : Value → Shared → Prop, wpAny (model prog w) A.in1.in1 (Builtin.«list.sort» ⟨[.ref (s.heap.objs.size + 1)], []⟩) (fun f s1 => f = .done (.ret .none) ∧ Q (.ref (s.heap.objs.size + 1)) s1) E1 { s with heap := copyHeap s.heap us }) :
    wpAny (model prog w) A (call (.builtin "sorted") [.ref l] []) Q E s := by
  refine call_function_entry_kw kind_sorted plain_sorted entry_sorted (args_sorted1 _) ?_
  unfold Builtin.«sorted»
  refine wpAny_bind (m := checkCount "sorted" 1 1 _) (wpAny_pure ?_)
  refine wpAny_bind (collectT ht hz ?_)
  refine wpAny_bind (wpAny_newList ?_ hz)
  have e1 : ((s.heap.push (seqObj "list" #[] 0)).update s.heap.objs.size (Obj.mapSeq (· ++ us.toArray))).objs.size = s.heap.objs.size + 1 := by rw [Heap.size_update, size_push']
  show wpAny _ _ _ _ _ { s with heap := copyHeap s.heap us }
  rw [e1]
  refine wpAny_bind (wpAny_holding (wpAny_call_entry_kw slot_list_sort ⟨_, copyHeap_at s.heap us, rfl⟩ entry_list_sort ?b1 (args_list_sort _)))
  case b1 =>
    show wpAny (model prog w) A.in1.in1 (Builtin.«list.sort» ⟨[.ref (s.heap.objs.size + 1)], []⟩) _ _ _
    refine wpAny_mono (body _) (fun f s1 hf => ?_) fun _ _ e => e
    obtain ⟨rfl, q⟩ := hf
    exact ⟨_, rfl, wpAny_pure ⟨_, rfl, q⟩⟩
theorem sortedT_data {β : Type} {us : List Value} {bs : List β} {enc : β → PyData} {R : Value → β → Prop} {l : Addr} {Q : Value → Shared → Prop} (ht : s.heap.IsTuple l us.toArray) (e : EachIs R us bs) (er : EachIs (fun v b => ∃ as, Reads s.heap v (enc b) as) us bs) (hal : AllAlike (bs.map enc)) (hk : Sortable (bs.map enc)) (hL : bs.length ≤ sizeLine)
    (hu : ∀ b, b ∈ bs → A.units + 2 + (enc b).depth < cLine) (h : ∀ out, out.length = bs.length → EachIs R out (bs.mergeSort (dataLe false enc)) → Q (.ref (s.heap.objs.size + 1)) { s with heap := sortedAll s.heap us (List.toArray out) }) :
    wpAny (model prog w) A (call (.builtin "sorted") [.ref l]) Q E s := by
  have e2 : EachIs (fun v b => ∃ as, Reads (sortingHeap (copyHeap s.heap us) (s.heap.objs.size + 1) us) v (enc b) as) us bs := er.mono fun _ _ ⟨as, r⟩ => ⟨as, PyProof.Rows.Reads.keeps (fun _ _ => sorting_copy_old) r⟩
  have hL' : us.length ≤ sizeLine := by rw [e.length]; exact hL
  exact sortedT_of ht hL' fun _ => list_sort_vals (s := { s with heap := copyHeap s.heap us }) (copyHeap_at s.heap us) (SortsAt.data (s := { s with heap := sortingHeap (copyHeap s.heap us) (s.heap.objs.size + 1) us }) (each_map (R := fun v d => ∃ as, Reads (sortingHeap (copyHeap s.heap us) (s.heap.objs.size + 1) us) v d as) enc e2) hal hk (bound_map hu)) hL' ⟨rfl, h _ (by rw [sortVals_length false rfl]; exact e.length) (sortVals_data false e e2 hal)⟩
end
end MP

namespace MP
open PySem PySem.Spec PyProof.Rows L2
variable {EX : L2.XK}
/-! ### comparisons of numbers and of tuples -/
def cmpOk (d e : D) : Bool := fitN 20 d && fitN 20 e && PySem.W.alike (toPy d) (toPy e)
def ltD (d e : D) : Bool := PySem.W.dataLt (toPy d) (toPy e)
def fLt : D → D → Sto → Res R := fun d e S => match d, e with
  | .int i, .int j => .ok (.v (.bl (decide (i < j)))) S
  | .tup x, .tup y => if cmpOk (.tup x) (.tup y) = true then .ok (.v (.bl (ltD (.tup x) (.tup y)))) S else .bad
  | _, _ => .bad
def fLe : D → D → Sto → Res R := fun d e S => match d, e with
  | .int i, .int j => .ok (.v (.bl (decide (i ≤ j)))) S
  | .tup x, .tup y => if cmpOk (.tup x) (.tup y) = true then .ok (.v (.bl (!ltD (.tup y) (.tup x)))) S else .bad
  | _, _ => .bad
def fGt : D → D → Sto → Res R := fun d e S => match d, e with
  | .int i, .int j => .ok (.v (.bl (decide (j < i)))) S
  | .tup x, .tup y => if cmpOk (.tup x) (.tup y) = true then .ok (.v (.bl (ltD (.tup y) (.tup x)))) S else .bad
  | _, _ => .bad
def fGe : D → D → Sto → Res R := fun d e S => match d, e with
  | .int i, .int j => .ok (.v (.bl (decide (j ≤ i)))) S
  | .tup x, .tup y => if cmpOk (.tup x) (.tup y) = true then .ok (.v (.bl (!ltD (.tup x) (.tup y)))) S else .bad
  | _, _ => .bad
section
variable {X : Cx}
theorem op_ltP (hu : X.A.units + 200 < cLine) : OpR X (compareOp .Lt) (fun x y H Q => ∃ d e, Dp X.K H x d ∧ Dp X.K H y e ∧ PySem.W.alike d e = true ∧ d ≠ .none ∧ d.depth ≤ 60 ∧ Q (.bl (PySem.W.dataLt d e)) H) := by
  intro pins s σ H x y v u Q I rx ry ⟨d, e, hd, he, al, hn, hz, q⟩
  obtain ⟨_, r1⟩ := Dp.reads I d x v hd rx
  obtain ⟨_, r2⟩ := Dp.reads I e y u he ry
  exact PySem.W.lt_data r1 r2 al hn (by have := Nat.min_le_left d.depth e.depth; omega) ⟨.bl _, H, I, rfl, q⟩
theorem mo_lt (hu : X.A.units + 200 < cLine) : OpR X (compareOp .Lt) (rO X.K fLt) := OpR.imp (OpR.or op_lt (op_ltP hu)) fun x y H Q ⟨W, S, d, e, r, S', ok, rx, ry, h, q⟩ => by
  unfold fLt at h
  split at h
  · cases h
    obtain rfl := rx.int_inv
    obtain rfl := ry.int_inv
    exact .inl ⟨_, _, rfl, rfl, q W H _ (Ext.refl _ _) ok (.bl _)⟩
  · split at h
    case isFalse => cases h
    rename_i hc
    cases h
    unfold cmpOk at hc
    simp only [Bool.and_eq_true] at hc
    obtain ⟨⟨f1, f2⟩, al⟩ := hc
    have dp := (fit_lay 20 _ f1).2
    exact .inr ⟨_, _, rx.dp ok f1, ry.dp ok f2, al, by simp [toPy], by omega, q W H _ (Ext.refl _ _) ok (.bl _)⟩
  · cases h
theorem op_leP (hu : X.A.units + 200 < cLine) : OpR X (compareOp .LtE) (fun x y H Q => ∃ d e, Dp X.K H x d ∧ Dp X.K H y e ∧ PySem.W.alike d e = true ∧ d ≠ .none ∧ d.depth ≤ 60 ∧ Q (.bl (!PySem.W.dataLt e d)) H) := by
  intro pins s σ H x y v u Q I rx ry ⟨d, e, hd, he, al, hn, hz, q⟩
  obtain ⟨_, r1⟩ := Dp.reads I d x v hd rx
  obtain ⟨_, r2⟩ := Dp.reads I e y u he ry
  exact PySem.W.le_data r1 r2 al hn (by have := Nat.min_le_left d.depth e.depth; omega) ⟨.bl _, H, I, rfl, q⟩
theorem mo_le (hu : X.A.units + 200 < cLine) : OpR X (compareOp .LtE) (rO X.K fLe) := OpR.imp (OpR.or op_le (op_leP hu)) fun x y H Q ⟨W, S, d, e, r, S', ok, rx, ry, h, q⟩ => by
  unfold fLe at h
  split at h
  · cases h
    obtain rfl := rx.int_inv
    obtain rfl := ry.int_inv
    exact .inl ⟨_, _, rfl, rfl, q W H _ (Ext.refl _ _) ok (.bl _)⟩
  · split at h
    case isFalse => cases h
    rename_i hc
    cases h
    unfold cmpOk at hc
    simp only [Bool.and_eq_true] at hc
    obtain ⟨⟨f1, f2⟩, al⟩ := hc
    have dp := (fit_lay 20 _ f1).2
    exact .inr ⟨_, _, rx.dp ok f1, ry.dp ok f2, al, by simp [toPy], by omega, q W H _ (Ext.refl _ _) ok (.bl _)⟩
  · cases h
theorem op_gtP (hu : X.A.units + 200 < cLine) : OpR X (compareOp .Gt) (fun x y H Q => ∃ d e, Dp X.K H x d ∧ Dp X.K H y e ∧ PySem.W.alike d e = true ∧ d ≠ .none ∧ d.depth ≤ 60 ∧ Q (.bl (PySem.W.dataLt e d)) H) := by
  intro pins s σ H x y v u Q I rx ry ⟨d, e, hd, he, al, hn, hz, q⟩
  obtain ⟨_, r1⟩ := Dp.reads I d x v hd rx
  obtain ⟨_, r2⟩ := Dp.reads I e y u he ry
  exact PySem.W.gt_data r1 r2 al hn (by have := Nat.min_le_left d.depth e.depth; omega) ⟨.bl _, H, I, rfl, q⟩
theorem mo_gt (hu : X.A.units + 200 < cLine) : OpR X (compareOp .Gt) (rO X.K fGt) := OpR.imp (OpR.or op_gt (op_gtP hu)) fun x y H Q ⟨W, S, d, e, r, S', ok, rx, ry, h, q⟩ => by
  unfold fGt at h
  split at h
  · cases h
    obtain rfl := rx.int_inv
    obtain rfl := ry.int_inv
    exact .inl ⟨_, _, rfl, rfl, q W H _ (Ext.refl _ _) ok (.bl _)⟩
  · split at h
    case isFalse => cases h
    rename_i hc
    cases h
    unfold cmpOk at hc
    simp only [Bool.and_eq_true] at hc
    obtain ⟨⟨f1, f2⟩, al⟩ := hc
    have dp := (fit_lay 20 _ f1).2
    exact .inr ⟨_, _, rx.dp ok f1, ry.dp ok f2, al, by simp [toPy], by omega, q W H _ (Ext.refl _ _) ok (.bl _)⟩
  · cases h
theorem op_geP (hu : X.A.units + 200 < cLine) : OpR X (compareOp .GtE) (fun x y H Q => ∃ d e, Dp X.K H x d ∧ Dp X.K H y e ∧ PySem.W.alike d e = true ∧ d ≠ .none ∧ d.depth ≤ 60 ∧ Q (.bl (!PySem.W.dataLt d e)) H) := by
  intro pins s σ H x y v u Q I rx ry ⟨d, e, hd, he, al, hn, hz, q⟩
  obtain ⟨_, r1⟩ := Dp.reads I d x v hd rx
  obtain ⟨_, r2⟩ := Dp.reads I e y u he ry
  exact PySem.W.ge_data r1 r2 al hn (by have := Nat.min_le_left d.depth e.depth; omega) ⟨.bl _, H, I, rfl, q⟩
theorem mo_ge (hu : X.A.units + 200 < cLine) : OpR X (compareOp .GtE) (rO X.K fGe) := OpR.imp (OpR.or op_ge (op_geP hu)) fun x y H Q ⟨W, S, d, e, r, S', ok, rx, ry, h, q⟩ => by
  unfold fGe at h
  split at h
  · cases h
    obtain rfl := rx.int_inv
    obtain rfl := ry.int_inv
    exact .inl ⟨_, _, rfl, rfl, q W H _ (Ext.refl _ _) ok (.bl _)⟩
  · split at h
    case isFalse => cases h
    rename_i hc
    cases h
    unfold cmpOk at hc
    simp only [Bool.and_eq_true] at hc
    obtain ⟨⟨f1, f2⟩, al⟩ := hc
    have dp := (fit_lay 20 _ f1).2
    exact .inr ⟨_, _, rx.dp ok f1, ry.dp ok f2, al, by simp [toPy], by omega, q W H _ (Ext.refl _ _) ok (.bl _)⟩
  · cases h
/-! ### is -/
def fIsN : D → D → Sto → Res R := fun d e S => match e with
  | .non => .ok (.v (.bl (isNon d))) S
  | .bl b => (match d with
    | .bl a => .ok (.v (.bl (decide (a = b)))) S
    | _ => .bad)
  | _ => .bad
def fNotN : D → D → Sto → Res R := fun d e S => match e with
  | .non => .ok (.v (.bl (!isNon d))) S
  | .bl b => (match d with
    | .bl a => .ok (.v (.bl (!decide (a = b)))) S
    | _ => .bad)
  | _ => .bad
theorem mo_isN : OpR X (compareOp .Is) (rO X.K fIsN) := OpR.imp (OpR.or op_isN op_is_bl) fun x y H Q ⟨W, S, d, e, r, S', ok, rx, ry, h, q⟩ => by
  unfold fIsN at h
  split at h
  · cases h
    refine .inl ⟨ry.non_inv, ?_⟩
    rw [rx.isNon]
    exact q W H _ (Ext.refl _ _) ok (.bl _)
  · split at h
    · cases h
      obtain rfl := rx.bl_inv
      obtain rfl := ry.bl_inv
      exact .inr ⟨_, _, rfl, rfl, q W H _ (Ext.refl _ _) ok (.bl _)⟩
    · cases h
  · cases h
end
end MP

namespace MP
variable {EX : L2.XK}
open PySem PySem.Spec PyProof.Rows L2 PySem.W
/-! ### sorted(a list of empty tuples) -/
section
variable {prog : Program} {w : World} {A : Around} {E : Value → Shared → Prop} {s : Shared}
theorem lt_mt {a b : Addr} {o1 o2 : Obj} {n1 n2 : Nat} {Q : Value → Shared → Prop} (ha : s.heap.get? a = some o1) (ca : o1.cls = .type "tuple") (da : o1.data = .seq #[] n1) (hb : s.heap.get? b = some o2) (cb : o2.cls = .type "tuple") (db : o2.data = .seq #[] n2)
    (h : Q (.bool false) s) : wpAny (model prog w) A (call (.builtin "tuple.__lt__") [.ref a, .ref b]) Q E s := by
  obtain ⟨c1, d1, t1, l1⟩ := o1
  obtain ⟨c2, d2, t2, l2⟩ := o2
  simp only at ca da cb db
  subst ca da cb db
  exact call_meets F.slot_tuple_lt ⟨_, ha, rfl⟩ F.entry_tuple_lt (F.args_tuple_lt_2 _ _) (PySem.SeqAt.tuple_ltAt a b #[] #[] n1 n2 d1 d2 l1 l2 (fun _ => true) (fun _ => false)) ⟨ha, hb, fun j j1 => absurd j1 (Nat.not_lt_zero _), fun j j1 => absurd j1 (Nat.not_lt_zero _), h⟩
theorem sortsAt_mt {vs : List Value} {ds : List PyData} (e : EachIs (fun v d => ∃ as, Reads s.heap v d as) vs ds) (hE : ∀ d ∈ ds, d = .tuple []) (hu : A.units + 2 < cLine) : SortsAt prog w A s (dataKind s.heap ds) vs := by
  have hal : AllAlike ds := fun d hd d' hd' => by
    rw [hE d hd, hE d' hd']
    rfl
  have inv : ∀ {v : Value} {as : List Addr}, Reads s.heap v (.tuple []) as → ∃ a o n, v = .ref a ∧ s.heap.get? a = some o ∧ o.cls = .type "tuple" ∧ o.data = .seq #[] n := fun {v as} r => by
    cases r with
    | @tuple l o xs n _ _ h1 h2 h3 h4 =>
      have hn : xs.toList = [] := by
        cases q : xs.toList with
        | nil => rfl
        | cons f fr =>
          rw [q] at h4
          cases h4
      have hx : xs = #[] := by
        apply Array.toList_inj.mp
        rw [hn]
      subst hx
      exact ⟨l, o, n, rfl, h1, h2, h3⟩
  refine ⟨fun v hv => ?_, oneType', ?_, fun h2 E Q hq => ?_⟩
  · obtain ⟨d, hd, as, r⟩ := e.left v hv
    exact ⟨_, dataKind_some hal hd r⟩
  · intro E x y a b Q ha hb hq
    obtain ⟨d, as, hd, ra, rfl⟩ := dataKind_inv ha
    obtain ⟨d', as', hd', rb, rfl⟩ := dataKind_inv hb
    have e1 := hE d hd
    have e2 := hE d' hd'
    subst e1
    subst e2
    obtain ⟨pa, oa, na, rfl, h1, h2, h3⟩ := inv ra
    obtain ⟨pb, ob, nb, rfl, k1, k2, k3⟩ := inv rb
    rw [keyLt'_oneType, oneLt'_eq]
    simp only [if_true]
    refine wpAny_bind (wpAny_cRoomFor (by omega) ?_)
    refine wpAny_bind (wpAny_callSpecialIfBound?_slot (T := "tuple") ⟨_, h1, h2⟩ F.slot_tuple_lt (lt_mt h1 h2 h3 k1 k2 k3 ?_))
    exact wpAny_truthy_bool hq
  · have two : ∀ v ∈ vs, ∃ a o n, v = .ref a ∧ s.heap.get? a = some o ∧ o.cls = .type "tuple" ∧ o.data = .seq #[] n := fun v hv => by
      obtain ⟨d, hd, as, r⟩ := e.left v hv
      rw [hE d hd] at r
      exact inv r
    have ty : ∀ v ∈ vs, Looks (model prog w) s.heap (typeOf v) (.type "tuple") := fun v hv => by
      obtain ⟨a, o, n, rfl, h1, h2, _⟩ := two v hv
      exact h2 ▸ (Looks.ld h1).andThen .now
    obtain ⟨v1, v2, rest, rfl⟩ : ∃ v1 v2 rest, vs = v1 :: v2 :: rest := by
      match vs, h2 with
      | [], h2 => simp at h2
      | [_], h2 => simp at h2
      | v1 :: v2 :: rest, _ => exact ⟨v1, v2, rest, rfl⟩
    rw [keyKind'_eq, List.mapM_toArray, map_eq_pure_bind]
    refine wpAny_bind (wpAny_bind (kas_mapM (r := none) _ (fun v hv Q' hq => ?_) (wpAny_pure ?_)))
    · rw [kas_first_eq]
      refine wpAny_bind ((ty v hv).here ?_)
      rw [if_neg (by decide)]
      obtain ⟨a, o, n, rfl, h1, h2, h3⟩ := two v hv
      refine wpAny_bind (listItems_at h1 h3 ?_)
      exact wpAny_pure hq
    · rw [if_neg (by simp), if_neg (by simp)]
      rw [oneTypeOnly'_eq, List.mapM_toArray, map_eq_pure_bind]
      refine wpAny_bind (wpAny_bind (wpAny_bind (kas_mapM (r := Value.type "tuple") _ (fun v hv Q' hq => (ty v hv).here hq) (wpAny_pure ?_))))
      have hall : ((List.map (fun _ => Value.type "tuple") (v1 :: v2 :: rest)).toArray.all fun z => z == Value.type "tuple") = true := by
        simp only [List.all_toArray, List.all_map, List.all_eq_true]
        intro _ _
        rfl
      have h0 : (List.map (fun _ => Value.type "tuple") (v1 :: v2 :: rest)).toArray[0]? = some (Value.type "tuple") := by simp
      rw [h0]
      simp only [hall, if_true]
      exact wpAny_pure (wpAny_pure hq)
end
section
variable {prog : Program} {w : World} {A : Around} {E : Value → Shared → Prop} {s : Shared} {β : Type} {vs : List Value} {bs : List β} {enc : β → PyData} {R : Value → β → Prop}
theorem sorted_mt {l : Addr} {Q : Value → Shared → Prop} (hl : s.heap.IsList l vs.toArray) (e : EachIs R vs bs) (er : EachIs (fun v b => ∃ as, Reads s.heap v (enc b) as) vs bs) (hE : ∀ b ∈ bs, enc b = .tuple []) (hL : bs.length ≤ sizeLine) (hu : A.units + 4 < cLine)
    (h : ∀ out, out.length = bs.length → EachIs R out (bs.mergeSort (dataLe false enc)) → Q (.ref (s.heap.objs.size + 1)) { s with heap := sortedAll s.heap vs (List.toArray out) }) : wpAny (model prog w) A (call (.builtin "sorted") [.ref l]) Q E s := by
  have hm : ∀ d ∈ bs.map enc, d = .tuple [] := fun d hd => by
    obtain ⟨b, hb, rfl⟩ := List.mem_map.mp hd
    exact hE b hb
  have hal : AllAlike (bs.map enc) := fun d hd d' hd' => by
    rw [hm d hd, hm d' hd']
    rfl
  have er2 : EachIs (fun v b => ∃ as, Reads (sortingHeap (copyHeap s.heap vs) (s.heap.objs.size + 1) vs) v (enc b) as) vs bs := er.mono fun _ _ ⟨as, r⟩ => ⟨as, PyProof.Rows.Reads.keeps (fun _ _ => sorting_copy_old) r⟩
  have hu2 : A.in1.in1.units + 2 < cLine := by
    show A.units + 1 + 1 + 2 < cLine
    omega
  exact sorted_vals hl (sortsAt_mt (s := { s with heap := sortingHeap (copyHeap s.heap vs) (s.heap.objs.size + 1) vs }) (each_map (R := fun v d => ∃ as, Reads (sortingHeap (copyHeap s.heap vs) (s.heap.objs.size + 1) vs) v d as) enc er2) hm hu2) (by rw [e.length]; exact hL)
    (h _ (by rw [sortVals_length false rfl]; exact e.length) (sortVals_data false e er2 hal))
end
end MP

namespace MP
open PySem PySem.Spec PyProof.Rows L2
variable {EX : L2.XK}

/-! ### chains of comparisons -/
def dChain (f f' : D → D → Sto → Res R) (da db dc : DE) : DE := fun env S => (da env S).bind fun x S1 => (db env S1).bind fun y S2 => (f x y S2).bind fun r S3 => match r with
  | .v (.bl true) => (dc env S3).bind fun z S4 => (f' y z S4).map R.val
  | .v (.bl false) => .ok (.bl false) S3
  | _ => .bad
section
variable {X : Cx} {a b c : Expr} {pos : Pos}
/-! ### slices -/
def cutD (xs : List D) (lo hi : Option Int) : List D := (xs.drop (HT.sIx xs.length 0 lo)).take (HT.sIx xs.length xs.length hi - HT.sIx xs.length 0 lo)
abbrev DO := Envm → Sto → Res (Option Int)
def oNone : DO := fun _ S => .ok none S
def oSome (de : DE) : DO := fun env S => (de env S).bind fun d S1 => match d with
  | .int i => .ok (some i) S1
  | _ => .bad
def tO (K : PySem.W.Frag) (d : DO) : TO := fun σ H Q => ∃ W S H0 env, WOk K W S H ∧ EnvOk K W H H0 env σ ∧ ∃ o S', d env S = .ok o S' ∧ ∀ W' H', Ext W H W' H' → WOk K W' S' H' → Q o H'
theorem PO.imp {e : Option Expr} {t t' : TO} (h : PO X e t) (i : ∀ σ H Q, t' σ H Q → t σ H Q) : PO X e t' := ⟨fun pins s σ H Q I q => h.run pins s σ H Q I (i σ H Q q)⟩
theorem mp_none : PO X none (tO X.K oNone) := PO.imp po_none fun σ H Q ⟨W, S, H0, env, ok, eo, o, S', h, q⟩ => by
  cases h
  exact q W H (Ext.refl _ _) ok
theorem mp_some {de : DE} (h : PE X a (tV X.K de)) : PO X (some a) (tO X.K (oSome de)) := PO.imp (po_some h) fun σ H Q ⟨W, S, H0, env, ok, eo, o, S', h, q⟩ => by
  obtain ⟨d, S1, h1, h2⟩ := bind_ok h
  refine ⟨W, S, H0, env, ok, eo, d, S1, h1, fun W1 H1 v e1 o1 r1 => ?_⟩
  split at h2
  · cases h2
    cases r1
    exact ⟨_, rfl, q W1 H1 e1 o1⟩
  · cases h2
def fSl : D → Option Int → Option Int → Option R
  | .lst xs, lo, hi => some (.o (.l (cutD xs lo hi)))
  | .tup xs, lo, hi => some (.v (.tup (cutD xs lo hi)))
  | _, _, _ => none
def dSl (de : DE) (dl dh : DO) : DR := fun env S => (de env S).bind fun d S1 => (dl env S1).bind fun lo S2 => (dh env S2).bind fun hi S3 => match fSl d lo hi with
  | some r => .ok r S3
  | none => .bad
theorem cut_rep {K : PySem.W.Frag} {G : Hp} {l : List Addr} {ds : List D} {xs : List V} (h : RepL K G l ds xs) (lo hi : Option Int) : RepL K G l (cutD ds lo hi) (cutV xs lo hi) := by
  unfold cutD cutV
  rw [h.length]
  exact (h.drop _).take _
theorem me_sl {lo hi : Option Expr} {p2 : Pos} {de : DE} {dl dh : DO} (he : PE X a (MP.tB X.K de)) (hl : PO X lo (tO X.K dl)) (hh : PO X hi (tO X.K dh)) : PE X (.Subscript a (.Slice lo hi none p2) pos) (tR X.K (dSl de dl dh)) :=
  PE.imp (pe_slice (SlR.or sl_list sl_tupA) he hl hh) fun σ H Q ⟨W, S, H0, env, ok, eo, r, S', h, q⟩ => by
    obtain ⟨d, S1, h1, h⟩ := bind_ok h
    obtain ⟨l, S2, h2, h⟩ := bind_ok h
    obtain ⟨u, S3, h3, h⟩ := bind_ok h
    refine ⟨W, S, H0, env, ok, eo, d, S1, h1, fun W1 H1 v e1 o1 r1 => ?_⟩
    refine ⟨W1, S1, H0, env, o1, eo.ext e1, l, S2, h2, fun W2 H2 e2 o2 => ?_⟩
    refine ⟨W2, S2, H0, env, o2, (eo.ext e1).ext e2, u, S3, h3, fun W3 H3 e3 o3 => ?_⟩
    have r3 := (r1.ext e2).ext e3
    have ee := (e1.trans e2).trans e3
    cases d with
    | lst ds =>
      cases h
      obtain ⟨a', xs, rfl, g1, g2⟩ := r3.lst_inv o3
      refine .inl ⟨a', xs, rfl, SqL.of g1, fun p hp => ?_⟩
      obtain ⟨x1, x2, x3⟩ := obj_new (x := .l _) o3 hp (.l (cut_rep g2 l u))
      exact q _ _ _ (ee.trans x1) x2 (x3.back fun a h => ee.fresh h)
    | tup ds =>
      cases h
      obtain ⟨a', xs, rfl, g1, g2⟩ := r3.tup_inv
      refine .inr ⟨a', xs, rfl, SqT.of (o3.sub _ _ g1), fun z => ?_, fun _ p hp => ?_⟩
      · have e0 : cutD ds l u = ds := by
          unfold cutD
          rw [g2.length, z.1, z.2, List.drop_zero, Nat.sub_zero]
          exact List.take_of_length_le (by rw [g2.length]; exact Nat.le_refl _)
        rw [e0] at q
        exact q W3 H3 _ ee o3 (.tup g1 g2)
      · obtain ⟨x1, x2, x3⟩ := tup_new o3 hp (cut_rep g2 l u)
        exact q _ _ _ (ee.trans x1) x2 x3
    | _ => cases h

/-! ### sorted -/
open PySem.W in
def dle : D → D → Bool := dataLe false toPy
def dSort (ds : List D) : List D := ds.mergeSort dle
def nonEmptyTup : D → Bool
  | .tup (_ :: _) => true
  | _ => false
def plainD : D → Bool
  | .int _ => true
  | .str _ => true
  | .bl _ => true
  | _ => false
open PySem.W in
def sortOk (ds : List D) : Bool := (ds.all (fitN 19)) && (ds.all nonEmptyTup || ds.all plainD) && (ds.all fun a => ds.all fun b => alike (toPy a) (toPy b)) && decide (ds.length ≤ 100000)
def isMt : D → Bool
  | .tup [] => true
  | _ => false
/-- a list of empty tuples -/
def mtOk (ds : List D) : Bool := ds.all isMt && decide (ds.length ≤ 100000)
def seqOf : D → Option (List D)
  | .lst xs => some xs
  | _ => none
def bSorted : List D → Sto → Res R := fun ds S => match ds with
  | [.lst xs] => if sortOk xs = true then .ok (.o (.l (dSort xs))) S else if mtOk xs = true then .ok (.o (.l (dSort xs))) S else .bad
  | [.tup xs] => if sortOk xs = true then .ok (.o (.l (dSort xs))) S else .bad
  | _ => .bad
open PySem.W in
theorem zip_each {K : PySem.W.Frag} {G : Hp} {l : List Addr} {n : Nat} : ∀ {es : List D} {xs : List V} {its : List Value}, RepL K G l es xs → Vals xs its → es.all (fitN n) = true → EachIs (fun (v : Value) (b : D × V) => RelV b.2 v ∧ Rep K G l b.1 b.2 ∧ fitN n b.1 = true) its (es.zip xs)
  | _, _, _, .nil, .nil, _ => .nil
  | _, _, _, .cons a1 a2, .cons b1 b2, h => by
    rw [List.all_cons, Bool.and_eq_true] at h
    exact .cons ⟨b1, a1, h.1⟩ (zip_each a2 b2 h.2)
open PySem.W in
theorem sorted_core (hu : X.A.units + 200 < cLine) {pins : List (Addr × Obj)} {s : Shared} {σ : L2.St} {H : Hp} {W : Wd} {S : Sto} {l : Addr} {es : List D} {xs : List V} {its : List Value} {Q : Value → Shared → Prop} (I : Inv X pins σ H s) (ok : WOk X.K W S H) (h2 : RepL X.K W.G W.r es xs) (rv2 : Vals xs its) (hs : sortOk es = true)
    (pl : s.heap.IsList l its.toArray ∨ s.heap.IsTuple l its.toArray) (q : ∀ W' H' v s', Ext W H W' H' → WOk X.K W' S H' → RepR X.K W' H' H (.o (.l (dSort es))) (.ref v) → Inv X pins σ H' s' → Q (.ref v) s') :
    wpAny (model X.prog X.w) X.A (call (.builtin "sorted") [.ref l]) Q X.xe s := by
  unfold sortOk at hs
  simp only [Bool.and_eq_true, Bool.or_eq_true, decide_eq_true_eq] at hs
  obtain ⟨⟨⟨hfit, hkind⟩, halike⟩, hlen⟩ := hs
  have hlx := h2.length
  have hli := rv2.length
  -- the items with what they stand for
  have eachR := zip_each h2 rv2 hfit
  have reads : EachIs (fun (v : Value) (b : D × V) => ∃ as, Reads s.heap v (toPy b.1) as) its (es.zip xs) := eachR.mono fun v b ⟨z1, z2, z3⟩ => Dp.reads I (toPy b.1) b.2 v (fit_dp ok.sub 19 b.1 b.2 z3 z2) z1
  have mfst : (es.zip xs).map (fun b => toPy b.1) = es.map toPy := by
    have e0 : (es.zip xs).map (fun b => toPy b.1) = ((es.zip xs).map Prod.fst).map toPy := by rw [List.map_map]; rfl
    rw [e0, List.map_fst_zip (by omega)]
  have mem1 : ∀ b ∈ es.zip xs, b.1 ∈ es := fun b hb => (List.of_mem_zip (a := b.1) (b := b.2) hb).1
  have g1 : AllAlike ((es.zip xs).map fun b => toPy b.1) := by
    intro d hd d' hd'
    rw [mfst] at hd hd'
    obtain ⟨a, ha, rfl⟩ := List.mem_map.mp hd
    obtain ⟨a', ha', rfl⟩ := List.mem_map.mp hd'
    exact List.all_eq_true.mp (List.all_eq_true.mp halike a ha) a' ha'
  have g2 : Sortable ((es.zip xs).map fun b => toPy b.1) := by
    rcases hkind with k | k
    · refine .inl fun d hd => ?_
      rw [mfst] at hd
      obtain ⟨a, ha, rfl⟩ := List.mem_map.mp hd
      have z := List.all_eq_true.mp k a ha
      cases a with
      | tup ts =>
        cases ts with
        | nil => simp [nonEmptyTup] at z
        | cons t ts => exact ⟨toPy t, toPys ts, by simp [toPy, toPys]⟩
      | _ => simp [nonEmptyTup] at z
    · refine .inr fun d hd => ?_
      rw [mfst] at hd
      obtain ⟨a, ha, rfl⟩ := List.mem_map.mp hd
      have z := List.all_eq_true.mp k a ha
      cases a <;> first | (simp [plainD] at z; done) | exact ⟨by simp [toPy], by simp [toPy]⟩
  have g3 : (es.zip xs).length ≤ sizeLine := by
    rw [List.length_zip]
    exact le_sizeLine (by omega)
  have g4 : ∀ b, b ∈ es.zip xs → X.A.units + 2 + (toPy b.1).depth < cLine := by
    intro b hb
    have z := List.all_eq_true.mp hfit b.1 (mem1 b hb)
    have := (fit_lay 19 b.1 z).2
    omega
  have g5 : ∀ out : List Value, out.length = (es.zip xs).length → EachIs (fun (v : Value) (b : D × V) => RelV b.2 v ∧ Rep X.K W.G W.r b.1 b.2 ∧ fitN 19 b.1 = true) out ((es.zip xs).mergeSort (dataLe false fun b : D × V => toPy b.1)) → Q (.ref (s.heap.objs.size + 1)) { s with heap := sortedAll s.heap its (List.toArray out) } := by
    intro out ho eo
    have ms : ((es.zip xs).mergeSort (dataLe false fun b : D × V => toPy b.1)).map Prod.fst = dSort es := by
      unfold dSort
      have e1 := List.map_mergeSort (r := dataLe false fun b : D × V => toPy b.1) (s := dle) (f := Prod.fst) (l := es.zip xs) (fun a _ b _ => rfl)
      rw [e1, List.map_fst_zip (by omega)]
    generalize hbs : (es.zip xs).mergeSort (dataLe false fun b : D × V => toPy b.1) = bs at eo ms
    have rel : Vals (bs.map Prod.snd) out ∧ RepL X.K W.G W.r (bs.map Prod.fst) (bs.map Prod.snd) := by
      clear hbs ms ho
      induction eo with
      | nil => exact ⟨.nil, .nil⟩
      | cons z1 _ ih => exact ⟨.cons z1.1 ih.1, .cons z1.2.1 ih.2⟩
    rw [ms] at rel
    have hp : H (s.heap.objs.size + 1) = none := I.hok.fresh (Nat.le_succ _)
    obtain ⟨x1, x2, x3⟩ := obj_new (x := .l (dSort es)) ok hp (.l rel.2)
    obtain ⟨ep, he⟩ := sortedAll_at s.heap its out.toArray
    refine q _ (upd H (s.heap.objs.size + 1) (.lst (bs.map Prod.snd))) _ _ x1 x2 x3 ?_
    refine I.laid (t' := s.toks) (fun b u e => sortedAll_old e) (Nat.le_succ _) ⟨?_, out, ep, rel.1, he⟩
    rw [← rel.2.length]
    unfold dSort
    rw [List.length_mergeSort]
    exact le_sizeLine hlen
  rcases pl with pl | pl
  · exact sorted_data (enc := fun b : D × V => toPy b.1) pl eachR reads g1 g2 g3 g4 g5
  · exact sortedT_data (enc := fun b : D × V => toPy b.1) pl eachR reads g1 g2 g3 g4 g5
open PySem.W in
theorem sorted_coreM (hu : X.A.units + 200 < cLine) {pins : List (Addr × Obj)} {s : Shared} {σ : L2.St} {H : Hp} {W : Wd} {S : Sto} {l : Addr} {es : List D} {xs : List V} {its : List Value} {Q : Value → Shared → Prop} (I : Inv X pins σ H s) (ok : WOk X.K W S H) (h2 : RepL X.K W.G W.r es xs) (rv2 : Vals xs its) (hs : mtOk es = true)
    (pl : s.heap.IsList l its.toArray) (q : ∀ W' H' v s', Ext W H W' H' → WOk X.K W' S H' → RepR X.K W' H' H (.o (.l (dSort es))) (.ref v) → Inv X pins σ H' s' → Q (.ref v) s') :
    wpAny (model X.prog X.w) X.A (call (.builtin "sorted") [.ref l]) Q X.xe s := by
  unfold mtOk at hs
  rw [Bool.and_eq_true, decide_eq_true_eq] at hs
  obtain ⟨hmt, hlen⟩ := hs
  have hE : ∀ d ∈ es, d = .tup [] := fun d hd => by
    have := List.all_eq_true.mp hmt d hd
    cases d with
    | tup ts =>
      cases ts with
      | nil => rfl
      | cons _ _ => cases this
    | _ => cases this
  have hfit : es.all (fitN 19) = true := List.all_eq_true.mpr fun d hd => by
    rw [hE d hd]
    rfl
  have hlx := h2.length
  have hli := rv2.length
  -- the items with what they stand for
  have eachR := zip_each h2 rv2 hfit
  have reads : EachIs (fun (v : Value) (b : D × V) => ∃ as, Reads s.heap v (toPy b.1) as) its (es.zip xs) := eachR.mono fun v b ⟨z1, z2, z3⟩ => Dp.reads I (toPy b.1) b.2 v (fit_dp ok.sub 19 b.1 b.2 z3 z2) z1
  have mfst : (es.zip xs).map (fun b => toPy b.1) = es.map toPy := by
    have e0 : (es.zip xs).map (fun b => toPy b.1) = ((es.zip xs).map Prod.fst).map toPy := by rw [List.map_map]; rfl
    rw [e0, List.map_fst_zip (by omega)]
  have mem1 : ∀ b ∈ es.zip xs, b.1 ∈ es := fun b hb => (List.of_mem_zip (a := b.1) (b := b.2) hb).1
  have g3 : (es.zip xs).length ≤ sizeLine := by
    rw [List.length_zip]
    exact le_sizeLine (by omega)
  have g4 : ∀ b ∈ es.zip xs, toPy b.1 = .tuple [] := fun b hb => by
    rw [hE b.1 (mem1 b hb)]
    simp [toPy, toPys]
  have g5 : ∀ out : List Value, out.length = (es.zip xs).length → EachIs (fun (v : Value) (b : D × V) => RelV b.2 v ∧ Rep X.K W.G W.r b.1 b.2 ∧ fitN 19 b.1 = true) out ((es.zip xs).mergeSort (dataLe false fun b : D × V => toPy b.1)) → Q (.ref (s.heap.objs.size + 1)) { s with heap := sortedAll s.heap its (List.toArray out) } := by
    intro out ho eo
    have ms : ((es.zip xs).mergeSort (dataLe false fun b : D × V => toPy b.1)).map Prod.fst = dSort es := by
      unfold dSort
      have e1 := List.map_mergeSort (r := dataLe false fun b : D × V => toPy b.1) (s := dle) (f := Prod.fst) (l := es.zip xs) (fun a _ b _ => rfl)
      rw [e1, List.map_fst_zip (by omega)]
    generalize hbs : (es.zip xs).mergeSort (dataLe false fun b : D × V => toPy b.1) = bs at eo ms
    have rel : Vals (bs.map Prod.snd) out ∧ RepL X.K W.G W.r (bs.map Prod.fst) (bs.map Prod.snd) := by
      clear hbs ms ho
      induction eo with
      | nil => exact ⟨.nil, .nil⟩
      | cons z1 _ ih => exact ⟨.cons z1.1 ih.1, .cons z1.2.1 ih.2⟩
    rw [ms] at rel
    have hp : H (s.heap.objs.size + 1) = none := I.hok.fresh (Nat.le_succ _)
    obtain ⟨x1, x2, x3⟩ := obj_new (x := .l (dSort es)) ok hp (.l rel.2)
    obtain ⟨ep, he⟩ := sortedAll_at s.heap its out.toArray
    refine q _ (upd H (s.heap.objs.size + 1) (.lst (bs.map Prod.snd))) _ _ x1 x2 x3 ?_
    refine I.laid (t' := s.toks) (fun b u e => sortedAll_old e) (Nat.le_succ _) ⟨?_, out, ep, rel.1, he⟩
    rw [← rel.2.length]
    unfold dSort
    rw [List.length_mergeSort]
    exact le_sizeLine hlen
  exact sorted_mt (enc := fun b : D × V => toPy b.1) pl eachR reads g4 g3 (by omega) g5
theorem mb_sorted (hu : X.A.units + 200 < cLine) : CallR X (.builtin "sorted") (rC X.K bSorted) := by
  intro pins s σ H vs us Q I rv ⟨W, S, ds, r, S', ok, ra, h, q⟩
  unfold bSorted at h
  split at h
  · split at h
    case isFalse =>
      split at h
      case isFalse => cases h
      rename_i hs
      cases h
      cases ra with
      | cons r1 r2 =>
        cases r2
        obtain ⟨l, xs, rfl, h1, h2⟩ := r1.lst_inv ok
        obtain ⟨its, rv2, pl, hz⟩ := I.list (SqL.of h1 : SqL X.K H l xs)
        cases rv with
        | cons rl rt =>
          cases rt
          cases rl
          exact sorted_coreM hu I ok h2 rv2 hs pl.isList fun W' H' v s' x1 x2 x3 I' => ⟨.ref v, H', I', rfl, q _ _ _ x1 x2 x3⟩
    rename_i hs
    cases h
    cases ra with
    | cons r1 r2 =>
      cases r2
      obtain ⟨l, xs, rfl, h1, h2⟩ := r1.lst_inv ok
      obtain ⟨its, rv2, pl, hz⟩ := I.list (SqL.of h1 : SqL X.K H l xs)
      cases rv with
      | cons rl rt =>
        cases rt
        cases rl
        exact sorted_core hu I ok h2 rv2 hs (.inl pl.isList) fun W' H' v s' x1 x2 x3 I' => ⟨.ref v, H', I', rfl, q _ _ _ x1 x2 x3⟩
  · split at h
    case isFalse => cases h
    rename_i hs
    cases h
    cases ra with
    | cons r1 r2 =>
      cases r2
      obtain ⟨l, xs, rfl, h1, h2⟩ := r1.tup_inv
      obtain ⟨its, rv2, pl, hz⟩ := I.tuple (SqT.of (ok.sub _ _ h1) : SqT X.K H l xs)
      cases rv with
      | cons rl rt =>
        cases rt
        cases rl
        exact sorted_core hu I ok h2 rv2 hs (.inr pl) fun W' H' v s' x1 x2 x3 I' => ⟨.ref v, H', I', rfl, q _ _ _ x1 x2 x3⟩
  · cases h
end
end MP

namespace MP
open PySem PySem.Spec PyProof.Rows L2
variable {EX : L2.XK}

section
variable {prog : Program} {w : World} {A : Around} {R : Result → Shared → Prop} {I : Addr} {fp wr : List Addr} {n : Nat} {P : Nat → Value → Prop} {St : Nat → Heap → Prop}
end
section
variable {prog : Program} {w : World} {A : Around} {E : Value → Shared → Prop} {s : Shared}
variable {l : Addr} {xs : Array (Int × Tok)}
variable {its : List Value} {ns : List Int}
end
section
variable {X : Cx}
end

section
variable {prog : Program} {w : World} {A : Around} {R : Result → Shared → Prop} {I : Addr} {fp wr : List Addr} {n : Nat} {P : Nat → Value → Prop} {St : Nat → Heap → Prop}
end
section
variable {prog : Program} {w : World} {A : Around} {E : Value → Shared → Prop} {s : Shared}
variable {l : Addr} {xs : Array (Int × Tok)}
variable {its : List Value} {ns : List Int}
end
section
variable {X : Cx}
end
end MP

namespace MP
open PySem PySem.Spec PyProof.Rows L2
variable {EX : L2.XK}

/-! ### set(x) of a list of ints; len and sorted of it -/
abbrev setOb (w : World) : Obj := { cls := .type "set", dict := none, data := .set #[] 0 (.fresh 0 0 (!w.params.followText "set-order")) }
section
variable {P : Program} {w : World} {A : Around} {E : Value → Shared → Prop} {s : Shared}
end
/-! ### the members in order, each once -/
def insU (x : Int) : List Int → List Int
  | [] => [x]
  | y :: ys => if x < y then x :: y :: ys else if x = y then y :: ys else y :: insU x ys
def usort : List Int → List Int
  | [] => []
  | x :: xs => insU x (usort xs)
theorem mem_insU {x k : Int} : ∀ {l : List Int}, k ∈ insU x l ↔ k = x ∨ k ∈ l
  | [] => by simp [insU]
  | y :: ys => by
    unfold insU
    by_cases c : x < y
    · rw [if_pos c]; simp
    · rw [if_neg c]
      by_cases c2 : x = y
      · rw [if_pos c2]; subst c2; simp
      · rw [if_neg c2]
        simp only [List.mem_cons, mem_insU (l := ys)]
        constructor
        · rintro (h | h | h) <;> simp [h]
        · rintro (h | h | h) <;> simp [h]
theorem insU_lt {x : Int} : ∀ {l : List Int}, l.Pairwise (· < ·) → (insU x l).Pairwise (· < ·)
  | [], _ => by simp [insU]
  | y :: ys, h => by
    obtain ⟨h1, h2⟩ := List.pairwise_cons.mp h
    unfold insU
    by_cases c : x < y
    · rw [if_pos c]
      refine List.pairwise_cons.mpr ⟨fun k hk => ?_, h⟩
      rcases List.mem_cons.mp hk with rfl | hk
      · exact c
      · exact Int.lt_trans c (h1 k hk)
    · rw [if_neg c]
      by_cases c2 : x = y
      · rw [if_pos c2]; exact h
      · rw [if_neg c2]
        refine List.pairwise_cons.mpr ⟨fun k hk => ?_, insU_lt h2⟩
        rcases mem_insU.mp hk with rfl | hk
        · omega
        · exact h1 k hk
theorem mem_usort {k : Int} : ∀ {l : List Int}, k ∈ usort l ↔ k ∈ l
  | [] => by simp [usort]
  | x :: xs => by simp [usort, mem_insU, mem_usort (l := xs)]
theorem usort_lt : ∀ l : List Int, (usort l).Pairwise (· < ·)
  | [] => List.Pairwise.nil
  | x :: xs => insU_lt (usort_lt xs)
theorem lt_unique : ∀ {a b : List Int}, a.Pairwise (· < ·) → b.Pairwise (· < ·) → (∀ k, k ∈ a ↔ k ∈ b) → a = b
  | [], [], _, _, _ => rfl
  | [], y :: ys, _, _, h => by have := (h y).mpr List.mem_cons_self; cases this
  | x :: xs, [], _, _, h => by have := (h x).mp List.mem_cons_self; cases this
  | x :: xs, y :: ys, ha, hb, h => by
    obtain ⟨a1, a2⟩ := List.pairwise_cons.mp ha
    obtain ⟨b1, b2⟩ := List.pairwise_cons.mp hb
    have e : x = y := by
      rcases List.mem_cons.mp ((h x).mp List.mem_cons_self) with z | z
      · exact z
      · rcases List.mem_cons.mp ((h y).mpr List.mem_cons_self) with z2 | z2
        · exact z2.symm
        · have p1 := b1 x z
          have p2 := a1 y z2
          omega
    subst e
    refine congrArg (x :: ·) (lt_unique a2 b2 fun k => ⟨fun hk => ?_, fun hk => ?_⟩)
    · rcases List.mem_cons.mp ((h k).mp (List.mem_cons_of_mem _ hk)) with z | z
      · have := a1 k hk
        omega
      · exact z
    · rcases List.mem_cons.mp ((h k).mpr (List.mem_cons_of_mem _ hk)) with z | z
      · have := b1 k hk
        omega
      · exact z
def seqInts : D → Option (List Int)
  | .tup ds => intsOf ds
  | .lst ds => intsOf ds
  | _ => none
def dLenSet (da : DE) : DR := fun env S => (da env S).bind fun d S1 => match seqInts d with
  | some ns => if ns.length ≤ 1000 then .ok (.v (.int (usort ns).length)) S1 else .bad
  | none => .bad
def dSortSet (da : DE) : DR := fun env S => (da env S).bind fun d S1 => match seqInts d with
  | some ns => if ns.length ≤ 60 then .ok (.o (.l ((usort ns).map D.int))) S1 else .bad
  | none => .bad
section
variable {X : Cx} {a : Expr}
end
end MP

namespace MP
open PySem PySem.Spec PyProof.Rows L2
variable {EX : L2.XK}
section
variable {X : Cx} {e a b : Expr} {pos : Pos}
/-! ### types and isinstance -/
theorem me_ty {x : Str} {T : String} (hg : Gl X x) (hm : X.mg x = none) (hv : bootBuiltins x = some (.type T)) (hn : x ≠ "__name__" := by decide) (hd : (x == ("__debug__" : Str)) = false := by decide) : PE X (.Name x pos) (tV X.K (dC (.ty T))) :=
  me_c (pe_bltn (v := .ty T) hg hm hv rfl hn hd) fun _ _ => .ty T
def tyName : D → Option String
  | .non => some "NoneType"
  | .bl _ => some "bool"
  | .int _ => some "int"
  | .str _ => some "str"
  | .tup _ => some "tuple"
  | .lst _ => some "list"
  | .dk _ _ => some "dict"
  | .dt _ _ => some "dict"
  | _ => none
def tyKnown (t : String) : Bool := t == "int" || t == "bool" || t == "str" || t == "tuple" || t == "list" || t == "dict"
def subTy (a b : String) : Bool := a == b || (a == "bool" && b == "int")
def isi1 (d : D) (t : String) : Option Bool := match tyName d with
  | some n => if tyKnown t = true then some (subTy n t) else none
  | none => none
theorem kit_all : ∀ a ∈ ["NoneType", "bool", "int", "str", "tuple", "list", "dict"], ∀ b ∈ ["int", "bool", "str", "tuple", "list", "dict"], kitB a b = some (subTy a b) := by decide +kernel
theorem tyName_mem {d : D} {n : String} (h : tyName d = some n) : n ∈ ["NoneType", "bool", "int", "str", "tuple", "list", "dict"] := by
  cases d <;> cases h <;> decide
theorem tyKnown_mem {t : String} (h : tyKnown t = true) : t ∈ ["int", "bool", "str", "tuple", "list", "dict"] := by
  unfold tyKnown at h
  simp only [Bool.or_eq_true, beq_iff_eq] at h
  simp only [List.mem_cons, List.not_mem_nil, or_false]
  rcases h with ((((h | h) | h) | h) | h) | h <;> simp [h]
theorem tyx_of {K : PySem.W.Frag} {W : Wd} {S : Sto} {H : Hp} {d : D} {x : V} {n : String} (ok : WOk K W S H) (r : RepB K W H d x) (h : tyName d = some n) : TyX K H x (.type n) := by
  cases d with
  | non => cases h; rw [r.non_inv]; exact .base .non
  | bl b => cases h; rw [r.bl_inv]; exact .base (.bl b)
  | int b => cases h; rw [r.int_inv]; exact .base (.int b)
  | str b => cases h; rw [r.str_inv]; exact .base (.str b)
  | tup ds =>
    cases h
    obtain ⟨p, xs, rfl, h1, h2⟩ := r.tup_inv
    exact .base (.tup (ok.sub _ _ h1))
  | lst ds =>
    cases h
    obtain ⟨p, xs, rfl, h1, h2⟩ := r.lst_inv ok
    exact .base (.lst h1)
  | dk ks ds =>
    cases h
    obtain ⟨p, kvs, rfl, h1, h2, h3⟩ := r.dk_inv ok
    exact .base (.dK h1)
  | dt ks ds =>
    cases h
    obtain ⟨p, kvs, rfl, h1, h2, h3⟩ := r.dt_inv ok
    exact .base (.dT h1)
  | _ => cases h
def tysOf : List D → Option (List String)
  | [] => some []
  | .ty t :: r => (tysOf r).map (t :: ·)
  | _ :: _ => none
def bIsi : List D → Sto → Res R := fun ds S => match ds with
  | [d, .ty t] => (match isi1 d t with | some b => .ok (.v (.bl b)) S | none => .bad)
  | [d, .tup ts] => (match tyName d, tysOf ts with | some n, some l => if l.all tyKnown = true then .ok (.v (.bl (l.any (subTy n)))) S else .bad | _, _ => .bad)
  | _ => .bad
theorem tysOf_rep {K : PySem.W.Frag} {G : Hp} {l : List Addr} : ∀ {ds : List D} {xs : List V} {ts : List String}, RepL K G l ds xs → tysOf ds = some ts → xs = ts.map V.ty
  | [], _, ns, r, e => by
    cases r
    unfold tysOf at e
    cases e
    rfl
  | d :: ds, _, ns, r, e => by
    cases r with
    | cons r1 r2 =>
      cases d with
      | ty i =>
        unfold tysOf at e
        obtain ⟨ns', e1, rfl⟩ := Option.map_eq_some_iff.mp e
        cases r1
        rw [tysOf_rep r2 e1]
        rfl
      | _ => unfold tysOf at e; cases e
theorem kit1 {K : PySem.W.Frag} {d : D} {n t : String} (hn : tyName d = some n) (hk : tyKnown t = true) : PySem.W.kitOne K (.type n) (.type t) = some (subTy n t) := kit_ty (kit_all n (tyName_mem hn) t (tyKnown_mem hk))
theorem clsV_tys : ∀ ts : List String, Paired ClsV (ts.map V.ty) (ts.map Value.type)
  | [] => .nil
  | t :: ts => .cons (.ty t) (clsV_tys ts)
theorem kitA {K : PySem.W.Frag} {d : D} {n : String} (hn : tyName d = some n) : ∀ {ts : List String}, ts.all tyKnown = true → PySem.W.kitAny K (.type n) (ts.map Value.type) = some (ts.any (subTy n))
  | [], _ => rfl
  | t :: ts, h => by
    rw [List.all_cons, Bool.and_eq_true] at h
    rw [List.any_cons]
    refine kitAny_cons (kit1 hn h.1) (fun z => ?_) (fun z => by rw [z]; rfl)
    rw [kitA hn h.2, z]
    rfl
theorem mb_isi : CallR X (.builtin "isinstance") (rC X.K bIsi) := CallR.imp (CallR.or call_isi call_isiT) fun vs H Q ⟨W, S, ds, r, S', ok, ra, h, q⟩ => by
  unfold bIsi at h
  split at h
  · rename_i d t
    cases ra with
    | cons r1 r2 =>
      cases r2 with
      | cons r2 r3 =>
        cases r3
        split at h
        case h_2 => cases h
        rename_i b hb
        cases h
        unfold isi1 at hb
        cases hn : tyName d with
        | none => rw [hn] at hb; cases hb
        | some n =>
          rw [hn] at hb
          have hb : (if tyKnown t = true then some (subTy n t) else none) = some b := hb
          split at hb
          case isFalse => cases hb
          rename_i hk
          cases hb
          have et : ∀ {v : V}, RepB X.K W H (.ty t) v → v = .ty t := fun r => by
            rcases r with r | ⟨x, a, u, e1, _⟩
            · cases r; rfl
            · cases x <;> cases e1
          obtain rfl := et r2
          exact .inl ⟨_, _, _, _, _, rfl, .ty t, tyx_of ok r1 hn, kit1 hn hk, q W H _ (Ext.refl _ _) ok (.bl _)⟩
  · rename_i d ts
    cases ra with
    | cons r1 r2 =>
      cases r2 with
      | cons r2 r3 =>
        cases r3
        split at h
        case h_2 => cases h
        rename_i n l hn hl
        split at h
        case isFalse => cases h
        rename_i hk
        cases h
        obtain ⟨p, xs, rfl, h1, h2⟩ := r2.tup_inv
        obtain rfl := tysOf_rep h2 hl
        exact .inr ⟨_, _, _, _, _, _, rfl, ok.sub _ _ h1, clsV_tys l, tyx_of ok r1 hn, kitA hn hk, q W H _ (Ext.refl _ _) ok (.bl _)⟩
  · cases h
/-! ### dict(x) of a list of pairs -/
def pairsOf : List D → Option (List (Key × D))
  | [] => some []
  | .tup [k, v] :: r => match MP.keyOf k, pairsOf r with
    | some q, some l => some ((q, v) :: l)
    | _, _ => none
  | _ :: _ => none
def putAll : List (Key × D) → List Key → List D → List Key × List D
  | [], ks, ds => (ks, ds)
  | (k, v) :: r, ks, ds => putAll r (putKs ks k) (putDs ks ds k v)
def bDict : List D → Sto → Res R := fun ds S => match ds with
  | [.lst xs] => (match pairsOf xs with
    | some ps => .ok (.o (.k (putAll ps [] []).1 (putAll ps [] []).2)) S
    | none => .bad)
  | _ => .bad
/-! ### d.get -/
def dDget (dd dk dx : DE) : DE := fun env S => (dd env S).bind fun d S1 => (dk env S1).bind fun k S2 => (dx env S2).bind fun z S3 => match dlook d k with
  | some (some v) => .ok v S3
  | some none => .ok z S3
  | none => .bad
/-! ### list(d.values()) -/
def dVals (dd : DE) : DR := fun env S => (dd env S).bind fun d S1 => match d with
  | .dk _ ds => .ok (.o (.l ds)) S1
  | _ => .bad
end
end MP

namespace MP
open PySem PySem.Spec PyProof.Rows L2
variable {EX : L2.XK}
section
variable {X : Cx} {e a b : Expr} {pos : Pos}
/-! ### max(l, default=x), min(l, default=x) -/
def maxL : Int → List Int → Int
  | m, [] => m
  | m, x :: xs => maxL (if x > m then x else m) xs
def minL : Int → List Int → Int
  | m, [] => m
  | m, x :: xs => minL (if x < m then x else m) xs
theorem maxL_spec : ∀ (xs : List Int) (m : Int), (maxL m xs = m ∨ maxL m xs ∈ xs) ∧ m ≤ maxL m xs ∧ ∀ y ∈ xs, y ≤ maxL m xs
  | [], m => by simp [maxL]
  | x :: xs, m => by
    obtain ⟨h1, h2, h3⟩ := maxL_spec xs (if x > m then x else m)
    unfold maxL
    by_cases c : x > m
    · rw [if_pos c] at h1 h2 h3 ⊢
      refine ⟨?_, by omega, fun y hy => ?_⟩
      · rcases h1 with h | h
        · right; rw [h]; exact List.mem_cons_self
        · right; exact List.mem_cons_of_mem _ h
      · rcases List.mem_cons.mp hy with rfl | hy
        · exact h2
        · exact h3 y hy
    · rw [if_neg c] at h1 h2 h3 ⊢
      refine ⟨?_, h2, fun y hy => ?_⟩
      · rcases h1 with h | h
        · left; exact h
        · right; exact List.mem_cons_of_mem _ h
      · rcases List.mem_cons.mp hy with rfl | hy
        · omega
        · exact h3 y hy
theorem minL_spec : ∀ (xs : List Int) (m : Int), (minL m xs = m ∨ minL m xs ∈ xs) ∧ minL m xs ≤ m ∧ ∀ y ∈ xs, minL m xs ≤ y
  | [], m => by simp [minL]
  | x :: xs, m => by
    obtain ⟨h1, h2, h3⟩ := minL_spec xs (if x < m then x else m)
    unfold minL
    by_cases c : x < m
    · rw [if_pos c] at h1 h2 h3 ⊢
      refine ⟨?_, by omega, fun y hy => ?_⟩
      · rcases h1 with h | h
        · right; rw [h]; exact List.mem_cons_self
        · right; exact List.mem_cons_of_mem _ h
      · rcases List.mem_cons.mp hy with rfl | hy
        · exact h2
        · exact h3 y hy
    · rw [if_neg c] at h1 h2 h3 ⊢
      refine ⟨?_, h2, fun y hy => ?_⟩
      · rcases h1 with h | h
        · left; exact h
        · right; exact List.mem_cons_of_mem _ h
      · rcases List.mem_cons.mp hy with rfl | hy
        · omega
        · exact h3 y hy
def bMaxD : D → D → Sto → Res D := fun d z S => match d with
  | .lst ds => (match intsOf ds with
    | some [] => .ok z S
    | some (x :: xs) => .ok (.int (maxL x xs)) S
    | none => .bad)
  | _ => .bad
def bMinD : D → D → Sto → Res D := fun d z S => match d with
  | .lst ds => (match intsOf ds with
    | some [] => .ok z S
    | some (x :: xs) => .ok (.int (minL x xs)) S
    | none => .bad)
  | _ => .bad
def dOp2 (f : D → D → Sto → Res D) (da db : DE) : DE := fun env S => (da env S).bind fun x S1 => (db env S1).bind fun y S2 => f x y S2
/-! ### list(range(..)), tuple(range(..)) -/
def dMkL (di : DA) : DR := fun env S => (di env S).bind fun ds S1 => .ok (.o (.l ds)) S1
def dMkT (di : DA) : DE := fun env S => (di env S).bind fun ds S1 => .ok (.tup ds) S1
theorem rg_rep {K : PySem.W.Frag} {G : Hp} {l : List Addr} (a b : Int) : RepL K G l (rangeD a b) (rgV a b) := by
  unfold rangeD rgV
  generalize List.range (b - a).toNat = r
  induction r with
  | nil => exact .nil
  | cons x xs ih => exact .cons (.int _) ih
theorem me_listRg1 {p p2 q : Pos} {da : DE} (hc : X.calm = true) (hg : Gl X "list") (hm : X.mg "list" = none) (hg2 : Gl X "range") (hm2 : X.mg "range" = none) (ha : PE X a (tV X.K da)) (hs : starEach [a] X.env = (false, eval a X.env) :: starEach [] X.env := by rfl)
    (na : starEach [.Call (.Name "range" p2) [a] [] q] X.env = (false, eval (.Call (.Name "range" p2) [a] [] q) X.env) :: starEach [] X.env := by rfl) : PE X (.Call (.Name "list" p) [.Call (.Name "range" p2) [a] [] q] [] pos) (tR X.K (dMkL (dRange1 da))) :=
  PE.imp (pe_listRg hc hg hm (prg_1 hg2 hm2 ha hs) na) fun σ H Q ⟨W, S, H0, env, ok, eo, d, S', h, q⟩ => by
    obtain ⟨ds, S1, h1, h2⟩ := bind_ok h
    cases h2
    obtain ⟨x, S1, h1, h2⟩ := bind_ok h1
    refine ⟨W, S, H0, env, ok, eo, x, S1, h1, fun W1 H1 v e1 o1 r1 => ?_⟩
    split at h2
    case h_2 => cases h2
    rename_i n
    split at h2
    case isFalse => cases h2
    rename_i hn
    cases h2
    cases r1
    refine ⟨n, rfl, ⟨by omega, by omega, by omega, by omega, by omega⟩, fun p hp => ?_⟩
    obtain ⟨e2, o2, r2⟩ := obj_new (x := .l _) o1 hp (.l (rg_rep 0 n))
    exact q _ _ _ (e1.trans e2) o2 (r2.back fun a h => e1.fresh h)
/-! ### {} -/
def dNewK : DR := fun _ S => .ok (.o (.k [] [])) S
def dNewT : DR := fun _ S => .ok (.o (.t [] [])) S
/-! ### x[i] = v, x a slot's list -/
def dIxL (ds : List D) (i : Int) : Option Nat := if 0 ≤ i then (if i.toNat < ds.length then some i.toNat else none) else if -(ds.length : Int) ≤ i then some (i + ds.length).toNat else none
def fPut (i v : D) : List D → Option (List D) := fun ds => match i with
  | .int k => (dIxL ds k).map fun j => ds.set j v
  | _ => none
def dPutL (i : Nat) (di dv : DE) : DS := fun env S => match dv env S with
  | .ok v S1 => if listSlot i env S1 = true then (match di env S1 with
    | .ok k S2 => mutL i (fPut k v) env S2
    | .xn _ _ _ => .bad
    | .bad => .bad) else .bad
  | .xn _ _ _ => .bad
  | .bad => .bad
theorem dIxL_ix {K : PySem.W.Frag} {G : Hp} {l : List Addr} {ds : List D} {xs : List V} {i : Int} {j : Nat} (r : RepL K G l ds xs) (h : dIxL ds i = some j) : ixN xs.length i = some j := by
  have hl := r.length
  unfold dIxL at h
  unfold ixN
  split at h
  · rename_i c
    split at h
    case isFalse => cases h
    rename_i c2
    cases h
    rw [if_pos c, if_pos (by omega)]
  · rename_i c
    split at h
    case isFalse => cases h
    rename_i c2
    cases h
    rw [if_neg c, if_pos (by omega), hl]
theorem ms_putL (i : Nat) {x : Str} {ix : Expr} {p1 p2 : Pos} {di dv : DE} (hv : PE X e (tV X.K dv)) (hi : PE X ix (tV X.K di)) (hN : X.N[i]? = some x := by rfl) (hvis : Vis X.env.scope x := by first | exact Or.inl rfl | exact Or.inr (Or.inl rfl) | exact Or.inr (Or.inr rfl)) (hd : (x == ("__debug__" : Str)) = false := by decide)
    (hcd : (x == ("__classdict__" : Str)) = false := by decide) (ha : ∀ v, assign (.Subscript (.Name x p1) ix p2) X.env v = (do
      let ov ← holding [v] (eval (.Name x p1) X.env)
      let iv ← holding [v, ov] (eval ix X.env)
      standAt p2
      holding [v, ov, iv] (setItem ov iv v)
      release [v, ov, iv] []) := by intro _; rfl)
    (hs : swapsWithSole [.Subscript (.Name x p1) ix p2] e pos.line X.env = pure false := by rfl) (hw : swappedStores [.Subscript (.Name x p1) ix p2] e X.env = pure none := by rfl)
    (h1 : (assignEach [.Subscript (.Name x p1) ix p2] X.env).map (·.2) = [assign (.Subscript (.Name x p1) ix p2) X.env] := by rfl) :
    PS X (.Assign [.Subscript (.Name x p1) ix p2] e pos) (tS X.K EX (dPutL i di dv)) := PS.imp (ps_asg hv (pg_sub (pe_var hN hvis hd hcd) hi set_list ha) hs hw h1) fun D σ H ⟨W0, H0, W, S, env, s, q⟩ => by
  unfold dPutL at q
  cases hv : dv env S with
  | xn c x S1 => rw [hv] at q; exact q.elim
  | bad => rw [hv] at q; exact q.elim
  | ok v S1 =>
    rw [hv] at q
    refine ⟨W, S, H0, env, s.ok, s.env, v, S1, hv, fun W1 H1 u e1 o1 r1 => ?_⟩
    have q : OutOk X.K EX W0 H0 W D (if listSlot i env S1 = true then (match di env S1 with
      | .ok k S2 => mutL i (fPut k v) env S2
      | .xn _ _ _ => .bad
      | .bad => .bad) else .bad) := q
    split at q
    case isFalse => exact q.elim
    rename_i hl
    have s1 := s.step e1 o1
    obtain ⟨p, xs, g1, g2⟩ := list_slot o1 s1.env hl
    refine ⟨.ref p, g1, ?_⟩
    cases hk : di env S1 with
    | xn c x S1 => rw [hk] at q; exact q.elim
    | bad => rw [hk] at q; exact q.elim
    | ok k S2 =>
      rw [hk] at q
      refine ⟨W1, S1, H0, env, o1, s1.env, k, S2, hk, fun W2 H2 y e2 o2 r2 => ?_⟩
      obtain ⟨p', ds, xs', ds', k1, k2, k3, k4, k5⟩ := mut_of (s1.step e2 o2) (e1.trans e2).gr q
      rw [g1] at k1
      cases k1
      unfold fPut at k4
      split at k4
      case h_2 => cases k4
      rename_i n
      obtain ⟨j, hj, rfl⟩ := Option.map_eq_some_iff.mp k4
      cases r2
      exact ⟨p, xs', n, j, rfl, rfl, k2, dIxL_ix k3 hj, k5 _ (k3.set (r1.ext e2) j)⟩
/-! ### x[k] = v, x a slot's own dict -/
def dictSlot (i : Nat) (env : Envm) : Bool := match env[i]? with
  | some (.ow (.k _ _)) => true
  | some (.ow (.t _ _)) => true
  | _ => false
def putO (k v : D) : O → Option O
  | .k ks ds => (MP.keyOf k).bind fun q => if ks.length < 100000 then some (.k (putKs ks q) (putDs ks ds q v)) else none
  | .t ks ds => (MP.keysOf k).bind fun q => if ks.length < 100000 then some (.t (putKs ks q) (putDs ks ds q v)) else none
  | _ => none
def dPutD (i : Nat) (dk dv : DE) : DS := fun env S => match dv env S with
  | .ok v S1 => (match dk env S1 with
    | .ok k S2 => (match env[i]? with
      | some (.ow o) => (match putO k v o with
        | some o' => .nx (env.set i (.ow o')) S2
        | none => .bad)
      | _ => .bad)
    | .xn _ _ _ => .bad
    | .bad => .bad)
  | .xn _ _ _ => .bad
  | .bad => .bad
end
end MP

namespace MP
open PySem PySem.Spec PyProof.Rows L2
variable {EX : L2.XK}
/-! ### the defs of a text, one table -/
structure FD where
  x : Str
  m : Nat
  k : Nat
  b : Calls → DS
def startE (k : Nat) (ds : List D) : Envm := ds.map Sl.va ++ List.replicate (k - ds.length) .no
def finO : Out → Res R
  | .nx _ S => .ok (.v .non) S
  | .rt r S => .ok r S
  | .xn c x S => .xn c x S
  | _ => .bad
def callF (C : Calls) (d : FD) (ds : List D) (S : Sto) : Res R := if ds.length = d.m then finO (d.b C (startE d.k ds) S) else .bad
abbrev Tb := Nat → Option FD
def callN (B : Tb) : Nat → Calls
  | 0 => fun _ _ _ => .bad
  | n + 1 => fun f ds S => match B f with
    | some d => callF (callN B n) d ds S
    | none => .bad
theorem callN_eq {B : Tb} {n f : Nat} {d : FD} {ds : List D} {S : Sto} (h : B f = some d) : callN B (n + 1) f ds S = callF (callN B n) d ds S := by
  show (match B f with
    | some d => callF (callN B n) d ds S
    | none => .bad) = _
  rw [h]
def tabOf (B : Tb) : Nat → Option (Str × Nat) := fun f => (B f).map fun d => (d.x, d.m)
theorem start_ok {K : PySem.W.Frag} {W : Wd} {S : Sto} {H : Hp} {ds : List D} {vs : List V} {N : List Str} (r : RepL K W.G W.r ds vs) : EnvOk K W H H (startE N.length ds) (L2.start N vs) := by
  have hl := r.length
  have e1 : (startE N.length ds).length = (L2.start N vs).length := by
    unfold startE L2.start
    simp [hl]
  refine ⟨e1, fun i s o h1 h2 => ?_, fun i j x y a h1 h2 h3 h4 => ?_⟩
  · unfold startE at h1
    unfold L2.start at h2
    by_cases hi : i < ds.length
    · rw [List.getElem?_append_left (by simpa using hi), List.getElem?_map] at h1
      rw [List.getElem?_append_left (by rw [List.length_map]; omega), List.getElem?_map] at h2
      obtain ⟨d, g1, rfl⟩ := Option.map_eq_some_iff.mp h1
      obtain ⟨v, g2, g3⟩ := r.get g1
      rw [g2] at h2
      cases h2
      exact ⟨v, rfl, g3⟩
    · rw [List.getElem?_append_right (by simpa using hi)] at h1
      rw [List.getElem?_replicate] at h1
      split at h1
      · cases h1; trivial
      · cases h1
  · unfold startE at h1
    by_cases hi : i < ds.length
    · rw [List.getElem?_append_left (by simpa using hi), List.getElem?_map] at h1
      obtain ⟨d, g1, g2⟩ := Option.map_eq_some_iff.mp h1
      cases g2
    · rw [List.getElem?_append_right (by simpa using hi)] at h1
      rw [List.getElem?_replicate] at h1
      split at h1 <;> cases h1
abbrev XF (P : Program) (w : World) (K : PySem.W.Frag) (mg : Str → Option Value) (base : Heap) (N : List Str) (qual : Str) (scope : Scope) (f : Addr) (cdv : Value) (A : Around) (outer : List Env) (s : Shared) (H : Hp) (E : XK) : Cx := cxOf (L2.CX P w) P w K mg base N qual scope f cdv A outer s H E
section
variable {P : Program} {w : World} {K : PySem.W.Frag} {mg : Str → Option Value} {base : Heap} {B : Tb}
theorem callN_some {n i : Nat} {d : FD} {ds : List D} {S : Sto} {r : Res R} (hi : B i = some d) (h : callN B (n + 1) i ds S = r) (hr : r ≠ .bad) : ds.length = d.m ∧ finO (d.b (callN B n) (startE d.k ds) S) = r := by
  rw [callN_eq hi] at h
  unfold callF at h
  split at h
  · rename_i hl
    exact ⟨hl, h⟩
  · exact absurd h.symm hr
theorem fn_step {n i : Nat} {d : FD} {qual x : Str} {params : Arguments} {body : List Stmt} {scope : Scope} {f : Addr} {fd : FuncData} {N ps : List Str} (F : FunD K x qual params body scope [] [] f fd) (S : FnScope N ps scope) (hi : B i = some d) (hm : ps.length = d.m) (hk : N.length = d.k)
    (hb : ∀ (cdv : Value) (A : Around) (outer : List Env) (s : Shared) (H : Hp) (E : XK), (A.deeper (envOfC qual scope s.heap.objs.size f cdv)).guards = some [] → Room (n + 3) (A.deeper (envOfC qual scope s.heap.objs.size f cdv)) → PSs (XF P w K mg base N qual scope f cdv A outer s H E) body (tS K E (d.b (callN B n)))) :
    FnG P w K mg base (L2.CX P w) (n + 1 + 3) f fd ps (spC K (callN B (n + 1)) i d.m) := by
  refine fnG_of (k := n + 3) F S (fun vs H Q E h => h.1.trans hm.symm) fun cdv A outer s H vs Q E gd hr h => ⟨tS K E (d.b (callN B n)), hb cdv A outer s H E gd hr, ?_⟩
  obtain ⟨hl, W, S0, ds, ok, rep, h⟩ := h
  have e0 := start_ok (S := S0) (H := H) (N := N) rep
  rw [hk] at e0
  refine ⟨W, H, W, S0, startE d.k ds, ⟨Ext.refl _ _, ok, e0⟩, ?_⟩
  rcases h with ⟨r, S', hc, q⟩ | ⟨c, x, S', hc, q⟩
  · obtain ⟨_, hc⟩ := callN_some hi hc (fun z => nomatch z)
    cases ho : d.b (callN B n) (startE d.k ds) S0 with
    | nx e S1 =>
      rw [ho] at hc
      cases hc
      exact fun W1 H1 σ s1 _ => q W1 H1 .non s1.ext s1.ok .non
    | rt r1 S1 =>
      rw [ho] at hc
      cases hc
      exact fun W1 H1 v e1 o1 r1 => q W1 H1 v e1 o1 r1
    | xn c x S1 => rw [ho] at hc; cases hc
    | bk e S1 => rw [ho] at hc; cases hc
    | ct e S1 => rw [ho] at hc; cases hc
    | bad => rw [ho] at hc; cases hc
  · obtain ⟨_, hc⟩ := callN_some hi hc (fun z => nomatch z)
    cases ho : d.b (callN B n) (startE d.k ds) S0 with
    | nx e S1 => rw [ho] at hc; cases hc
    | rt r1 S1 => rw [ho] at hc; cases hc
    | xn c x S1 =>
      rw [ho] at hc
      cases hc
      exact fun W1 H1 cls dd e1 o1 r1 => q W1 H1 cls dd e1 o1 r1
    | bk e S1 => rw [ho] at hc; cases hc
    | ct e S1 => rw [ho] at hc; cases hc
    | bad => rw [ho] at hc; cases hc
theorem at_of {K : PySem.W.Frag} {x qual : Str} {params : Arguments} {body : List Stmt} {scope : Scope} {dvs : List V} {kws : List (Str × V)} {f : Addr} {fd : FuncData} {ps : List Str} (F : FunD K x qual params body scope dvs kws f fd) (h : params.args.map (·.arg) = ps) : At K f fd ps := by
  obtain ⟨oc, od, dV, kV, doc, pm, an, cdv, ct, osl, rfl, lk, _⟩ := F.ex
  exact ⟨⟨oc, od, osl, lk⟩, h⟩
/-- a def of the text by its place in the table, by name, with its address -/
structure DefOk (P : Program) (w : World) (K : PySem.W.Frag) (mg : Str → Option Value) (base : Heap) (B : Tb) (i : Nat) (d : FD) : Prop where
  ex : ∃ (a : Addr) (fd : FuncData) (ps : List Str), mg d.x = some (.ref a) ∧ PySem.W.keepIn K (.ref a) = true ∧ Binds K fd ps [] ∧ ps.length = d.m ∧ At K a fd ps ∧
    ∀ n, (∀ A, Room (n + 3) A → A.guards = some [] → Fx P w K mg base A n (tabOf B) (callN B n)) → FnG P w K mg base (L2.CX P w) (n + 1 + 3) a fd ps (spC K (callN B (n + 1)) i d.m)
theorem len_ok {n : Nat} {f : Nat} {x : Str} {m : Nat} {ds : List D} {S : Sto} {r : Res R} (h1 : tabOf B f = some (x, m)) (h2 : callN B n f ds S = r) (hr : r ≠ .bad) : ds.length = m := by
  unfold tabOf at h1
  obtain ⟨d, g1, g2⟩ := Option.map_eq_some_iff.mp h1
  cases g2
  cases n with
  | zero => exact absurd h2.symm hr
  | succ n => exact (callN_some g1 h2 hr).1
theorem all_ok (h : ∀ i d, B i = some d → DefOk P w K mg base B i d) : ∀ n A, Room (n + 3) A → A.guards = some [] → Fx P w K mg base A n (tabOf B) (callN B n) := by
  intro n
  induction n with
  | zero =>
    intro A hr gd
    refine ⟨hr, gd, fun f x m ds S r S' h1 h2 => len_ok h1 h2 (fun z => nomatch z), fun f x m ds S c y S' h1 h2 => len_ok h1 h2 (fun z => nomatch z), fun f x m hT => ?_⟩
    unfold tabOf at hT
    obtain ⟨d, g1, g2⟩ := Option.map_eq_some_iff.mp hT
    cases g2
    obtain ⟨a, fd, ps, h1, h2, h3, h4, h6, h5⟩ := (h f d g1).ex
    exact ⟨a, fd, ps, h1, h2, h3, h4, ⟨fun vs H Q E q => (q.1.trans h4.symm).symm, fun E Q H s A outer ar vs us _ _ ⟨_, W, S, ds, _, _, z⟩ _ _ _ => by
      rcases z with ⟨_, _, z, _⟩ | ⟨_, _, _, z, _⟩ <;> cases z⟩, h6⟩
  | succ n ih =>
    intro A hr gd
    refine ⟨hr, gd, fun f x m ds S r S' h1 h2 => len_ok h1 h2 (fun z => nomatch z), fun f x m ds S c y S' h1 h2 => len_ok h1 h2 (fun z => nomatch z), fun f x m hT => ?_⟩
    unfold tabOf at hT
    obtain ⟨d, g1, g2⟩ := Option.map_eq_some_iff.mp hT
    cases g2
    obtain ⟨a, fd, ps, h1, h2, h3, h4, h6, h5⟩ := (h f d g1).ex
    exact ⟨a, fd, ps, h1, h2, h3, h4, h5 n ih, h6⟩
end
/-- where nothing is raised -/
theorem fn_down {P : Program} {w : World} {K : PySem.W.Frag} {mg : Str → Option Value} {base : Heap} {k : Nat} {f : Addr} {fd : FuncData} {ps : List Str} {sp : Sp} (F : FnG P w K mg base (L2.CX P w) k f fd ps sp) : FnG P w K mg base CX0 k f fd ps (fun vs H Q _ => sp vs H Q E0) :=
  ⟨fun vs H Q E h => F.ln vs H Q E0 h, fun E Q H s A outer ar vs us gd rm h hv hb he => codeAny_mono (F.go E0 Q H s A outer ar vs us gd rm h hv hb he) fun r s' hq => by
    cases r with
    | ok fl => cases fl <;> exact hq
    | error e =>
      obtain ⟨_, _, _, _, _, _, _, _, _, _, _, _, z⟩ := hq
      exact z.elim⟩
theorem units_of {n : Nat} {A : Around} (r : Room n A) : A.units + 200 < cLine := by have := r.un; omega
theorem po_nox {P : Program} {w : World} {K : PySem.W.Frag} {mg : Str → Option Value} {base : Heap} {N : List Str} {qual : Str} {scope : Scope} {f : Addr} {cdv : Value} {A : Around} {outer : List Env} {s : Shared} {H : Hp} {E : XK} :
    PassesOwn (model P w) (XF P w K mg base N qual scope f cdv A outer s H E).A (XF P w K mg base N qual scope f cdv A outer s H E).env (XF P w K mg base N qual scope f cdv A outer s H E).xe := PassesOwn.leaving
/-- a new object in an argument is shared -/
def shE (dr : DR) : DE := fun env S => match dr env S with
  | .ok (.o x) S1 => .ok (.loc S1.length) (S1 ++ [x])
  | .ok (.v d) S1 => .ok d S1
  | .xn c x S1 => .xn c x S1
  | .bad => .bad
/-! ### a comprehension's scope, checked -/
def blkB (N : List Str) (sc scope : Scope) (own : List (Str × Nat)) : Bool :=
  (match scope.kind with | .function => true | _ => false) && scope.names.all (fun y => scope.names.lookup y.1 == some y.2) && own.all (fun p => N[p.2]? == some p.1) &&
  scope.names.all (fun y => y.2 != .free || (sc.names.lookup y.1 == some .cell || sc.names.lookup y.1 == some .free)) &&
  scope.names.all (fun y => !(y.2 == .local || y.2 == .cell) || (own.any (fun p => p.1 == y.1) || !N.contains y.1))
theorem blk_of {N : List Str} {sc scope : Scope} {own : List (Str × Nat)} (h : blkB N sc scope own = true) : BlkOk N sc scope own := by
  unfold blkB at h
  simp only [Bool.and_eq_true, List.all_eq_true] at h
  obtain ⟨⟨⟨⟨h1, h2⟩, h3⟩, h4⟩, h5⟩ := h
  refine ⟨?_, fun y hy => ?_, fun p hp => ?_, fun y hy e => ?_, fun y hy e => ?_⟩
  · cases hk : scope.kind <;> rw [hk] at h1 <;> first | rfl | cases h1
  · simpa using h2 y hy
  · simpa using h3 p hp
  · have := h4 y hy
    rw [e] at this
    simpa using this
  · have := h5 y hy
    rcases e with e | e <;> rw [e] at this <;> simpa using this
/-! ### the law -/
theorem law_sp {K : PySem.W.Frag} {C : Calls} {f : Nat} {ns : List Int} {H : Hp} {a : Addr} {E : XK} (h : ∃ S', C f [.scr ns] [] = .ok (.v (.bl true)) S') (hS : SqL K H a (ns.map V.int)) : spC K C f 1 [.ref a] H (fun v _ => v = .bl true) E := by
  obtain ⟨S', h⟩ := h
  refine ⟨rfl, ⟨H, []⟩, [], [.scr ns], ⟨SubH.refl _, List.nodup_nil, rfl, fun n x e => by simp at e, fun b hb => by cases hb⟩, .cons (.scr hS) .nil, .inl ⟨.v (.bl true), S', h, fun W' H' v _ _ r => ?_⟩⟩
  cases (show Rep K W'.G W'.r (.bl true) v from r)
  rfl
end MP

namespace MP
open PySem PySem.Spec PyProof.Rows L2
variable {EX : L2.XK}
section
variable {X : Cx} {e a b : Expr} {pos : Pos}
/-! ### dict(zip(ks, vs)) of two lists -/
def dDictZip (da db : DE) : DR := fun env S => (da env S).bind fun x S1 => (db env S1).bind fun y S2 => match x, y with
  | .lst ks, .lst vs => (match keysOfL ks with
    | some qs => .ok (.o (.k (putAll (qs.zip vs) [] []).1 (putAll (qs.zip vs) [] []).2)) S2
    | none => .bad)
  | _, _ => .bad
end
end MP

namespace MP
open PySem PySem.Spec PyProof.Rows L2
variable {EX : L2.XK}
/-! ### enumerate(x), x a tuple -/
abbrev enOb (it : Addr) : Obj := { cls := .type "enumerate", data := .fields #[.none, .bool false, .ref it, rawInt 0, .none, .none] }
/-- the tuple at a, each item in a new pair -/
def IteT (K : PySem.W.Frag) (a : Addr) : It :=
  ⟨fun i H => ∃ (xs : List V) (x : V), SqT K H a xs ∧ xs[i]? = some x, fun i H v H' => ∃ T x, v = .ref T ∧ H T = none ∧ H' = upd H T (.tup [.int (i : Nat), x]) ∧ ∀ xs, SqT K H a xs → xs[i]? = some x, fun i H => ∃ xs : List V, SqT K H a xs ∧ xs.length ≤ i⟩
section
variable {X : Cx} {e a b : Expr} {pos : Pos}
/-! ### enumerate and zip as what is walked -/
def enumD : Nat → List D → List D
  | _, [] => []
  | i, d :: ds => .tup [.int (i : Nat), d] :: enumD (i + 1) ds
def zipD : List D → List D → List D
  | a :: as, b :: bs => .tup [a, b] :: zipD as bs
  | _, _ => []
theorem zipD_get : ∀ {as bs : List D} {i : Nat} {a b : D}, as[i]? = some a → bs[i]? = some b → (zipD as bs)[i]? = some (.tup [a, b])
  | _ :: _, _ :: _, 0, a, b, h, k => by simp at h k; subst h k; rfl
  | _ :: as, _ :: bs, i + 1, a, b, h, k => by
    exact zipD_get (as := as) (bs := bs) (i := i) (by simpa using h) (by simpa using k)
  | [], _, i, a, b, h, _ => by simp at h
  | _ :: _, [], i, a, b, _, k => by simp at k
theorem zipD_len : ∀ as bs : List D, (zipD as bs).length = min as.length bs.length
  | [], _ => by simp [zipD]
  | _ :: _, [] => by simp [zipD]
  | a :: as, b :: bs => by
    simp only [zipD, List.length_cons, zipD_len as bs]
    omega
def dEnum (de : DE) : DA := fun env S => (de env S).bind fun d S1 => match itemsOf d with
  | some ds => .ok (enumD 0 ds) S1
  | none => .bad
def dZip (da db : DE) : DA := fun env S => (da env S).bind fun x S1 => (db env S1).bind fun y S2 => match x, y with
  | .lst as, .lst bs => .ok (zipD as bs) S2
  | .tup as, .tup bs => .ok (zipD as bs) S2
  | _, _ => .bad
theorem pair_new {K : PySem.W.Frag} {W : Wd} {S : Sto} {H : Hp} {T : Addr} {x y : V} {a b : D} (ok : WOk K W S H) (h : H T = none) (ra : Rep K W.G W.r a x) (rb : Rep K W.G W.r b y) :
    ∃ W', Ext W H W' (upd H T (.tup [x, y])) ∧ WOk K W' S (upd H T (.tup [x, y])) ∧ Rep K W'.G W'.r (.tup [a, b]) (.ref T) := by
  obtain ⟨h1, h2, h3⟩ := tup_new ok h (.cons ra (.cons rb .nil))
  exact ⟨_, h1, h2, h3⟩
theorem walkZ {K : PySem.W.Frag} {a b : Addr} {xs ys : List V} {as bs : List D} {P : Wd → Hp → Prop} (h : ∀ W S H, WOk K W S H → P W H → SqL K H a xs ∧ RepL K W.G W.r as xs ∧ SqL K H b ys ∧ RepL K W.G W.r bs ys) (hl : as.length = xs.length) (hl2 : bs.length = ys.length) : WalkM K P (Itz K a b) (zipD as bs) := by
  refine ⟨fun i W S H hi ok p => ?_, fun W S H ok p => ?_, fun i W S H x H' hi ok p y => ?_⟩
  · rw [zipD_len] at hi
    obtain ⟨h1, _, h3, _⟩ := h W S H ok p
    exact ⟨xs, ys, xs[i]'(by omega), ys[i]'(by omega), h1, h3, List.getElem?_eq_getElem _, List.getElem?_eq_getElem _⟩
  · rw [zipD_len]
    obtain ⟨h1, _, h3, _⟩ := h W S H ok p
    exact ⟨xs, ys, h1, h3, by omega⟩
  · obtain ⟨h1, h2, h3, h4⟩ := h W S H ok p
    obtain ⟨T, v, u, rfl, y1, rfl, y2, y3⟩ := y
    obtain ⟨d, g1, g2⟩ := h2.getV (y2 xs h1)
    obtain ⟨d', g3, g4⟩ := h4.getV (y3 ys h3)
    obtain ⟨W', z1, z2, z3⟩ := pair_new ok y1 g2 g4
    exact ⟨W', _, zipD_get g1 g3, z1, z2, z3⟩
theorem walkZT {K : PySem.W.Frag} {a b : Addr} {xs ys : List V} {as bs : List D} {P : Wd → Hp → Prop} (h : ∀ W S H, WOk K W S H → P W H → SqT K H a xs ∧ RepL K W.G W.r as xs ∧ SqT K H b ys ∧ RepL K W.G W.r bs ys) (hl : as.length = xs.length) (hl2 : bs.length = ys.length) : WalkM K P (RZ.ItzT K a b) (zipD as bs) := by
  refine ⟨fun i W S H hi ok p => ?_, fun W S H ok p => ?_, fun i W S H x H' hi ok p y => ?_⟩
  · rw [zipD_len] at hi
    obtain ⟨h1, _, h3, _⟩ := h W S H ok p
    exact ⟨xs, ys, xs[i]'(by omega), ys[i]'(by omega), h1, h3, List.getElem?_eq_getElem _, List.getElem?_eq_getElem _⟩
  · rw [zipD_len]
    obtain ⟨h1, _, h3, _⟩ := h W S H ok p
    exact ⟨xs, ys, h1, h3, by omega⟩
  · obtain ⟨h1, h2, h3, h4⟩ := h W S H ok p
    obtain ⟨T, v, u, rfl, y1, rfl, y2, y3⟩ := y
    obtain ⟨d, g1, g2⟩ := h2.getV (y2 xs h1)
    obtain ⟨d', g3, g4⟩ := h4.getV (y3 ys h3)
    obtain ⟨W', z1, z2, z3⟩ := pair_new ok y1 g2 g4
    exact ⟨W', _, zipD_get g1 g3, z1, z2, z3⟩
theorem mi_zip {p pos tpos : Pos} {elts : List Expr} {kk : Nat} {da db : DE} (hg : Gl X "zip") (hm : X.mg "zip" = none) (ha : PE X a (tV X.K da)) (hb : PE X b (tV X.K db)) (hs : starEach [a, b] X.env = (false, eval a X.env) :: starEach [b] X.env := by rfl) (hs2 : starEach [b] X.env = (false, eval b X.env) :: starEach [] X.env := by rfl) (hpl : (backTo pos (starEach [b] X.env)).any (·.1) = false := by rfl) :
    PI X (.Tuple elts kk tpos) (.Call (.Name "zip" p) [a, b] [] pos) (iF X.K (dZip da db)) := PI.imp (RZ.pi_zipA hg hm (pa_cons ha (pa_cons hb pa_nil hs2) hs) hs hpl) fun σ H R ⟨W, S, H0, env, ok, eo, ds, S', h, q⟩ => by
  obtain ⟨x, S1, h1, h2⟩ := bind_ok h
  obtain ⟨y, S2, h3, h4⟩ := bind_ok h2
  refine ⟨W, S, H0, env, ok, eo, x, S1, h1, fun W1 H1 v e1 o1 r1 => ?_⟩
  refine ⟨W1, S1, H0, env, o1, eo.ext e1, y, S2, h3, fun W2 H2 u e2 o2 r2 => ?_⟩
  have r1 := r1.ext e2
  split at h4
  · cases h4
    cases r1 with
    | @lst p1 xs _ c1 c2 =>
      cases r2 with
      | @lst p2 ys _ c3 c4 =>
        exact ⟨p1, p2, xs, ys, rfl, .inl ⟨SqL.of (o2.sub _ _ c1), SqL.of (o2.sub _ _ c3), q W2 H2 _ (e1.trans e2) o2 (walkZ (fun W3 S3 H3 o3 p => ⟨SqL.of (o3.sub _ _ (p.g _ _ c1)), c2.mono p.g p.r, SqL.of (o3.sub _ _ (p.g _ _ c3)), c4.mono p.g p.r⟩) c2.length c4.length)⟩⟩
  · cases h4
    cases r1 with
    | @tup p1 xs _ c1 c2 =>
      cases r2 with
      | @tup p2 ys _ c3 c4 =>
        exact ⟨p1, p2, xs, ys, rfl, .inr ⟨SqT.of (o2.sub _ _ c1), SqT.of (o2.sub _ _ c3), q W2 H2 _ (e1.trans e2) o2 (walkZT (fun W3 S3 H3 o3 p => ⟨SqT.of (o3.sub _ _ (p.g _ _ c1)), c2.mono p.g p.r, SqT.of (o3.sub _ _ (p.g _ _ c3)), c4.mono p.g p.r⟩) c2.length c4.length)⟩⟩
  · cases h4
end
end MP

namespace MP
open PySem PySem.Spec PyProof.Rows L2
variable {EX : L2.XK}
/-! ### a tuple that stands somewhere -/
/-! ### a locked dict walked -/
def keyD : Key → D
  | .inl i => .int i
  | .inr x => .str x
def dKeys (de : DE) : DA := fun env S => (de env S).bind fun d S1 => match d with
  | .fk ks _ => .ok (ks.map keyD) S1
  | .ft ks _ => .ok (ks.map fun k => .tup (k.map keyD)) S1
  | _ => .bad
section
variable {X : Cx} {tg : Expr}
end
/-! ### an expression while a slot's own dict is locked -/
def lockO : O → Option O
  | .k ks ds => some (.fk ks ds)
  | .t ks ds => some (.ft ks ds)
  | _ => none
def lockE (i : Nat) (env : Envm) : Option Envm := match env[i]? with
  | some (.ow x) => (lockO x).map fun y => env.set i (.ow y)
  | _ => none
def dLk (i : Nat) (dr : DR) : DR := fun env S => match lockE i env with
  | some e => dr e S
  | none => .bad
/-- a slot's own object is laid anew -/
theorem WOk.upd {K : PySem.W.Frag} {W : Wd} {S : Sto} {H : Hp} {a : Addr} {u : HO} (ok : WOk K W S H) (n : W.G a = none) (m : a ∉ W.r) : WOk K W S (upd H a u) := by
  refine ⟨fun b o e => ?_, ok.nd, ok.len, fun k y e => ?_, ok.ng⟩
  · rw [upd_ne (ne_of_none e n)]
    exact ok.sub b o e
  · obtain ⟨c, v, c1, c2, c3⟩ := ok.cell k y e
    have nc : c ≠ a := fun z => m (by rw [← z]; exact List.mem_of_getElem? c1)
    exact ⟨c, v, c1, by rw [upd_ne nc]; exact c2, c3⟩
theorem EnvOk.swap {K : PySem.W.Frag} {W : Wd} {H H0 : Hp} {env : Envm} {σ : L2.St} {i : Nat} {x y : O} {a : Addr} {u' : HO} (eo : EnvOk K W H H0 env σ) (h : env[i]? = some (.ow x)) (h2 : σ[i]? = some (some (.ref a))) (q : RepO K W.G W.r y u') (n : W.G a = none) (m : a ∉ W.r) (z0 : H0 a = none) : EnvOk K W (upd H a u') H0 (env.set i (.ow y)) σ := by
  have hi := (List.getElem?_eq_some_iff.mp h).1
  refine ⟨by rw [List.length_set]; exact eo.len, fun j t o e1 e2 => ?_, fun j k y1 y2 b e1 e2 e3 e4 => ?_⟩
  · by_cases hj : i = j
    · subst hj
      rw [List.getElem?_set_self hi] at e1
      cases e1
      rw [h2] at e2
      cases e2
      exact ⟨a, u', rfl, upd_same, q, n, m, z0⟩
    · rw [List.getElem?_set_ne hj] at e1
      have z := eo.sl j t o e1 e2
      cases t with
      | no => trivial
      | va d => exact z
      | ow y =>
        obtain ⟨b, u', z1, z2, z3, z4, z5, z6⟩ := z
        have nb : b ≠ a := fun e => by
          subst e
          subst z1
          exact hj (eo.dis i j x y b h e1 h2 e2)
        exact ⟨b, u', z1, by rw [upd_ne nb]; exact z2, z3, z4, z5, z6⟩
  · have f : ∀ (p : Nat) (z : O), (env.set i (.ow y))[p]? = some (.ow z) → ∃ z', env[p]? = some (.ow z') := fun p z hm => by
      by_cases c : i = p
      · subst c
        exact ⟨x, h⟩
      · rw [List.getElem?_set_ne c] at hm
        exact ⟨z, hm⟩
    obtain ⟨z1, f1⟩ := f j _ e1
    obtain ⟨z2, f2⟩ := f k _ e2
    exact eo.dis j k z1 z2 b f1 f2 e3 e4
section
variable {X : Cx} {e : Expr}
end
end MP

namespace MP
open PySem PySem.Spec PyProof.Rows L2
variable {EX : L2.XK}
/-! ### x[i], x[j] = u, v -/
def dPut2 (i : Nat) (da db du dv : DE) : DS := fun env S => match du env S with
  | .ok u S1 => (match dv env S1 with
    | .ok v S2 => dSeqS (dPutL i da (dC u)) (dPutL i db (dC v)) env S2
    | .xn _ _ _ => .bad
    | .bad => .bad)
  | .xn _ _ _ => .bad
  | .bad => .bad
section
variable {X : Cx} {a b e1 e2 : Expr} {pos : Pos}
end
/-! ### chains of three comparisons -/
def tChain3 (r r1 r2 : R2) (ta tb tc td : TE) : TE := fun σ H Q => ta σ H fun x H1 => tb σ H1 fun y H2 => r x y H2 fun z H3 => ∃ k, z = .bl k ∧
  (if k = true then tc σ H3 fun w H4 => r1 y w H4 fun z' H5 => ∃ k', z' = .bl k' ∧ (if k' = true then td σ H5 fun t H6 => r2 w t H6 fun z2 H7 => ∃ k2, z2 = .bl k2 ∧ Q (.bl k2) H7 else Q (.bl false) H5) else Q (.bl false) H3)
section
variable {X : Cx} {a b c d : Expr} {ta tb tc td : TE} {pos : Pos}
theorem pe_chain3 {op op1 op2 : CmpOp} {r r1 r2 : R2} (ho : OpR X (compareOp op) r) (ho1 : OpR X (compareOp op1) r1) (ho2 : OpR X (compareOp op2) r2) (ha : PE X a ta) (hb : PE X b tb) (hc : PE X c tc) (hd : PE X d td)
    (hm : lastMarks [op, op1, op2] [b, c, d] = false := by with_unfolding_all rfl) : PE X (.Compare a [op, op1, op2] [b, c, d] pos) (tChain3 r r1 r2 ta tb tc td) := by
  refine ⟨fun pins s σ H Q I h => ?_⟩
  refine Compare_chain (thn (ha.run pins s σ H _ I h) fun v s1 ⟨x, H1, I1, e1, q1⟩ => chain_link (thn (hb.run pins s1 σ H1 _ I1 q1) fun u s2 ⟨y, H2, I2, e2, q2⟩ =>
    thn (ho pins s2 σ H2 x y v u _ I2 e1 e2 q2) fun m s3 ⟨z, H3, I3, e3, k, ek, q3⟩ => ?_)) hm
  subst ek
  cases e3
  refine wpAny_truthy_bool ?_
  cases k with
  | false => exact ite_ff ⟨.bl false, H3, I3, rfl, q3⟩
  | true =>
    refine ite_tt (chain_link (thn (hc.run pins s3 σ H3 _ I3 q3) fun w s4 ⟨y', H4, I4, e4, q4⟩ => thn (ho1 pins s4 σ H4 y y' u w _ I4 e2 e4 q4) fun m2 s5 ⟨z', H5, I5, e5, k', ek', q5⟩ => ?_))
    subst ek'
    cases e5
    refine wpAny_truthy_bool ?_
    cases k' with
    | false => exact ite_ff ⟨.bl false, H5, I5, rfl, q5⟩
    | true =>
      refine ite_tt (chain_last (thn (hd.run pins s5 σ H5 _ I5 q5) fun t s6 ⟨y2, H6, I6, e6, q6⟩ => thn (ho2 pins s6 σ H6 y' y2 w t _ I6 e4 e6 q6) fun m3 s7 ⟨z2, H7, I7, e7, k2, ek2, q7⟩ => ?_))
      subst ek2
      exact ⟨_, H7, I7, e7, q7⟩
theorem pt_chain3 {op op1 op2 : CmpOp} {r r1 r2 : R2} (ho : OpR X (compareOp op) r) (ho1 : OpR X (compareOp op1) r1) (ho2 : OpR X (compareOp op2) r2) (ha : PE X a ta) (hb : PE X b tb) (hc : PE X c tc) (hd : PE X d td)
    (hm : lastMarks [op, op1, op2] [b, c, d] = false := by with_unfolding_all rfl) : PT X (.Compare a [op, op1, op2] [b, c, d] pos) (tTest (tChain3 r r1 r2 ta tb tc td)) := by
  refine ⟨fun pins s σ H Q I h => ?_⟩
  refine isTrue_chain (thn (ha.run pins s σ H _ I h) fun v s1 ⟨x, H1, I1, e1, q1⟩ => test_link (thn (hb.run pins s1 σ H1 _ I1 q1) fun u s2 ⟨y, H2, I2, e2, q2⟩ =>
    thn (ho pins s2 σ H2 x y v u _ I2 e1 e2 q2) fun m s3 ⟨z, H3, I3, e3, k, ek, q3⟩ => ?_)) hm
  subst ek
  cases e3
  refine wpAny_truthy_bool ?_
  cases k with
  | false =>
    obtain ⟨k0, e0, q0⟩ := q3
    cases e0
    exact ite_ff ⟨H3, I3, q0⟩
  | true =>
    refine ite_tt (test_link (thn (hc.run pins s3 σ H3 _ I3 q3) fun w s4 ⟨y', H4, I4, e4, q4⟩ => thn (ho1 pins s4 σ H4 y y' u w _ I4 e2 e4 q4) fun m2 s5 ⟨z', H5, I5, e5, k', ek', q5⟩ => ?_))
    subst ek'
    cases e5
    refine wpAny_truthy_bool ?_
    cases k' with
    | false =>
      obtain ⟨k0, e0, q0⟩ := q5
      cases e0
      exact ite_ff ⟨H5, I5, q0⟩
    | true =>
      refine ite_tt (test_last (thn (hd.run pins s5 σ H5 _ I5 q5) fun t s6 ⟨y2, H6, I6, e6, q6⟩ => thn (ho2 pins s6 σ H6 y' y2 w t _ I6 e4 e6 q6) fun m3 s7 ⟨z2, H7, I7, e7, k2, ek2, q7⟩ => ?_))
      subst ek2
      cases e7
      obtain ⟨k0, e0, q0⟩ := q7
      cases e0
      exact wpAny_truthy_bool ⟨H7, I7, q0⟩
def dChain3 (f f1 f2 : D → D → Sto → Res R) (da db dc dd : DE) : DE := fun env S => (da env S).bind fun x S1 => (db env S1).bind fun y S2 => (f x y S2).bind fun r S3 => match r with
  | .v (.bl true) => (dc env S3).bind fun z S4 => (f1 y z S4).bind fun r1 S5 => (match r1 with
    | .v (.bl true) => (dd env S5).bind fun t S6 => (f2 z t S6).bind fun r2 S7 => (match r2 with
      | .v (.bl k) => .ok (.bl k) S7
      | _ => .bad)
    | .v (.bl false) => .ok (.bl false) S5
    | _ => .bad)
  | .v (.bl false) => .ok (.bl false) S3
  | _ => .bad
theorem chain3_of {K : PySem.W.Frag} {f f1 f2 : D → D → Sto → Res R} {da db dc dd : DE} {σ : L2.St} {H : Hp} {Q : VK} (h : tV K (dChain3 f f1 f2 da db dc dd) σ H Q) : tChain3 (rO K f) (rO K f1) (rO K f2) (MP.tB K da) (MP.tB K db) (MP.tB K dc) (MP.tB K dd) σ H Q := by
  obtain ⟨W, S, H0, env, ok, eo, d, S', h, q⟩ := h
  obtain ⟨x, S1, h1, h⟩ := bind_ok h
  obtain ⟨y, S2, h2, h⟩ := bind_ok h
  obtain ⟨r, S3, h3, h⟩ := bind_ok h
  refine ⟨W, S, H0, env, ok, eo, x, S1, h1, fun W1 H1 v e1 o1 r1 => ?_⟩
  refine ⟨W1, S1, H0, env, o1, eo.ext e1, y, S2, h2, fun W2 H2 u e2 o2 r2 => ?_⟩
  refine ⟨W2, S2, x, y, r, S3, o2, r1.ext e2, r2, h3, fun W3 H3 z e3 o3 r3 => ?_⟩
  have E3 := (e1.trans e2).trans e3
  split at h
  · cases r3
    refine ⟨true, rfl, ?_⟩
    obtain ⟨w, S4, h4, h⟩ := bind_ok h
    obtain ⟨r', S5, h5, h⟩ := bind_ok h
    show (MP.tB K dc) σ H3 _
    refine ⟨W3, S3, H0, env, o3, ((eo.ext e1).ext e2).ext e3, w, S4, h4, fun W4 H4 w' e4 o4 rr4 => ?_⟩
    refine ⟨W4, S4, y, w, r', S5, o4, (r2.ext e3).ext e4, rr4, h5, fun W5 H5 t e5 o5 r5 => ?_⟩
    split at h
    · cases r5
      refine ⟨true, rfl, ?_⟩
      obtain ⟨m, S6, h6, h⟩ := bind_ok h
      obtain ⟨r2', S7, h7, h⟩ := bind_ok h
      show (MP.tB K dd) σ H5 _
      refine ⟨W5, S5, H0, env, o5, ((((eo.ext e1).ext e2).ext e3).ext e4).ext e5, m, S6, h6, fun W6 H6 m' e6 o6 rr6 => ?_⟩
      refine ⟨W6, S6, w, m, r2', S7, o6, (rr4.ext e5).ext e6, rr6, h7, fun W7 H7 t7 e7 o7 r7 => ?_⟩
      split at h
      · cases r7
        cases h
        exact ⟨_, rfl, q W7 H7 _ (((E3.trans e4).trans e5).trans (e6.trans e7)) o7 (.bl _)⟩
      · cases h
    · cases r5
      cases h
      exact ⟨false, rfl, q W5 H5 _ ((E3.trans e4).trans e5) o5 (.bl false)⟩
    · cases h
  · cases r3
    cases h
    exact ⟨false, rfl, q W3 H3 _ E3 o3 (.bl false)⟩
  · cases h
theorem me_chain3 {op op1 op2 : CmpOp} {f f1 f2 : D → D → Sto → Res R} {da db dc dd : DE} (ho : OpR X (compareOp op) (rO X.K f)) (ho1 : OpR X (compareOp op1) (rO X.K f1)) (ho2 : OpR X (compareOp op2) (rO X.K f2)) (ha : PE X a (MP.tB X.K da)) (hb : PE X b (MP.tB X.K db)) (hc : PE X c (MP.tB X.K dc)) (hd : PE X d (MP.tB X.K dd)) (hm : lastMarks [op, op1, op2] [b, c, d] = false := by rfl) : PE X (.Compare a [op, op1, op2] [b, c, d] pos) (tV X.K (dChain3 f f1 f2 da db dc dd)) :=
  PE.imp (pe_chain3 ho ho1 ho2 ha hb hc hd hm) fun _ _ _ h => chain3_of h
theorem mt_chain3 {op op1 op2 : CmpOp} {f f1 f2 : D → D → Sto → Res R} {da db dc dd : DE} (ho : OpR X (compareOp op) (rO X.K f)) (ho1 : OpR X (compareOp op1) (rO X.K f1)) (ho2 : OpR X (compareOp op2) (rO X.K f2)) (ha : PE X a (MP.tB X.K da)) (hb : PE X b (MP.tB X.K db)) (hc : PE X c (MP.tB X.K dc)) (hd : PE X d (MP.tB X.K dd)) (hm : lastMarks [op, op1, op2] [b, c, d] = false := by rfl) : PT X (.Compare a [op, op1, op2] [b, c, d] pos) (tT X.K (dB (dChain3 f f1 f2 da db dc dd))) :=
  PT.imp (pt_chain3 ho ho1 ho2 ha hb hc hd hm) fun σ H Q ⟨W, S, H0, env, ok, eo, d, S', h, q⟩ => by
    obtain ⟨x, S1, h1, h2⟩ := bind_ok h
    split at h2
    · injection h2 with h3 h4
      subst h3; subst h4
      refine chain3_of ⟨W, S, H0, env, ok, eo, _, _, h1, fun W1 H1 v e1 o1 r1 => ?_⟩
      cases r1
      exact ⟨_, rfl, q W1 H1 e1 o1⟩
    · cases h2
end
/-! ### min(xs), max(xs) of a list of numbers; x //= k -/
def bMin1 : List D → Sto → Res R := fun ds S => match ds with
  | [.lst xs] => (match intsOf xs with | some (n :: ns) => .ok (.v (.int (minL n ns))) S | _ => .bad)
  | _ => .bad
def bMax1 : List D → Sto → Res R := fun ds S => match ds with
  | [.lst xs] => (match intsOf xs with | some (n :: ns) => .ok (.v (.int (maxL n ns))) S | _ => .bad)
  | _ => .bad
section
variable {X : Cx}
def fIDiv : D → D → Sto → Res R := fun d e S => match d, e with
  | .int i, .int j => if 0 < j ∧ j < 1073741824 then .ok (.v (.int (i / j))) S else .bad
  | _, _ => .bad
end
end MP

namespace MP
open PySem PySem.Spec PyProof.Rows L2
variable {EX : L2.XK}
section
variable {X : Cx} {pos : Pos}
/-! ### names of the module that stand for a tuple, a number -/
/-! ### x = own.pop() -/
def dPop (i j : Nat) : DS := fun env S => if i ≠ j then (match env[j]? with
  | some (.ow (.l es)) => (match es[es.length - 1]? with
    | some y => .nx ((env.set j (.ow (.l es.dropLast))).set i (.va y)) S
    | none => .bad)
  | _ => .bad) else .bad
theorem ms_pop {i j : Nat} {x y : Str} {p1 q1 q2 q3 : Pos} (hN : X.N.Nodup) (hi : X.N[i]? = some x) (hx : Loc X.env.scope x) (hN2 : X.N[j]? = some y := by rfl) (hv2 : Vis X.env.scope y := by first | exact Or.inl rfl | exact Or.inr (Or.inl rfl) | exact Or.inr (Or.inr rfl)) (hd2 : (y == ("__debug__" : Str)) = false := by decide)
    (hcd2 : (y == ("__classdict__" : Str)) = false := by decide) (hbase2 : attributeBase (.Name y q1) "pop" X.env (eval (.Name y q1) X.env) = eval (.Name y q1) X.env := by rfl) (hline2 : (q2.endLine == q3.line) = true := by rfl)
    (hs : swapsWith (.Call (.Attribute (.Name y q1) "pop" q2) [] [] q3) (some (.Name x p1)) pos.line X.env = pure false := by rfl) (hf : X.fn x = true ∨ X.env.scope.names.lookup x = some .local := by first | exact .inl rfl | exact .inr rfl | assumption) :
    PS X (.Assign [.Name x p1] (.Call (.Attribute (.Name y q1) "pop" q2) [] [] q3) pos) (tS X.K EX (dPop i j)) :=
  PS.imp (ps_set hN hi hx (pe_bm0 PySem.F.plainAttrs_list PySem.F.slot_list_pop PySem.F.type_list_pop mt_pop (pe_var hN2 hv2 hd2 hcd2) hbase2 hline2) hs hf) fun D σ H ⟨W0, H0, W, S, env, s, q⟩ => by
    unfold dPop at q
    split at q
    case isFalse => exact q.elim
    rename_i nij
    split at q
    case h_2 => exact q.elim
    rename_i es gj
    cases hy : es[es.length - 1]? with
    | none => rw [hy] at q; exact q.elim
    | some z =>
      rw [hy] at q
      obtain ⟨b, ys, k1, k2, k3⟩ := own_slot s.env gj
      have hl := k3.length
      obtain ⟨w, m1, m2⟩ := k3.get hy
      rw [hl] at m1
      have rl : RepL X.K W.G W.r es.dropLast ys.dropLast := by
        have := k3.eraseIdx (es.length - 1)
        rw [List.eraseIdx_length_sub_one, hl, List.eraseIdx_length_sub_one] at this
        exact this
      have s2 := s.own gj k1 (x' := .l es.dropLast) (.l rl)
      refine ⟨.ref b, k1, .inl ⟨rfl, ys, SqL.of k2⟩, b, ys, w, rfl, rfl, k2, m1, ?_⟩
      exact q W _ _ (s2.setR (r := .v z) (Ext.refl _ _) s2.ok m2 i) (Gr.refl _)
/-! ### c.index(e), of flat items -/
def rIndexT (K : PySem.W.Frag) : V → List V → Hp → VK → Prop := fun x xs H Q => ∃ (a : Addr) (ys : List V) (y : V) (j : Nat) (z : V), x = V.ref a ∧ xs = [y] ∧ SqT K H a ys ∧ flatV y = true ∧ ys.all flatV = true ∧ ys[j]? = some z ∧ eqV z y = true ∧
  (∀ (m : Nat) (z' : V), m < j → ys[m]? = some z' → eqV z' y = false) ∧ Q (.int (j : Nat)) H
def flV : D → Option V
  | .non => some .non
  | .bl b => some (.bl b)
  | .int i => some (.int i)
  | .str x => some (.str x)
  | _ => none
def flVs : List D → Option (List V)
  | [] => some []
  | d :: ds => (match flV d, flVs ds with | some v, some vs => some (v :: vs) | _, _ => none)
def idxV (es : List D) (d : D) : Option Nat := match flVs es, flV d with
  | some ys, some y => ys.findIdx? fun z => eqV z y
  | _, _ => none
def fIndex : D → D → Sto → Res D := fun c d S => match c with
  | .lst es => (match idxV es d with | some j => .ok (.int (j : Nat)) S | none => .bad)
  | _ => .bad
def dIndex (dc dd : DE) : DE := fun env S => (dc env S).bind fun c S1 => (dd env S1).bind fun d S2 => fIndex c d S2
end
/-! ### the head's facts, with a Bool of one's own -/
def obsX (bx : PySem.W.Frag → Bool) (fa : List He.Fa) (fn : List He.DefD) (K : PySem.W.Frag) : Bool × He.AlD := (bx K, He.obsD fa fn K)
def obsXG (n : Nat) (bx : PySem.W.Frag → Bool) (fa : List He.Fa) (fn : List He.DefD) (g : Addr → Option Obj) : Bool × He.AlD := obsX bx fa fn (He.frG g (He.asD g n))
def hookX (n : Nat) (bx : PySem.W.Frag → Bool) (fa : List He.Fa) (fn : List He.DefD) : PySem.W.Hook where
  α := Bool × He.AlD
  obs := fun s => obsXG n bx fa fn s.heap.get?
  val := fun _ => (true, He.valD fn)
  says := fun _ h => ∃ K : PySem.W.Frag, K.In h ∧ bx K = true ∧ He.SaysD fa fn K
  of := fun _ _ e => ⟨_, He.frG_in, congrArg (fun z : Bool × He.AlD => z.1) e, congrArg (fun z : Bool × He.AlD => z.2) e⟩
  keeps := fun _ _ _ ⟨K, hK, b, c⟩ k => ⟨K, PySem.W.Frag.In.keeps hK k, b, c⟩
theorem obsXG_eq {n : Nat} {bx : PySem.W.Frag → Bool} {fa : List He.Fa} {fn : List He.DefD} {g : Addr → Option Obj} {s : Shared} (h : ∀ a, g a = s.heap.get? a) : obsXG n bx fa fn g = (hookX n bx fa fn).obs s := by
  rw [show g = s.heap.get? from funext h]
  rfl
end MP

namespace MP
open PySem PySem.Spec PyProof.Rows L2
variable {EX : L2.XK}
section
variable {X : Cx} {e : Expr} {st : Stmt} {pos : Pos} {tg : Expr}
/-! ### a thing locked for good -/
def lkD1 : R → D
  | .v d => d
  | .o (.k ks ds) => .fk ks ds
  | .o (.t ks ds) => .ft ks ds
  | .o x => x.toD
/-- a value; a new dict is locked -/
def fzL (dr : DR) : DE := fun env S => (dr env S).map lkD1
theorem Ext.upd {W W' : Wd} {H H' : Hp} {a : Addr} {u : HO} (x : Ext W H W' H') (h : H a = none) : Ext W H W' (upd H' a u) := by
  refine ⟨x.g, x.r, x.gn, x.rn, fun b o e n => ?_, fun b o e => ?_⟩
  · rw [upd_ne (ne_of_none e h)]
    exact x.h b o e n
  · rw [upd_ne (ne_of_none e h)]
    exact x.k b o e
/-- .. of a slot -/
def lkE (i : Nat) (env : Envm) : Envm := match lockE i env with
  | some e => frzE i e
  | none => frzE i env
def dFrzL (i : Nat) (a : DS) : DS := fun env S => a (lkE i env) S
/-! ### {k: v} -/
def dDisp1 (dk dv : DE) : DR := fun env S => (dk env S).bind fun k S1 => (dv env S1).bind fun v S2 => match keyOf k with
  | some q => .ok (.o (.k [q] [v])) S2
  | none => .bad
/-! ### walks over a locked dict -/
def itemsD : List Key → List D → List D
  | k :: ks, d :: ds => .tup [keyD k, d] :: itemsD ks ds
  | _, _ => []
def dItems (de : DE) : DA := fun env S => (de env S).bind fun d S1 => match d with
  | .fk ks ds => .ok (itemsD ks ds) S1
  | _ => .bad
def dValsI (de : DE) : DA := fun env S => (de env S).bind fun d S1 => match d with
  | .fk _ ds => .ok ds S1
  | _ => .bad
/-! ### sorted(d) -/
def keyInts : List Key → Option (List Int)
  | [] => some []
  | .inl i :: ks => (keyInts ks).map (i :: ·)
  | .inr _ :: _ => none
def sortK (ks : List Key) : Option (List Int) := match keyInts ks with
  | some ns => if ns.length < 64 ∧ ns.Nodup then some (usort ns) else none
  | none => none
def bSortK : List D → Sto → Res R := fun ds S => match ds with
  | [.dk ks _] => (match sortK ks with | some ns => .ok (.o (.l (ns.map D.int))) S | none => .bad)
  | [.fk ks _] => (match sortK ks with | some ns => .ok (.o (.l (ns.map D.int))) S | none => .bad)
  | _ => .bad
/-! ### c.count(e), of flat items -/
def rCntF (K : PySem.W.Frag) : V → List V → Hp → VK → Prop := fun x xs H Q => ∃ (p : Addr) (ys : List V) (y : V), x = .ref p ∧ xs = [y] ∧ SqL K H p ys ∧ flatV y = true ∧ ys.all flatV = true ∧ Q (.int (ys.countP (fun z => eqV z y) : Nat)) H
def fCount : D → D → Sto → Res D := fun c d S => match c with
  | .lst es => (match flVs es, flV d with | some ys, some y => .ok (.int (ys.countP (fun z => eqV z y) : Nat)) S | _, _ => .bad)
  | _ => .bad
def dCount (dc dd : DE) : DE := fun env S => (dc env S).bind fun c S1 => (dd env S1).bind fun d S2 => fCount c d S2
end
end MP

namespace MP
open PySem PySem.Spec PyProof.Rows L2
variable {EX : L2.XK}
/-! ### list(enumerate(xs)) -/
abbrev EnX (h : Heap) (e it : Addr) (i : Int) (x : Value) (a : Addr) (b : Bool) : Prop :=
  h.get? e = some { cls := .type "enumerate", dict := none, data := .fields #[rawInt a, .bool b, .ref it, rawInt i, .none, x], slots := #[] }
section
variable {prog : Program} {w : World} {A : Around} {E : Value → Shared → Prop} {s : Shared}
/-- the items that are made so far: new pairs -/
structure EnAcc (N : Nat) (items : Array Value) (acc : Array Value) (h : Heap) (i : Nat) : Prop where
  len : acc.size = i
  at_ : ∀ j v, j < i → acc[j]? = some v → ∃ T t x, v = .ref T ∧ N ≤ T ∧ items[j]? = some x ∧ h.get? T = some { cls := .type "tuple", data := .seq #[.int j t, x] }
  dist : ∀ (j k : Nat) (T : Addr), acc[j]? = some (Value.ref T) → acc[k]? = some (Value.ref T) → j = k
end
section
variable {X : Cx} {pins : List (Addr × Obj)} {σ : L2.St} {H : Hp} {s : Shared}
def dListEnum (de : DE) : DR := fun env S => (de env S).bind fun d S1 => match d with
  | .lst ds => if ds.length ≤ 100000 then .ok (.o (.l (enumD 0 ds))) S1 else .bad
  | _ => .bad
end
end MP

namespace MP
open PySem PySem.Spec PyProof.Rows L2
variable {EX : L2.XK}
/-! ### zip of two tuples, each pair kept under a name -/
abbrev ZipX (h : Heap) (z TI TO : Addr) (f0 : Value) (b : Bool) : Prop :=
  h.get? z = some { cls := .type "zip", dict := none, data := .fields #[f0, .bool b, .bool false, .ref TI, .ref TO], slots := #[] }
def Hel (f0 : Value) : Prop := f0 = .none ∨ ∃ a : Addr, f0 = rawInt a
section
variable {prog : Program} {w : World} {A : Around} {E : Value → Shared → Prop} {s : Shared}
end
def iZipN (K : PySem.W.Frag) (ta : TA) : TI := fun σ H R => ta σ H fun vs H1 => ∃ a b xs ys, vs = [.ref a, .ref b] ∧ SqT K H1 a xs ∧ SqT K H1 b ys ∧ R (RZ.ItzT K a b) H1
/-- zip of two tuples -/
def dZipT (da db : DE) : DA := fun env S => (da env S).bind fun x S1 => (db env S1).bind fun y S2 => match x, y with
  | .tup as, .tup bs => .ok (zipD as bs) S2
  | _, _ => .bad
section
variable {X : Cx} {a b : Expr}
end
end MP

namespace MP
variable {EX : L2.XK}
variable {EX : L2.XK}
open PySem PySem.Spec PyProof.Rows L2
/-! ### exceptions of one's own over a built-in class -/
structure BaseF (Bn newId initId : String) (bm : List Value) : Prop where
  eb : ExcBaseFacts Bn newId initId bm
  st : StoreFacts Bn bm "object.__setattr__" "object"
  ty : typeOf (.type Bn) = pure (.type "type")
  stub : Manifest.isStub Bn = false
  hand : PySem.W.handedIn (.builtin initId) = true
  blt : ∃ x : Str, x ≠ "__name__" ∧ (x == ("__debug__" : Str)) = false ∧ bootBuiltins x = some (.type Bn) ∧ x = Str.ofString Bn
structure OexG (K : PySem.W.Frag) (C : Addr) (newId : String) (bm : List Value) : Prop where
  cls : ∃ nm q N bs sn sub ab col dd k0 k1 k2 k3 k5, K.lookup C = some (excClassObj nm q C N bs bm true sn sub ab col dd k0 k1 k2 k3 k5 newId)
  sa : PySem.W.findIn K (.ref C) "__setattr__" = some (some (.builtin "object.__setattr__"))
  exC : PySem.W.subIn K (.ref C) (.type "BaseException") = some true
  tyC : PySem.W.typeIn K (.ref C) = some (.type "type")
  kC : PySem.W.keepIn K (.ref C) = true
section
variable {prog : Program} {w : World} {A : Around} {R : Result → Shared → Prop} {hx : Heap} {gs : Array GenState} {dr : Drawn} {tn : Nat} {os : OsState}
end
end MP

namespace MP
variable {EX : L2.XK}
variable {EX : L2.XK}
open PySem PySem.Spec PyProof.Rows L2
section
variable {X : Cx} {pins : List (Addr × Obj)} {σ : L2.St} {H : Hp} {s : Shared} {a C dx : Addr} {fl : Str} {y : V} {u : Value} {E : Value → Shared → Prop} {A : Around} {Bn newId initId : String} {bm : List Value}
end
/-- B.__init__(self, ..), read -/
def tIniG (K : PySem.W.Frag) (newId : String) (bm : List Value) (ta : TA) : TE := fun σ H Q => ta σ H fun vs H1 => ∃ (a C : Addr) (ws : List V), vs = .ref a :: ws ∧ ws.length ≤ 1000 ∧ OexG K C newId bm ∧ H1 a = some (exo a C none) ∧ Q .non H1
/-- self.f = e, the first one, read -/
def tFldG (K : PySem.W.Frag) (newId : String) (bm : List Value) (f : Str) (to te : TE) : TS := fun D σ H => te σ H fun y H1 => to σ H1 fun x H2 => ∃ a C : Addr, x = .ref a ∧ OexG K C newId bm ∧ PySem.W.findIn K (.ref C) f = some none ∧
  H2 a = some (exo a C none) ∧ ∀ dx, H2 dx = none → dx ≠ a → D.nx σ (upd (upd H2 dx (exd dx [(f, y)])) a (exo a C (some dx)))
section
variable {X : Cx} {o e : Expr} {es : List Expr} {to te : TE} {ta : TA} {f : Str} {p p' p1 p2 pos : Pos} {newId initId : String} {bm : List Value}
end
end MP

namespace MP
variable {EX : L2.XK}
open PySem PySem.Spec PyProof.Rows L2
/-! ### a value in an f-string -/
def ItOk : V → Prop
  | .int i => i.natAbs.log2 < 1920
  | .str y => y.length ≤ 100 ∧ ∀ c ∈ y.cps.toList, c < 16 ^ 8
  | _ => False
inductive FmtOk (K : PySem.W.Frag) (H : Hp) : V → Prop
  | int {i : Int} : i.natAbs.log2 < 1920 → FmtOk K H (.int i)
  | tup {a : Addr} {xs : List V} : SqT K H a xs → xs.length ≤ 8 → (∀ y ∈ xs, ItOk y) → FmtOk K H (.ref a)
def tFmtV (K : PySem.W.Frag) (te : TE) : TE := fun σ H Q => te σ H fun x H1 => FmtOk K H1 x ∧ ∀ m : Str, m.length ≤ 20000 → Q (.str m) H1
section
variable {X : Cx} {e : Expr} {te : TE} {pos : Pos}
end
/-! ### __init__ of a class with one field -/
def spI (K : PySem.W.Frag) (newId : String) (bm : List Value) (fl : Str) : Sp := fun vs H Q _ => ∃ a C v, vs = [.ref a, v] ∧ OexG K C newId bm ∧ PySem.W.findIn K (.ref C) fl = some none ∧ H a = some (exo a C none) ∧ FmtOk K H v ∧
  ∀ dx, H dx = none → dx ≠ a → Q .non (upd (upd H dx (exd dx [(fl, v)])) a (exo a C (some dx)))
def tIB (K : PySem.W.Frag) (newId : String) (bm : List Value) (fl : Str) : TS := fun D σ H => ∃ a C v, σ[0]? = some (some (.ref a)) ∧ σ[1]? = some (some v) ∧ OexG K C newId bm ∧ PySem.W.findIn K (.ref C) fl = some none ∧ H a = some (exo a C none) ∧ FmtOk K H v ∧
  ∀ dx, H dx = none → dx ≠ a → D.nx σ (upd (upd H dx (exd dx [(fl, v)])) a (exo a C (some dx)))
section
variable {X : Cx} {newId initId Bn : String} {bm : List Value} {Bs sf ar fl s1 : Str} {tl : List Expr} {k1 : Nat} {q1 q2 q3 q4 q5 q6 q7 q8 q9 r1 r2 r3 r4 : Pos}
end
/-- what a text knows of an exception class with one field -/
structure XIn (P : Program) (w : World) (K : PySem.W.Frag) (mg : Str → Option Value) (base : Heap) (n fl : Str) : Prop where
  ex : ∃ (Bn newId initId : String) (bm : List Value) (fI : Addr) (fd : FuncData) (ps : List Str), BaseF Bn newId initId bm ∧ OexG K (He.ga K n) newId bm ∧ PySem.W.findIn K (.ref (He.ga K n)) "__init__" = some (some (.ref fI)) ∧ PySem.W.typeIn K (.ref fI) = some (.type "function") ∧
    PySem.W.findIn K (.ref (He.ga K n)) fl = some none ∧ FnOk P w K mg base (L2.CX P w) 1 fI fd ps (spI K newId bm fl) ∧ Binds K fd ps []
  g : mg n = some (.ref (He.ga K n))
end MP

namespace MP
variable {EX : L2.XK}
open PySem PySem.Spec PyProof.Rows L2
/-! ### expressions that raise -/
theorem PS.or {X : Cx} {st : Stmt} {t1 t2 : TS} (h1 : PS X st t1) (h2 : PS X st t2) : PS X st (fun D σ H => t1 D σ H ∨ t2 D σ H) :=
  ⟨fun pins s σ H D I h => h.elim (h1.run pins s σ H D I) (h2.run pins s σ H D I)⟩
def onlyR {α : Type} : Res α → Res α
  | .ok a S => .ok a S
  | _ => .bad
/-- nothing is raised within -/
def only {α : Type} (f : Envm → Sto → Res α) : Envm → Sto → Res α := fun env S => onlyR (f env S)
section
variable {X : Cx} {e a b : Expr} {es : List Expr} {pos : Pos}
/-- the reading of an expression where it raises -/
def tN (K : PySem.W.Frag) (U : WX) (dr : DR) : TE := fun σ H _ => ∃ W S H0 env, WOk K W S H ∧ EnvOk K W H H0 env σ ∧ ∃ c x S', dr env S = .xn c x S' ∧ ∀ W' H' cls d, Ext W H W' H' → WOk K W' S' H' → RepX K W' x cls d → U cls d σ H'
variable {n : Nat} {T : Nat → Option (Str × Nat)} {C : Calls} {U : WX}
end
/-! ### statements that raise -/
def dDropX (dr : DR) : DS := fun env S => match dr env S with
  | .ok _ S1 => .nx env S1
  | .xn c x S1 => .xn c x S1
  | .bad => .bad
def dSetX (i : Nat) (dr : DR) : DS := fun env S => match dr env S with
  | .ok r S1 => .nx (env.set i (slOf r)) S1
  | .xn c x S1 => .xn c x S1
  | .bad => .bad
def dRetX (dr : DR) : DS := fun env S => match dr env S with
  | .ok r S1 => .rt r S1
  | .xn c x S1 => .xn c x S1
  | .bad => .bad
/-- a statement, its wish about exceptions by the slots (which stand as they were) -/
def OutX (K : PySem.W.Frag) (U : WX) (env : Envm) (σ : L2.St) (W0 : Wd) (H0 : Hp) (Wc : Wd) (D : Ends) : Out → Prop
  | .xn _ x S => ∀ W H cls d, SOk K W0 H0 W H S env σ → Gr Wc W → RepX K W x cls d → U cls d σ H
  | o => OutOk K E0 W0 H0 Wc D o
def tX (K : PySem.W.Frag) (U : WX) (ds : DS) : TS := fun D σ H => ∃ W0 H0 W S env, SOk K W0 H0 W H S env σ ∧ OutX K U env σ W0 H0 W D (ds env S)
theorem OutX.mono {K : PySem.W.Frag} {U : WX} {env : Envm} {σ : L2.St} {W0 W W' : Wd} {H0 : Hp} {D : Ends} {o : Out} (h : OutX K U env σ W0 H0 W D o) (g : Gr W W') : OutX K U env σ W0 H0 W' D o := by
  cases o with
  | xn c x S => exact fun W1 H cls d s g1 r => h W1 H cls d s (g.trans g1) r
  | nx e S => exact fun W1 H σ s g1 => h W1 H σ s (g.trans g1)
  | bk e S => exact fun W1 H σ s g1 => h W1 H σ s (g.trans g1)
  | ct e S => exact fun W1 H σ s g1 => h W1 H σ s (g.trans g1)
  | rt r S => exact h
  | bad => exact h
section
variable {X : Cx} {e : Expr} {pos : Pos} {U : WX}
end
end MP

namespace MP
variable {EX : L2.XK}
open PySem PySem.Spec PyProof.Rows L2
/-! ### raise C(e) -/
def fmtI : D → Bool
  | .int i => decide (i.natAbs.log2 < 1920)
  | .str y => decide (y.length ≤ 100) && y.cps.toList.all fun c => decide (c < 16 ^ 8)
  | _ => false
/-- a value that an error's text may show -/
def fmtD : D → Bool
  | .int i => decide (i.natAbs.log2 < 1920)
  | .tup ds => decide (ds.length ≤ 8) && ds.all fmtI
  | _ => false
def dRaise (n f : Str) (de : DE) : DS := fun env S => match de env S with
  | .ok v S1 => if fmtD v = true then .xn 0 (.ex n f v) S1 else .bad
  | _ => .bad
section
variable {X : Cx} {e : Expr} {pos pos' p : Pos}
end
/-! ### try: .. except (A, B) as e: y = e -/
/-- the classes that a clause names, asked of an exception of the class cls -/
def TestX (X : Cx) (Te : Expr) (cls : Value) (b : Bool) : Prop := ∀ (a : Addr) (pn pins : List (Addr × Obj)) (σ : L2.St) (H : Hp) (s : Shared) (Q : Bool → Shared → Prop) (E : Value → Shared → Prop), Inv (X.suite a pn) pins σ H s → PySem.W.Looks (model X.prog X.w) s.heap (typeOf (.ref a)) cls →
  (∀ h', (∀ c o, s.heap.get? c = some o → h'.get? c = some o) → Q b { s with heap := h' }) → wpAny (model X.prog X.w) (X.A.mark (some (.ref a))) (eval Te X.env) (fun cv s1 => wpAny (model X.prog X.w) (X.A.mark (some (.ref a))) (excMatches (.ref a) cv) Q E s1) E s
/-- what is wished of an exception of the body -/
def wTry (X : Cx) (Te : Expr) (i j : Nat) (Wout : WX) (D : Ends) : WX := fun cls d σ H =>
  ∃ b, TestX X Te cls b ∧ (b = true → ∀ a, H a = none → ∃ C, cls = .ref C ∧ D.nx (((σ.set i (some (.ref a))).set j (some (.ref a))).set i none) (upd H a (exT a C d))) ∧ (b = false → Wout cls d σ H)
section
variable {X : Cx} {xn y : Str} {Te : Expr} {i j : Nat} {body : List Stmt} {p1 p2 p3 pos pos' : Pos} {tb : WX → TS} {Wout : WX}
end
end MP

namespace MP
variable {EX : L2.XK}
open PySem PySem.Spec PyProof.Rows L2 PySem.W PySem.Calls
/-! ### what isinstance asks of an exception that has its own dict -/
section
variable {prog : Program} {w : World} {A : Around} {E : Value → Shared → Prop} {s : Shared} {K : PySem.W.Frag} {a C : Addr} {oa : Obj} {oq : Option Obj}
end
/-! ### the exception classes of a text -/
def xBases : List String := ["ValueError", "LookupError", "RuntimeError", "OverflowError"]
def xFields : List Str := ["number", "time", "town", "evidence", "note", "pair", "many", "text"]
structure XTab (K : PySem.W.Frag) (tab : List (Str × String)) : Prop where
  c : ∀ p ∈ tab, ExcC K (He.ga K p.1)
  k : ∀ p ∈ tab, ∀ q ∈ tab, kitOne K (.ref (He.ga K p.1)) (.ref (He.ga K q.1)) = some (p.1 == q.1)
  m : ∀ p ∈ tab, ∀ q ∈ tab, exmOne K (.ref (He.ga K p.1)) (.ref (He.ga K q.1)) = some (p.1 == q.1)
  b : ∀ p ∈ tab, ∀ t ∈ xBases, kitOne K (.ref (He.ga K p.1)) (.type t) = some (p.2 == t)
  f : ∀ p ∈ tab, ∀ x ∈ xFields, findIn K (.ref (He.ga K p.1)) x = some none
def excCB (K : PySem.W.Frag) (C : Addr) : Bool := decide (findIn K (.ref C) "__getattribute__" = some (some (.builtin "BaseException.__getattribute__"))) && (decide (findIn K (.ref C) "__getattr__" = some none) && (decide (subIn K (.ref C) (.type "BaseException") = some true) && (hasDictIn K C &&
  (decide (findIn K (.ref C) "__class__" = some (some (.builtin "object.__class__"))) && (decide (specialIn K (.builtin "object.__class__") "__get__" = some (some (.builtin "getset_descriptor.__get__"))) && (decide (takesIn K (.builtin "object.__class__") = some true) && decide (mroIn K C (.type "object") = some true)))))))
def xtabB (tab : List (Str × String)) (K : PySem.W.Frag) : Bool := tab.all fun p => excCB K (He.ga K p.1) && ((tab.all fun q => decide (kitOne K (.ref (He.ga K p.1)) (.ref (He.ga K q.1)) = some (p.1 == q.1)) && decide (exmOne K (.ref (He.ga K p.1)) (.ref (He.ga K q.1)) = some (p.1 == q.1))) &&
  ((xBases.all fun t => decide (kitOne K (.ref (He.ga K p.1)) (.type t) = some (p.2 == t))) && xFields.all fun x => decide (findIn K (.ref (He.ga K p.1)) x = some none)))
end MP

namespace MP
variable {EX : L2.XK}
open PySem PySem.Spec PyProof.Rows L2
/-! ### classes as values, isinstance of a caught exception -/
section
variable {X : Cx} {e : Expr} {pos : Pos}
end
def exName : D → Option Str
  | .ex n _ _ => some n
  | .ex0 n => some n
  | _ => none
def inTab (tab : List (Str × String)) (n : Str) : Bool := tab.any fun p => p.1 == n
def isXc (tab : List (Str × String)) (n : Str) : D → Option Bool
  | .cl m => if inTab tab m = true then some (n == m) else none
  | .ty t => if xBases.contains t = true then (tab.find? fun p => p.1 == n).map fun p => p.2 == t else none
  | _ => none
def isXa (tab : List (Str × String)) (n : Str) : List D → Option Bool
  | [] => some false
  | c :: r => match isXc tab n c with
    | some true => if (isXa tab n r).isSome = true then some true else none
    | some false => isXa tab n r
    | none => none
def isXd (tab : List (Str × String)) (n : Str) : D → Option Bool
  | .tup cs => isXa tab n cs
  | c => isXc tab n c
def bIsiX (tab : List (Str × String)) : List D → Sto → Res R := fun ds S => match ds with
  | [d, c] => (match exName d with
    | some n => if inTab tab n = true then (match isXd tab n c with | some b => .ok (.v (.bl b)) S | none => .bad) else .bad
    | none => bIsi [d, c] S)
  | _ => .bad
/-- what stands at an exception -/
def ExAt (K : PySem.W.Frag) (H : Hp) (n : Str) (a : Addr) : Prop := ∃ d, H a = some (exT a (He.ga K n) d) ∧ ∀ dd, d = some dd → ∃ fs, H dd = some (.xd fs)
def rE (K : PySem.W.Frag) (tab : List (Str × String)) : List V → Hp → VK → Prop := fun xs H Q => ∃ (a : Addr) (n : Str) (c : V) (b : Bool), xs = [.ref a, c] ∧ inTab tab n = true ∧ ExAt K H n a ∧
  ((∃ cv, ClsV c cv ∧ PySem.W.kitOne K (.ref (He.ga K n)) cv = some b) ∨ ∃ (tp : Addr) (cs : List V) (us : List Value), c = .ref tp ∧ H tp = some (.tup cs) ∧ Paired ClsV cs us ∧ PySem.W.kitAny K (.ref (He.ga K n)) us = some b) ∧ Q (.bl b) H
section
variable {X : Cx} {tab : List (Str × String)}
end
end MP

namespace MP
variable {EX : L2.XK}
open PySem PySem.Spec PyProof.Rows L2
/-! ### a field of a caught exception -/
def dXf (tab : List (Str × String)) (f : Str) (de : DE) : DE := fun env S => match de env S with
  | .ok (.ex n g x) S1 => if (g == f && (inTab tab n && xFields.contains f)) = true then .ok x S1 else .bad
  | _ => .bad
section
variable {X : Cx} {e : Expr} {pos : Pos} {tab : List (Str × String)} {f : Str} {de : DE}
end
/-! ### the test of an except clause -/
section
open PySem.W
variable {M : Model} {K : PySem.W.Frag}
end
def NmX (X : Cx) (x : Str) : Prop := Gl X x ∧ X.mg x = some (.ref (He.ga X.K x)) ∧ (x == ("__debug__" : Str)) = false
section
variable {X : Cx} {x1 x2 x3 x4 x5 : Str} {p1 p2 p3 p4 p5 tp : Pos} {kk : Nat} {cls : Value} {b : Bool}
end
/-! ### try: .. except (A, B) as e: y = e, read -/
def dTryE (i j : Nat) (tab : List (Str × String)) (ns : List Str) (b : DS) : DS := fun env S => match b env S with
  | .xn c x S1 => (match exName x with
    | some n => if inTab tab n = true then (if ns.contains n = true then .nx (((env.set i (.va x)).set j (.va x)).set i .no) S1 else .xn c x S1) else .bad
    | none => .bad)
  | o => o
theorem EnvOk.setN {K : PySem.W.Frag} {W : Wd} {H H0 : Hp} {e : Envm} {σ : L2.St} (q : EnvOk K W H H0 e σ) (i : Nat) : EnvOk K W H H0 (e.set i .no) (σ.set i none) := by
  refine ⟨by rw [List.length_set, List.length_set]; exact q.len, fun j s o h1 h2 => ?_, fun j k x y a h1 h2 h3 h4 => ?_⟩
  · by_cases hj : i = j
    · subst hj
      by_cases hi : i < e.length
      · rw [List.getElem?_set_self hi] at h1
        cases h1
        trivial
      · rw [List.getElem?_eq_none (by rw [List.length_set]; omega)] at h1
        cases h1
    · rw [List.getElem?_set_ne hj] at h1 h2
      exact q.sl j s o h1 h2
  · have f : ∀ (m : Nat) (z : O), (e.set i .no)[m]? = some (.ow z) → i ≠ m ∧ e[m]? = some (.ow z) := fun m z hm => by
      by_cases c : i = m
      · subst c
        by_cases hi : i < e.length
        · rw [List.getElem?_set_self hi] at hm; cases hm
        · rw [List.getElem?_eq_none (by rw [List.length_set]; omega)] at hm; cases hm
      · rw [List.getElem?_set_ne c] at hm
        exact ⟨c, hm⟩
    obtain ⟨n1, g1⟩ := f j x h1
    obtain ⟨n2, g2⟩ := f k y h2
    rw [List.getElem?_set_ne n1] at h3
    rw [List.getElem?_set_ne n2] at h4
    exact q.dis j k x y a g1 g2 h3 h4
section
variable {X : Cx} {xn y : Str} {Te : Expr} {i j : Nat} {body : List Stmt} {p1 p2 p3 pos pos' : Pos} {Uo : WX} {tab : List (Str × String)} {ns : List Str} {b : DS}
end
end MP

namespace MP
variable {EX : L2.XK}
open PySem PySem.Spec PyProof.Rows L2
/-! ### raise C(), a class whose exceptions have no field -/
section
variable {X : Cx} {e : Expr} {es : List Expr} {p pos : Pos} {newId initId : String} {bm : List Value}
/-- C(), read -/
def tMk0 (C : Addr) (sp : Sp) : L2.St → Hp → XK → Prop := fun σ H Q => ∀ a, H a = none → sp [.ref a] (upd H a (exo a C none)) (fun v H2 => v = .non ∧ H2 = upd H a (exo a C none) ∧ Q (.ref C) none H) (fun _ _ _ => False)
end
def sp0 (K : PySem.W.Frag) (newId : String) (bm : List Value) : Sp := fun vs H Q _ => ∃ a C, vs = [.ref a] ∧ OexG K C newId bm ∧ H a = some (exo a C none) ∧ Q .non H
def tI0 (K : PySem.W.Frag) (newId : String) (bm : List Value) : TS := fun D σ H => ∃ a C, σ[0]? = some (some (.ref a)) ∧ OexG K C newId bm ∧ H a = some (exo a C none) ∧ D.nx σ H
section
variable {X : Cx} {newId initId Bn : String} {bm : List Value} {Bs sf s1 : Str} {k1 : Nat} {q1 q2 q3 q4 q8 q9 : Pos}
end
/-- what a text knows of an exception class without fields -/
structure XIn0 (P : Program) (w : World) (K : PySem.W.Frag) (mg : Str → Option Value) (base : Heap) (n : Str) : Prop where
  ex : ∃ (Bn newId initId : String) (bm : List Value) (fI : Addr) (fd : FuncData) (ps : List Str), BaseF Bn newId initId bm ∧ OexG K (He.ga K n) newId bm ∧ PySem.W.findIn K (.ref (He.ga K n)) "__init__" = some (some (.ref fI)) ∧ PySem.W.typeIn K (.ref fI) = some (.type "function") ∧
    FnOk P w K mg base (L2.CX P w) 1 fI fd ps (sp0 K newId bm) ∧ Binds K fd ps []
  g : mg n = some (.ref (He.ga K n))
def dRaise0 (n : Str) : DS := fun _ S => .xn 0 (.ex0 n) S
end MP

namespace MP
variable {EX : L2.XK}
open PySem PySem.Spec PyProof.Rows L2
def clsB : Stmt → List Stmt
  | .ClassDef (body := b) .. => b
  | _ => []
/-! ### the facts of exception classes, looked up in the written part -/
def oexB (newId : String) (bm : List Value) (K : PySem.W.Frag) (C : Addr) : Bool := (match K.lookup C with
  | some ⟨.type "type", _, .cls cd, sl⟩ => (match cd.mro, sl.toList with
    | .ref C2 :: b2, [_, _, _, _, some (.builtin n), _] => C2 == C && (n == newId && (!cd.hasDel && (cd.hasDict && decide (b2 = bm))))
    | _, _ => false)
  | _ => false) && (decide (PySem.W.findIn K (.ref C) "__setattr__" = some (some (.builtin "object.__setattr__"))) && (decide (PySem.W.subIn K (.ref C) (.type "BaseException") = some true) && (decide (PySem.W.typeIn K (.ref C) = some (.type "type")) && PySem.W.keepIn K (.ref C))))
/-- a class with its own __init__ over a built-in one -/
def xinB (n : Str) (Bn newId initId : String) (bm : List Value) (fs : List Str) (K : PySem.W.Frag) : Bool := oexB newId bm K (He.ga K n) && (decide (PySem.W.findIn K (.ref (He.ga K n)) "__init__" = some (some (.ref (He.ma K (He.ga K n) "__init__")))) &&
  (decide (PySem.W.typeIn K (.ref (He.ma K (He.ga K n) "__init__")) = some (.type "function")) && ((match PySem.W.findCls K (.type Bn) (.type "type") "__init__" with | some (.val (.builtin i)) => i == initId | _ => false) && fs.all fun f => decide (PySem.W.findIn K (.ref (He.ga K n)) f = some none))))
structure XInB (n : Str) (Bn newId initId : String) (bm : List Value) (fs : List Str) (K : PySem.W.Frag) : Prop where
  o : OexG K (He.ga K n) newId bm
  i : PySem.W.findIn K (.ref (He.ga K n)) "__init__" = some (some (.ref (He.ma K (He.ga K n) "__init__")))
  t : PySem.W.typeIn K (.ref (He.ma K (He.ga K n) "__init__")) = some (.type "function")
  c : PySem.W.findCls K (.type Bn) (.type "type") "__init__" = some (.val (.builtin initId))
  f : ∀ f ∈ fs, PySem.W.findIn K (.ref (He.ga K n)) f = some none
end MP

namespace MP
variable {EX : L2.XK}
open PySem PySem.Spec PyProof.Rows L2
/-! ### calls by keywords alone -/
/-- how a call by keywords named ks binds: g puts their values in the parameters' order -/
structure KB0 (K : PySem.W.Frag) (fd : FuncData) (ps ks : List Str) (pm : List Nat) : Prop where
  to : ∀ (s : Shared) (ws : List Value), K.In s.heap → ws.length = ks.length → BindsTo s fd ⟨[], ks.zip ws⟩ (ps.zip (pm.map fun i => ws.getD i .none))
theorem perm_vals {zs : List L2.V} {ws : List Value} (r : Vals zs ws) (pm : List Nat) : Vals (pm.map fun i => zs.getD i .non) (pm.map fun i => ws.getD i .none) := by
  induction pm with
  | nil => exact .nil
  | cons i pm ih =>
    refine .cons ?_ ih
    show L2.RelV (zs.getD i .non) (ws.getD i .none)
    rw [List.getD_eq_getElem?_getD, List.getD_eq_getElem?_getD]
    cases hz : zs[i]? with
    | some z =>
      obtain ⟨u, hu, ru⟩ := r.get hz
      rw [hu]
      exact ru
    | none =>
      have : ws[i]? = none := by
        rw [List.getElem?_eq_none_iff] at hz ⊢
        rw [← r.length]
        exact hz
      rw [this]
      exact rfl
section
variable {X : Cx} {CX : CXT} {k : Nat} {f : Addr} {fd : FuncData} {ps ks : List Str} {sp : Sp} {E : L2.St → XK} {x : Str} {p pos : Pos} {kws : List Keyword} {tk : TA} {pm : List Nat}
def tCallK0 (sp : Sp) (pm : List Nat) (m : Nat) (E : L2.St → XK) (tk : TA) : TE := fun σ H Q => tk σ H fun zs H2 => zs.length = m ∧ sp (pm.map fun i => zs.getD i .non) H2 Q (E σ)
theorem pe_callK0 (F : FnG X.prog X.w X.K X.mg X.base CX k f fd ps sp) (gd : X.A.guards = some []) (hr : Room k X.A) (hg : Gl X x) (hm : X.mg x = some (.ref f)) (hk : PySem.W.keepIn X.K (.ref f) = true) (hb : KB0 X.K fd ps ks pm) (hx : ∀ σ, PassesAt CX X σ (E σ))
    (hkw : PK X kws tk) (hall : (backToKw pos (keywordEach kws X.env)).all (·.1.isSome) = true := by rfl) (hks : (backToKw pos (keywordEach kws X.env)).filterMap (·.1) = ks := by rfl)
    (hdb : (x == ("__debug__" : Str)) = false := by decide)
    (hpl : ((backTo pos (starEach [] X.env)).any (·.1) || (backToKw pos (keywordEach kws X.env)).any (·.1.isNone)) = false := by rfl) :
    PE X (.Call (.Name x p) [] kws pos) (tCallK0 sp pm ks.length E tk) := by
  refine ⟨fun pins s σ H Q I h => ?_⟩
  refine wpAny_Call_Name_kw (ld_glob I hg hm ?_ hdb)
  refine PySem.W.callWith_KW0 (h₀ := X.base) I.ok.mod.kin hk hall (thn (hkw.run pos pins s σ H _ I h) fun ws s2 ⟨zs, H2, I2, rz, hz, q2⟩ => ⟨I2.kIn, ?_⟩) hpl
  rw [hks]
  have r2 := perm_vals rz pm
  refine wpAny_call (codeAny_mono (F.go (E σ) Q H2 s2 X.A X.stack ⟨[], ks.zip ws⟩ _ _ gd hr q2 r2 (hb.to s2 ws I2.kIn (by rw [← rz.length]; exact hz)) I2.env0) fun r s' hq => ?_)
  cases r with
  | error e => exact hx σ pins H2 s2 e s' I2 hq
  | ok fl =>
    cases fl with
    | ret u => exact I2.after hq
    | next => exact False.elim hq
    | brk => exact False.elim hq
    | cont => exact False.elim hq
end
/-! ### the denotation -/
def permD (pm : List Nat) (xs : List D) : List D := pm.map fun i => xs.getD i .non
theorem perm_rep {K : PySem.W.Frag} {G : Hp} {l : List Addr} {ds : List D} {zs : List L2.V} (r : RepL K G l ds zs) (pm : List Nat) : RepL K G l (permD pm ds) (pm.map fun i => zs.getD i .non) := by
  unfold permD
  induction pm with
  | nil => exact .nil
  | cons i pm ih =>
    refine .cons ?_ ih
    show Rep K G l (ds.getD i .non) (zs.getD i .non)
    rw [List.getD_eq_getElem?_getD, List.getD_eq_getElem?_getD]
    cases hz : ds[i]? with
    | some z =>
      obtain ⟨u, hu, ru⟩ := r.get hz
      rw [hu]
      exact ru
    | none =>
      have : zs[i]? = none := by
        rw [List.getElem?_eq_none_iff] at hz ⊢
        rw [← r.length]
        exact hz
      rw [this]
      exact .non
def dPerm (pm : List Nat) (da : DA) : DA := fun env S => (da env S).map (permD pm)
/-- what a caller must know of a def that is called by keywords -/
def KwOk (K : PySem.W.Frag) (mg : Str → Option Value) (x : Str) (ks : List Str) (pm : List Nat) : Prop := ∀ (a : Addr) (fd : FuncData) (ps : List Str), mg x = some (.ref a) → At K a fd ps → KB0 K fd ps ks pm
theorem kwOk_of {K : PySem.W.Frag} {mg : Str → Option Value} {x xx qual : Str} {params : Arguments} {body : List Stmt} {scope : Scope} {f : Addr} {fd : FuncData} {ks : List Str} {pm : List Nat} (F : FunD K xx qual params body scope [] [] f fd) (g : mg x = some (.ref f))
    (h : ∀ (kV doc pm' : Value) (an : Option Addr) (cdv ct : Value) (ws : List Value), ws.length = ks.length → bindArgs (PySem.W.fnOf xx qual params body scope .none kV doc pm' an cdv ct) ⟨[], ks.zip ws⟩ = pure ((params.args.map (·.arg)).zip (pm.map fun i => ws.getD i .none))) : KwOk K mg x ks pm := by
  intro a fd2 ps h1 h2
  rw [g] at h1
  cases h1
  obtain ⟨oc2, od2, osl2, lk2⟩ := h2.o
  obtain ⟨oc, od, dV, kV, doc, pm', an, cdv, ct, osl, rfl, lk, hcd, hD, hK⟩ := F.ex
  rw [lk] at lk2
  cases lk2
  refine ⟨fun s ws _ hl => ?_⟩
  rcases hD with ⟨_, rfl⟩ | ⟨e, _⟩
  · rw [← h2.ps]
    exact .of_eq (h kV doc pm' an cdv ct ws hl)
  · exact absurd rfl e
section
variable {X : Cx} {pos p kpos : Pos} {n : Nat} {T : Nat → Option (Str × Nat)} {C : Calls} {e : Expr} {kws : List Keyword} {nm : Option Str} {x : Str}
theorem PK.imp {t t' : TA} (h : PK X kws t) (i : ∀ σ H Q, t' σ H Q → t σ H Q) : PK X kws t' := ⟨fun pos pins s σ H Q I z => h.run pos pins s σ H Q I (i σ H Q z)⟩
theorem mk_nil : PK X [] (tAV X.K dNil) := PK.imp pk_nil fun σ H Q ⟨W, S, H0, env, ok, eo, d, S', h, q⟩ => by
  cases h
  exact q W H [] (Ext.refl _ _) ok .nil
theorem mk_cons {da : DE} {dr : DA} (ha : PE X e (tV X.K da)) (hr : PK X kws (tAV X.K dr)) : PK X (⟨nm, e, kpos⟩ :: kws) (tAV X.K (dCons da dr)) :=
  PK.imp (pk_cons ha hr) fun σ H Q ⟨W, S, H0, env, ok, eo, d, S', h, q⟩ => by
    obtain ⟨x, S1, h1, h2⟩ := bind_ok h
    obtain ⟨xs, h3, h4⟩ := map_ok h2
    subst h4
    refine ⟨W, S, H0, env, ok, eo, x, S1, h1, fun W1 H1 v e1 o1 r1 => ?_⟩
    refine ⟨W1, S1, H0, env, o1, eo.ext e1, xs, S', h3, fun W2 H2 vs e2 o2 r2 => ?_⟩
    exact q W2 H2 _ (e1.trans e2) o2 (.cons (r1.ext e2) r2)
theorem len_nil : ∀ env S ds S', dNil env S = .ok ds S' → ds.length = 0 := fun env S ds S' h => by
  cases h
  rfl
theorem len_cons {da : DE} {dr : DA} {k : Nat} (h : ∀ env S ds S', dr env S = .ok ds S' → ds.length = k) : ∀ env S ds S', dCons da dr env S = .ok ds S' → ds.length = k + 1 := fun env S ds S' z => by
  obtain ⟨x, S1, h1, h2⟩ := bind_ok z
  obtain ⟨xs, h3, h4⟩ := map_ok h2
  subst h4
  rw [List.length_cons, h _ _ _ _ h3]
/-- f(k = v, ..) -/
theorem me_callK (F : Fx X.prog X.w X.K X.mg X.base X.A n T C) (f : Nat) {da : DA} {m : Nat} {ks : List Str} (pm : List Nat) (hT : T f = some (x, m)) (hkw : KwOk X.K X.mg x ks pm) (hg : Gl X x) (ha : PK X kws (tAV X.K da)) (hl : ∀ env S ds S', da env S = .ok ds S' → ds.length = ks.length)
    (hall : (backToKw pos (keywordEach kws X.env)).all (·.1.isSome) = true := by rfl) (hks : (backToKw pos (keywordEach kws X.env)).filterMap (·.1) = ks := by rfl)
    (hdb : (x == ("__debug__" : Str)) = false := by decide)
    (hpl : ((backTo pos (starEach [] X.env)).any (·.1) || (backToKw pos (keywordEach kws X.env)).any (·.1.isNone)) = false := by rfl) :
    PE X (.Call (.Name x p) [] kws pos) (tR X.K (dCall C f (dPerm pm da))) := by
  obtain ⟨a, fd, ps, h1, h2, h3, h4, h5, h6⟩ := F.fn f x m hT
  refine PE.imp (pe_callK0 (E := fun _ => E0) h5 F.gd F.room hg h1 h2 (hkw a fd ps h1 h6) (fun σ pins H s e s' I q => passE0 pins σ H s e s' I q) ha hall hks hdb hpl) fun σ H Q ⟨W, S, H0, env, ok, eo, d, S', h, q⟩ => ?_
  obtain ⟨ys, S1, h6, h7⟩ := bind_ok h
  obtain ⟨xs, h8, h9⟩ := map_ok h6
  subst h9
  refine ⟨W, S, H0, env, ok, eo, xs, S1, h8, fun W1 H1 v e1 o1 r1 => ⟨by rw [← r1.length]; exact hl _ _ _ _ h8, ?_⟩⟩
  have r2 := perm_rep r1 pm
  exact ⟨by rw [← r2.length]; exact F.ar _ _ _ _ _ _ _ hT h7, W1, S1, _, o1, r2, .inl ⟨d, S', h7, fun W2 H2 z e2 o2 r2 => q W2 H2 z (e1.trans e2) o2 (r2.back fun a h => e1.fresh h)⟩⟩
end
end MP

namespace MP
variable {EX : L2.XK}
open PySem PySem.Spec PyProof.Rows L2
/-! ### repr of data -/
def shownD (d : D) : Str := (toPy d).shown
def repOk (d : D) : Bool := fitN 20 d && ((toPy d).showable && decide ((toPy d).shown.length ≤ 16777216))
def bRepr : List D → Sto → Res R := fun ds S => match ds with
  | [d] => if repOk d = true then .ok (.v (.str (shownD d))) S else .bad
  | _ => .bad
section
variable {X : Cx}
theorem call_reprD (gd : X.A.guards = some []) (hu : X.A.units + 64 < cLine) : CallR X (.builtin "repr") (fun xs H Q => ∃ x d, xs = [x] ∧ Dp X.K H x d ∧ d.showable = true ∧ d.hasDict = false ∧ d.depth ≤ 40 ∧ d.shown.length ≤ sizeLine ∧ Q (.str d.shown) H) := by
  intro pins s σ H vs us Q I r h
  obtain ⟨x, d, rfl, dp, h1, h2, h3, h4, q⟩ := h
  cases r with
  | @cons _ u _ _ rx rn =>
    cases rn
    obtain ⟨as, rd⟩ := Dp.reads I d x u dp rx
    have fin : ∀ (h' : Heap) (t : Tok) (tk : Nat), (∀ b o, s.heap.get? b = some o → h'.get? b = some o) → EP X pins σ Q (.str d.shown t) { s with heap := h', toks := tk } := fun h' t tk hk => ⟨.str d.shown, H, I.kept hk, ⟨t, rfl⟩, q⟩
    cases rd with
    | none => exact PySem.P.repr_of_none (by simpa only [PyData.shown] using fin s.heap _ _ fun _ _ e => e)
    | bool b => exact PySem.P.repr_of_bool (by simpa only [PyData.shown] using fin s.heap _ _ fun _ _ e => e)
    | int i t => exact PySem.P.repr_of_int (by simpa [PyData.showable] using h1) (by simpa only [PyData.shown] using fin s.heap _ _ fun _ _ e => e)
    | str y t => exact PySem.P.repr_of_str (by simpa only [PyData.shown] using fin s.heap _ _ fun _ _ e => e) (by simpa only [PyData.shown] using h4)
    | list a b c e => exact repr_of_reads' (.list a b c e) h1 (PyData.noDict_hsm h2) gd (by omega) (fun _ _ z => z) (fun h' t tk hk => fin h' t tk hk) h4
    | tuple a b c e => exact repr_of_reads' (.tuple a b c e) h1 (PyData.noDict_hsm h2) gd (by omega) (fun _ _ z => z) (fun h' t tk hk => fin h' t tk hk) h4
    | dict a b c e f => simp [PyData.hasDict] at h2
theorem mb_repr (gd : X.A.guards = some []) (hu : X.A.units + 64 < cLine) : CallR X (.builtin "repr") (rC X.K bRepr) := CallR.imp (call_reprD gd hu) fun vs H Q ⟨W, S, ds, r, S', ok, ra, h, q⟩ => by
  unfold bRepr at h
  split at h
  case h_2 => cases h
  rename_i d
  split at h
  case isFalse => cases h
  rename_i hr
  cases h
  unfold repOk at hr
  rw [Bool.and_eq_true, Bool.and_eq_true] at hr
  cases ra with
  | cons r1 r2 =>
    cases r2
    have hf := fit_lay 20 d hr.1
    exact ⟨_, toPy d, rfl, r1.dp ok hr.1, hr.2.1, PyData.hasDict_of_canLay _ hf.1, by omega, by rw [sizeLine_eq]; exact of_decide_eq_true hr.2.2, q W H _ (Ext.refl _ _) ok (.str _)⟩
end
end MP

namespace MP
variable {EX : L2.XK}
open PySem PySem.Spec PyProof.Rows L2
/-! ### l.index(x) where the items are data of any depth -/
def fIndexD : D → D → Sto → Res D := fun c d S => match c with
  | .lst es => if fitN 20 (.lst es) = true ∧ fitN 20 d = true then (match es.findIdx? fun z => deq z d with | some j => .ok (.int (j : Nat)) S | none => .bad) else .bad
  | _ => .bad
def dIndexD (dc dd : DE) : DE := fun env S => (dc env S).bind fun c S1 => (dd env S1).bind fun d S2 => fIndexD c d S2
section
variable {X : Cx}
/-! ### == of texts -/
def fEqS : D → D → Sto → Res R := fun d e S => match d, e with
  | .str x, .str y => .ok (.v (.bl (decide (x = y)))) S
  | _, _ => .bad
def fNeS : D → D → Sto → Res R := fun d e S => match d, e with
  | .str x, .str y => .ok (.v (.bl (!decide (x = y)))) S
  | _, _ => .bad
theorem dec_strV {x y : Str} : decide (V.str x = V.str y) = decide (x = y) := by
  by_cases h : x = y
  · rw [h, decide_eq_true rfl, decide_eq_true rfl]
  · rw [decide_eq_false h, decide_eq_false fun z => h (V.str.inj z)]
theorem mo_neS : OpR X (compareOp .NotEq) (rO X.K fNeS) := OpR.imp op_ne fun x y H Q ⟨W, S, d, e, r, S', ok, rx, ry, h, q⟩ => by
  unfold fNeS at h
  split at h
  case h_2 => cases h
  cases h
  obtain rfl := rx.str_inv
  obtain rfl := ry.str_inv
  exact ⟨rfl, by rw [dec_strV]; exact q W H _ (Ext.refl _ _) ok (.bl _)⟩
end
end MP

namespace MP
variable {EX : L2.XK}
open PySem PySem.Spec PyProof.Rows L2
/-! ### an expression that only looks: shared lists are lent to it, frozen as long as it runs -/
mutual
def noLoc : D → Bool
  | .loc _ => false
  | .tup l => noLocs l
  | .lst l => noLocs l
  | .wt l => noLocs l
  | .dk _ l => noLocs l
  | .dt _ l => noLocs l
  | .fk _ l => noLocs l
  | .ft _ l => noLocs l
  | .ex _ _ x => noLoc x
  | _ => true
def noLocs : List D → Bool
  | [] => true
  | d :: ds => noLoc d && noLocs ds
end
def noLocO : O → Bool
  | .l ds => noLocs ds
  | .k _ ds => noLocs ds
  | .t _ ds => noLocs ds
  | .fk _ ds => noLocs ds
  | .ft _ ds => noLocs ds
def lendC (n : Nat) : Option O → D
  | some (O.l ds) => if noLocs ds = true then .lst ds else .loc n
  | _ => .loc n
mutual
def lendD (S : Sto) : D → D
  | .loc n => lendC n S[n]?
  | .tup l => .tup (lendDs S l)
  | .lst l => .lst (lendDs S l)
  | .wt l => .wt (lendDs S l)
  | .dk ks l => .dk ks (lendDs S l)
  | .dt ks l => .dt ks (lendDs S l)
  | .fk ks l => .fk ks (lendDs S l)
  | .ft ks l => .ft ks (lendDs S l)
  | .ex n f x => .ex n f (lendD S x)
  | .non => .non
  | .bl b => .bl b
  | .int i => .int i
  | .str x => .str x
  | .ty n => .ty n
  | .scr ns => .scr ns
  | .ex0 n => .ex0 n
  | .cl n => .cl n
def lendDs (S : Sto) : List D → List D
  | [] => []
  | d :: ds => lendD S d :: lendDs S ds
end
def lendO (S : Sto) : O → O
  | .l ds => .l (lendDs S ds)
  | .k ks ds => .k ks (lendDs S ds)
  | .t ks ds => .t ks (lendDs S ds)
  | .fk ks ds => .fk ks (lendDs S ds)
  | .ft ks ds => .ft ks (lendDs S ds)
def lendSl (S : Sto) : Sl → Sl
  | .no => .no
  | .va d => if noLoc (lendD S d) = true then .va (lendD S d) else .no
  | .ow x => if noLocO (lendO S x) = true then .ow (lendO S x) else .no
mutual
theorem lend_id {S : Sto} : ∀ {d : D}, noLoc d = true → lendD S d = d
  | .loc n, h => by simp [noLoc] at h
  | .tup l, h => by rw [lendD, lends_id (d := l) h]
  | .lst l, h => by rw [lendD, lends_id (d := l) h]
  | .wt l, h => by rw [lendD, lends_id (d := l) h]
  | .dk ks l, h => by rw [lendD, lends_id (d := l) h]
  | .dt ks l, h => by rw [lendD, lends_id (d := l) h]
  | .fk ks l, h => by rw [lendD, lends_id (d := l) h]
  | .ft ks l, h => by rw [lendD, lends_id (d := l) h]
  | .ex n f x, h => by rw [lendD, lend_id (d := x) h]
  | .non, _ => by rw [lendD]
  | .bl b, _ => by rw [lendD]
  | .int i, _ => by rw [lendD]
  | .str x, _ => by rw [lendD]
  | .ty n, _ => by rw [lendD]
  | .scr ns, _ => by rw [lendD]
  | .ex0 n, _ => by rw [lendD]
  | .cl n, _ => by rw [lendD]
theorem lends_id {S : Sto} : ∀ {d : List D}, noLocs d = true → lendDs S d = d
  | [], _ => by rw [lendDs]
  | d :: ds, h => by
    have h : (noLoc d && noLocs ds) = true := h
    rw [Bool.and_eq_true] at h
    rw [lendDs, lend_id h.1, lends_id h.2]
end
theorem lendSl_id {S : Sto} {d : D} (h : noLoc d = true) : lendSl S (.va d) = .va d := by
  show (if noLoc (lendD S d) = true then Sl.va (lendD S d) else Sl.no) = _
  rw [lend_id h, if_pos h]
section
variable {K : PySem.W.Frag} {G G' : Hp} {r : List Addr} {S : Sto}
mutual
/-- what leans on no shared object stands in a larger world without any -/
theorem Rep.dry (h : SubH G G') : ∀ {d : D} {v : V}, noLoc d = true → Rep K G r d v → Rep K G' [] d v
  | .non, _, _, q => by cases q; exact .non
  | .bl _, _, _, q => by cases q; exact .bl _
  | .int _, _, _, q => by cases q; exact .int _
  | .str _, _, _, q => by cases q; exact .str _
  | .ty _, _, _, q => by cases q; exact .ty _
  | .tup ds, _, n, q => by cases q with | tup a b => exact .tup (h _ _ a) (RepL.dry h (ds := ds) n b)
  | .wt ds, _, n, q => by cases q with | wt a b => exact .wt (h.sqT a) (RepL.dry h (ds := ds) n b)
  | .lst ds, _, n, q => by cases q with | lst a b => exact .lst (h _ _ a) (RepL.dry h (ds := ds) n b)
  | .scr ns, _, _, q => by cases q with | scr a => exact .scr (h.sqL a)
  | .loc n, _, z, _ => by simp [noLoc] at z
  | .dk ks ds, _, n, q => by cases q with | dk a b c => exact .dk (h _ _ a) b (RepL.dry h (ds := ds) n c)
  | .dt ks ds, _, n, q => by cases q with | dt a b c => exact .dt (h _ _ a) b (RepL.dry h (ds := ds) n c)
  | .fk ks ds, _, n, q => by cases q with | fk a b c => exact .fk (h _ _ a) b (RepL.dry h (ds := ds) n c)
  | .ft ks ds, _, n, q => by cases q with | ft a b c => exact .ft (h _ _ a) b (RepL.dry h (ds := ds) n c)
  | .ex n f x, _, z, q => by cases q with | ex a b c => exact .ex (h _ _ a) (h _ _ b) (Rep.dry h (d := x) z c)
  | .ex0 n, _, _, q => by cases q with | ex0 a => exact .ex0 (h _ _ a)
  | .cl n, _, _, q => by cases q with | cl => exact .cl
theorem RepL.dry (h : SubH G G') : ∀ {ds : List D} {xs : List V}, noLocs ds = true → RepL K G r ds xs → RepL K G' [] ds xs
  | [], _, _, q => by cases q; exact .nil
  | d :: ds, _, n, q => by
    have n : (noLoc d && noLocs ds) = true := n
    rw [Bool.and_eq_true] at n
    cases q with
    | cons a b => exact .cons (Rep.dry h n.1 a) (RepL.dry h n.2 b)
end
/-- the cells that are lent stand frozen in G' -/
def Lent (K : PySem.W.Frag) (G G' : Hp) (r : List Addr) (S : Sto) : Prop := SubH G G' ∧ ∀ (n : Nat) (ds : List D) (a : Addr), S[n]? = some (O.l ds) → noLocs ds = true → r[n]? = some a → ∃ xs, G' a = some (.lst xs) ∧ RepL K G' [] ds xs
mutual
theorem lend_rep (h : Lent K G G' r S) : ∀ {d : D} {v : V}, noLoc (lendD S d) = true → Rep K G r d v → Rep K G' [] (lendD S d) v
  | .non, _, _, q => by rw [lendD]; cases q; exact .non
  | .bl _, _, _, q => by rw [lendD]; cases q; exact .bl _
  | .int _, _, _, q => by rw [lendD]; cases q; exact .int _
  | .str _, _, _, q => by rw [lendD]; cases q; exact .str _
  | .ty _, _, _, q => by rw [lendD]; cases q; exact .ty _
  | .tup ds, _, n, q => by rw [lendD] at n ⊢; cases q with | tup a b => exact .tup (h.1 _ _ a) (lends_rep h n b)
  | .wt ds, _, n, q => by rw [lendD] at n ⊢; cases q with | wt a b => exact .wt (h.1.sqT a) (lends_rep h n b)
  | .lst ds, _, n, q => by rw [lendD] at n ⊢; cases q with | lst a b => exact .lst (h.1 _ _ a) (lends_rep h n b)
  | .scr ns, _, _, q => by rw [lendD]; cases q with | scr a => exact .scr (h.1.sqL a)
  | .loc m, _, n, q => by
    rw [lendD] at n ⊢
    cases q with
    | @loc _ a q =>
      cases hS : S[m]? with
      | none => rw [hS] at n; simp [lendC, noLoc] at n
      | some x =>
        rw [hS] at n
        cases x with
        | l ds =>
          unfold lendC at n ⊢
          by_cases z : noLocs ds = true
          · obtain ⟨xs, h1, h2⟩ := h.2 m ds a hS z q
            simp only [z, if_true]
            exact .lst h1 h2
          · simp [z, noLoc] at n
        | _ => simp [lendC, noLoc] at n
  | .dk ks ds, _, n, q => by rw [lendD] at n ⊢; cases q with | dk a b c => exact .dk (h.1 _ _ a) b (lends_rep h n c)
  | .dt ks ds, _, n, q => by rw [lendD] at n ⊢; cases q with | dt a b c => exact .dt (h.1 _ _ a) b (lends_rep h n c)
  | .fk ks ds, _, n, q => by rw [lendD] at n ⊢; cases q with | fk a b c => exact .fk (h.1 _ _ a) b (lends_rep h n c)
  | .ft ks ds, _, n, q => by rw [lendD] at n ⊢; cases q with | ft a b c => exact .ft (h.1 _ _ a) b (lends_rep h n c)
  | .ex n f x, _, z, q => by rw [lendD] at z ⊢; cases q with | ex a b c => exact .ex (h.1 _ _ a) (h.1 _ _ b) (lend_rep h z c)
  | .ex0 n, _, _, q => by rw [lendD]; cases q with | ex0 a => exact .ex0 (h.1 _ _ a)
  | .cl n, _, _, q => by rw [lendD]; cases q with | cl => exact .cl
theorem lends_rep (h : Lent K G G' r S) : ∀ {ds : List D} {xs : List V}, noLocs (lendDs S ds) = true → RepL K G r ds xs → RepL K G' [] (lendDs S ds) xs
  | [], _, _, q => by rw [lendDs]; cases q; exact .nil
  | d :: ds, _, n, q => by
    rw [lendDs] at n ⊢
    have n : (noLoc (lendD S d) && noLocs (lendDs S ds)) = true := n
    rw [Bool.and_eq_true] at n
    cases q with
    | cons a b => exact .cons (lend_rep h n.1 a) (lends_rep h n.2 b)
end
theorem lendO_rep (h : Lent K G G' r S) {x : O} {u : HO} (n : noLocO (lendO S x) = true) (q : RepO K G r x u) : RepO K G' [] (lendO S x) u := by
  cases q with
  | l a => exact .l (lends_rep h n a)
  | k a b => exact .k a (lends_rep h n b)
  | t a b => exact .t a (lends_rep h n b)
  | fk a b => exact .fk a (lends_rep h n b)
  | ft a b => exact .ft a (lends_rep h n b)
end
/-- a value that leans on nothing -/
def scalD : D → Bool
  | .non => true
  | .bl _ => true
  | .int _ => true
  | .str _ => true
  | _ => false
theorem Rep.scal {K : PySem.W.Frag} {G G' : Hp} {r r' : List Addr} {d : D} {v : V} (h : scalD d = true) (q : Rep K G r d v) : Rep K G' r' d v := by
  cases q <;> first | (simp [scalD] at h; done) | skip
  · exact .non
  · exact .bl _
  · exact .int _
  · exact .str _
def scR (d : D) (S : Sto) : Res D := if scalD d = true then .ok d S else .bad
def dLend (de : DE) : DE := fun env S => match de (env.map (lendSl S)) [] with
  | .ok d _ => scR d S
  | _ => .bad
section
variable {K : PySem.W.Frag} {W : Wd} {S : Sto} {H H0 : Hp} {env : Envm} {σ : L2.St}
open Classical in
/-- the frozen world that is lent -/
noncomputable def lentG (W : Wd) (S : Sto) (H : Hp) : Hp := fun a => match W.G a with
  | some o => some o
  | none => if ∃ (n : Nat) (ds : List D), W.r[n]? = some a ∧ S[n]? = some (O.l ds) ∧ noLocs ds = true then H a else none
theorem lentG_old {a : Addr} {o : HO} (h : W.G a = some o) : lentG W S H a = some o := by
  unfold lentG
  rw [h]
theorem lentG_new {a : Addr} (h : W.G a = none) (z : ∃ (n : Nat) (ds : List D), W.r[n]? = some a ∧ S[n]? = some (O.l ds) ∧ noLocs ds = true) : lentG W S H a = H a := by
  unfold lentG
  rw [h]
  exact if_pos z
theorem lentG_no {a : Addr} (h : W.G a = none) (z : a ∉ W.r) : lentG W S H a = none := by
  unfold lentG
  rw [h]
  exact if_neg fun ⟨n, _, e, _⟩ => z (List.mem_of_getElem? e)
theorem lentG_sub (ok : WOk K W S H) : SubH (lentG W S H) H := fun a o e => by
  cases hg : W.G a with
  | some u =>
    rw [lentG_old hg] at e
    cases e
    exact ok.sub a _ hg
  | none =>
    by_cases z : ∃ (n : Nat) (ds : List D), W.r[n]? = some a ∧ S[n]? = some (O.l ds) ∧ noLocs ds = true
    · rw [lentG_new hg z] at e
      exact e
    · have e2 : lentG W S H a = none := by
        unfold lentG
        rw [hg]
        exact if_neg z
      rw [e2] at e
      cases e
theorem lent_of (ok : WOk K W S H) : Lent K W.G (lentG W S H) W.r S := by
  have s : SubH W.G (lentG W S H) := fun a o e => lentG_old e
  refine ⟨s, fun n ds a h1 h2 h3 => ?_⟩
  obtain ⟨a0, u, g1, g2, g3⟩ := ok.cell n _ h1
  rw [h3] at g1
  cases g1
  cases g3 with
  | @l _ xs g3 =>
    have gn := ok.ng a (List.mem_of_getElem? h3)
    exact ⟨xs, by rw [lentG_new gn ⟨n, ds, h3, h1, h2⟩]; exact g2, g3.dry s h2⟩
theorem lent_env (ok : WOk K W S H) (eo : EnvOk K W H H0 env σ) : EnvOk K ⟨lentG W S H, []⟩ H H0 (env.map (lendSl S)) σ := by
  have L := lent_of ok
  have back : ∀ {i : Nat} {x : O}, (env.map (lendSl S))[i]? = some (.ow x) → ∃ y, env[i]? = some (.ow y) ∧ x = lendO S y ∧ noLocO (lendO S y) = true := fun {i x} h => by
    rw [List.getElem?_map] at h
    obtain ⟨s, h1, h2⟩ := Option.map_eq_some_iff.mp h
    cases s with
    | no => cases h2
    | va d =>
      have h2 : (if noLoc (lendD S d) = true then Sl.va (lendD S d) else Sl.no) = .ow x := h2
      split at h2 <;> cases h2
    | ow y =>
      have h2 : (if noLocO (lendO S y) = true then Sl.ow (lendO S y) else Sl.no) = .ow x := h2
      split at h2
      · rename_i z
        cases h2
        exact ⟨y, h1, rfl, z⟩
      · cases h2
  refine ⟨by rw [List.length_map]; exact eo.len, fun i s o h1 h2 => ?_, fun i j x y a h1 h2 h3 h4 => ?_⟩
  · rw [List.getElem?_map] at h1
    obtain ⟨t, g1, rfl⟩ := Option.map_eq_some_iff.mp h1
    have z := eo.sl i t o g1 h2
    cases t with
    | no => trivial
    | va d =>
      show SlOk K _ H H0 (if noLoc (lendD S d) = true then Sl.va (lendD S d) else Sl.no) o
      split
      · rename_i n
        obtain ⟨v, z1, z2⟩ := z
        exact ⟨v, z1, lend_rep L n z2⟩
      · trivial
    | ow y =>
      show SlOk K _ H H0 (if noLocO (lendO S y) = true then Sl.ow (lendO S y) else Sl.no) o
      split
      · rename_i n
        obtain ⟨a, u, z1, z2, z3, z4, z5, z6⟩ := z
        exact ⟨a, u, z1, z2, lendO_rep L n z3, lentG_no z4 z5, fun h => (nomatch h), z6⟩
      · trivial
  · obtain ⟨x', q1, _, _⟩ := back h1
    obtain ⟨y', q2, _, _⟩ := back h2
    exact eo.dis i j x' y' a q1 q2 h3 h4
end
section
variable {X : Cx} {e : Expr}
theorem pe_lend {de : DE} (h : PE X e (tV X.K de)) : PE X e (tV X.K (dLend de)) := PE.imp h fun σ H Q ⟨W, S, H0, env, ok, eo, d, S', h, q⟩ => by
  unfold dLend at h
  cases hd : de (env.map (lendSl S)) [] with
  | xn c x S1 => rw [hd] at h; cases h
  | bad => rw [hd] at h; cases h
  | ok d1 S1 =>
    rw [hd] at h
    have h : (if scalD d1 = true then Res.ok d1 S else .bad) = .ok d S' := h
    split at h
    case isFalse => cases h
    rename_i sc
    cases h
    have wk : WOk X.K ⟨lentG W S H, []⟩ [] H := ⟨lentG_sub ok, List.nodup_nil, rfl, fun n x z => by simp at z, fun a z => by cases z⟩
    refine ⟨⟨lentG W S H, []⟩, [], H0, env.map (lendSl S), wk, lent_env ok eo, d, S1, hd, fun W1 H1 v e1 o1 r1 => ?_⟩
    have keep : ∀ a o, H a = some o → H1 a = some o := fun a o z => e1.h a o z fun n => nomatch n
    refine q W H1 v ⟨SubH.refl _, List.prefix_refl _, fun a z1 z2 => absurd z1 z2, fun a z => .inl z, fun a o z _ => keep a o z, fun a o z => ⟨o, keep a o z⟩⟩ ⟨fun a o z => keep a o (ok.sub a o z), ok.nd, ok.len, fun n x z => ?_, ok.ng⟩ (r1.scal sc)
    obtain ⟨a, u, z1, z2, z3⟩ := ok.cell n x z
    exact ⟨a, u, z1, keep a u z2, z3⟩
/-! ### x[i].append(e) of a shared list -/
def isLst : Option O → Bool
  | some (.l _) => true
  | _ => false
def putApp (env : Envm) (n : Nat) (d : D) (S : Sto) : Out := match S[n]? with
  | some (O.l ds) => if ds.length ≤ 100000 then .nx env (S.set n (.l (ds ++ [d]))) else .bad
  | _ => .bad
def dAppAt (dv de : DE) : DS := fun env S => match dv env S with
  | .ok (.loc n) S1 => if isLst S1[n]? = true then (match de env S1 with
    | .ok d S2 => putApp env n d S2
    | _ => .bad) else .bad
  | _ => .bad
end
end MP

namespace MP
variable {EX : L2.XK}
open PySem PySem.Spec PyProof.Rows L2
/-! ### a def picked out of a list, called by keywords -/
def dCallV (C : Calls) (tb : List (Str × Nat)) (de : DE) (da : DA) : DR := fun env S => (de env S).bind fun v S1 => match v with
  | .cl n => (match tb.lookup n with
    | some i => (da env S1).bind fun xs S2 => C i xs S2
    | none => .bad)
  | _ => .bad
/-- what a caller knows of the defs of the list -/
def TbV (K : PySem.W.Frag) (mg : Str → Option Value) (T : Nat → Option (Str × Nat)) (m : Nat) (ks : List Str) (pm : List Nat) (tb : List (Str × Nat)) : Prop := ∀ n i, tb.lookup n = some i → T i = some (n, m) ∧ mg n = some (.ref (He.ga K n)) ∧ KwOk K mg n ks pm
section
variable {X : Cx} {pos : Pos} {n : Nat} {T : Nat → Option (Str × Nat)} {C : Calls} {e0 : Expr} {kws : List Keyword}
end
end MP

namespace MP
open PySem PySem.Spec PyProof.Rows L2
/-! ### a test that only looks, with shared lists lent -/
def dLendT (dt : DT) : DT := fun env S => match dt (env.map (lendSl S)) [] with
  | .ok d _ => .ok d S
  | _ => .bad
end MP

namespace MP
open PySem PySem.Spec PyProof.Rows L2
/-! ### x[::-1], a list's or a tuple's -/
section
variable {prog : Program} {w : World} {A : Around} {E : Value → Shared → Prop} {s : Shared}
theorem applied_back {sl : Addr} {vs : Value} {n : Nat} {Q : Int × Int × Nat → Shared → Prop} (hs : s.heap.IsSliceOf sl .none .none vs) (ps : IsPart vs (some (-1)))
    (h : Q ((n : Int) - 1, -1, n) s) : wpAny (model prog w) A (Builtin.Slice.sliceApplied (.ref sl) (pure (n : Int))) Q E s := by
  obtain ⟨os, hos, hcs, hds⟩ := id hs
  unfold Builtin.Slice.sliceApplied Builtin.Slice.sliceFields
  refine wpAny_bind (wpAny_bind (wpAny_field hos hds (x := .none) rfl (wpAny_bind (wpAny_field hos hds (x := .none) rfl (wpAny_bind (wpAny_field hos hds (x := vs) rfl (wpAny_pure ?_)))))))
  refine wpAny_bind (HT.slicePart_ ps ?_)
  show wpAny _ _ (if ((-1 : Int) == 0) = true then _ else _) _ _ s
  rw [if_neg (by decide)]
  refine wpAny_bind (HT.slicePart_ IsPart.none (wpAny_bind (HT.slicePart_ IsPart.none (wpAny_bind (wpAny_pure ?_)))))
  refine wpAny_pure ?_
  have e : Builtin.Slice.slicePlaces ((n : Int) - 1) (-1) (-1) = n := by
    unfold Builtin.Slice.slicePlaces
    rw [if_neg (by decide)]
    by_cases c : n = 0
    · subst c
      rfl
    · rw [if_pos (by omega), show (-(-1) : Int) = 1 from rfl, Int.ediv_one]
      omega
  show Q ((n : Int) - 1, -1, Builtin.Slice.slicePlaces ((n : Int) - 1) (-1) (-1)) s
  rw [e]
  exact h
theorem pick_back (xs : Array Value) : ((List.range xs.size).filterMap fun (m : Nat) => xs[((xs.size : Int) - 1 + (m : Int) * -1).toNat]?).toArray = xs.toList.reverse.toArray := by
  have e : (fun (m : Nat) => xs[((xs.size : Int) - 1 + (m : Int) * -1).toNat]?) = (fun i : Nat => xs[i]?) ∘ fun m : Nat => xs.size - 1 - m := by
    funext m
    show xs[_]? = xs[_]?
    rw [show ((xs.size : Int) - 1 + (m : Int) * -1).toNat = xs.size - 1 - m by omega]
  rw [e, ← List.filterMap_map, PySem.W.krv_range, List.filterMap_reverse, PySem.W.krv_all]
theorem item_back {t sl : Addr} {items : Array Value} {vs : Value} {Q : Value → Shared → Prop} (ht : IsTup s.heap t items) (hs : s.heap.IsSliceOf sl .none .none vs) (ps : IsPart vs (some (-1)))
    (h : Q (.ref s.heap.objs.size) { s with heap := s.heap.push { cls := .type "tuple", data := .seq items.toList.reverse.toArray } })
    (hsz : items.size ≤ sizeLine) : wpAny (model prog w) A (getItem (.ref t) (.ref sl)) Q E s := by
  have htake : sizeOk (.seq items.toList.reverse.toArray) := by
    show items.toList.reverse.toArray.size ≤ sizeLine
    rw [List.size_toArray, List.length_reverse, Array.length_toList]
    exact hsz
  obtain ⟨os, hos, hcs, hds⟩ := id hs
  have hTs : s.TypeIs (.ref sl) "slice" := ⟨os, hos, hcs⟩
  unfold getItem
  try with_reducible refine wpAny_holding ?_
  first | refine wpAny_bind (wpAny_pure ?_) | skip
  refine wpAny_bind (wpAny_sequenceKey ht.typeIs (by decide) ?_)
  refine wpAny_bind (wpAny_callSpecial?_slot (name := Str.ofString "__getitem__") ht.typeIs PyProof.Rows.slot_tuple_getitem
    (wpAny_call_entry PyProof.Rows.slot_tuple_getitem ht.typeIs entry_tuple_getitem ?_ (args_tuple_getitem _ _)))
  show wpAny _ _ (Builtin.Tuple.tupleItemsOf (.ref t) >>= _) _ _ s
  refine wpAny_bind (tupleItemsOf_ ht ?_)
  refine wpAny_bind (wpAny_typeOf hTs ?_)
  rw [if_pos (by decide)]
  refine wpAny_bind (applied_back hs ps ?_)
  show wpAny _ _ (if ((((items.size : Int) - 1) == 0 && (-1 : Int) == 1 && items.size == items.size) = true) then _ else _) _ _ s
  rw [if_neg (by rw [show ((-1 : Int) == 1) = false from rfl, Bool.and_false, Bool.false_and]; exact Bool.false_ne_true), pick_back]
  first
    | exact wpAny_bind (m := Builtin.Tuple.tupleExact _) (wpAny_newObj_type (wpAny_pure ⟨_, rfl, wpAny_pure h⟩) htake)
    | exact wpAny_bind (m := Builtin.Tuple.tupleExact _) (wpAny_newObj_type (wpAny_bind (wpAny_pure (wpAny_pure ⟨_, rfl, wpAny_pure h⟩))) htake)
    | exact wpAny_bind (wpAny_bind (m := Builtin.Tuple.tupleExact _) (wpAny_newObj_type (wpAny_pure (wpAny_pure ⟨_, rfl, wpAny_pure h⟩)) htake))
    | exact wpAny_bind (wpAny_bind (m := Builtin.Tuple.tupleExact _) (wpAny_newObj_type (wpAny_pure ⟨_, rfl, wpAny_pure h⟩) htake))
end
/-- x[::-1], both -/
def tRev (K : PySem.W.Frag) (te : TE) : TE := fun σ H Q => te σ H fun x H1 => (∃ a xs, x = .ref a ∧ SqL K H1 a xs ∧ ∀ p, H1 p = none → Q (.ref p) (upd H1 p (.lst xs.reverse))) ∨
  ∃ a xs, x = .ref a ∧ SqT K H1 a xs ∧ ∀ p, H1 p = none → Q (.ref p) (upd H1 p (.tup xs.reverse))
section
variable {X : Cx}
theorem pe_rev {e : Expr} {te : TE} {k : Nat} {p1 p2 p3 pos : Pos} (he : PE X e te) : PE X (.Subscript e (.Slice none none (some (.UnaryOp .USub (.Constant (.int 1) k p1) p2)) p3) pos) (tRev X.K te) := by
  refine ⟨fun pins s σ H Q I h => ?_⟩
  refine Subscript_ (thn (he.run pins s σ H _ I h) fun v s1 ⟨x, H1, I1, r1, q1⟩ => ?_)
  have hst : PO X (some (.UnaryOp .USub (.Constant (.int 1) k p1) p2)) (tPart (tUn (rU fun i => .int (-i)) (tC (.int 1)))) := po_some (pe_un un_neg pe_int)
  refine wpAny_Slice (thn (po_none.run pins s1 σ H1 (fun o H2 => o = none ∧ H2 = H1) I1 ⟨rfl, rfl⟩) fun vl s2 ⟨l, H2, I2, pl, el, e2⟩ => ?_)
  subst el e2
  cases pl
  refine thn (po_none.run pins s2 σ H2 (fun o H3 => o = none ∧ H3 = H2) I2 ⟨rfl, rfl⟩) fun vu s3 ⟨u, H3, I3, pu, eu, e3⟩ => ?_
  subst eu e3
  cases pu
  refine thn (hst.run pins s3 σ H3 (fun o H4 => o = some (-1) ∧ H4 = H3) I3 ⟨1, rfl, -1, rfl, rfl, rfl⟩) fun vs s4 ⟨o, H4, I4, ps, eo, e4⟩ => ?_
  subst eo e4
  have I5 : Inv X pins σ H4 { s4 with heap := s4.heap.push { cls := .type "slice", data := .fields #[.none, .none, vs] } } := I4.kept (t' := s4.toks) fun b ob q => Heap.get?_push_of_some _ q
  rcases q1 with ⟨a, xs, ex, hx, q⟩ | ⟨a, xs, ex, hx, q⟩
  · subst ex
    cases r1
    obtain ⟨its, r, ht, hz⟩ := I5.list hx
    have hlen := r.length
    show wpAny (model X.prog X.w) X.A (subscriptTail e (.Slice none none (some (.UnaryOp .USub (.Constant (.int 1) k p1) p2)) p3) (.ref a) (.ref s4.heap.objs.size)) (EP X pins σ Q) X.xe { s4 with heap := s4.heap.push { cls := .type "slice", data := .fields #[.none, .none, vs] } }
    refine tail_any (ops := [.ref a, .ref s4.heap.objs.size]) ht.isList.typeIs (PySem.slot_list_getitem.lookup) ?_ (by with_unfolding_all rfl)
    refine wpAny_getItem_list_slice ht.isList (Heap.IsSliceOf.new _ .none .none vs) .none .none ps (by decide) ?_ (by rw [List.size_toArray]; omega)
    rw [PySem.W.krv_pick]
    refine ⟨.ref _, _, I5.laid (t' := s4.toks) (o := .lst xs.reverse) (fun b ob q => Heap.get?_push_of_some _ q) (Nat.le_refl _) ?_, rfl, q _ (I5.hok.fresh (Nat.le_refl _))⟩
    exact ⟨by rw [List.length_reverse]; exact hz, _, 0, r.reverse, Heap.get?_push_size _ rfl⟩
  · subst ex
    cases r1
    obtain ⟨its, r, ht, hz⟩ := I5.tuple hx
    have hlen := r.length
    show wpAny (model X.prog X.w) X.A (subscriptTail e (.Slice none none (some (.UnaryOp .USub (.Constant (.int 1) k p1) p2)) p3) (.ref a) (.ref s4.heap.objs.size)) (EP X pins σ Q) X.xe { s4 with heap := s4.heap.push { cls := .type "slice", data := .fields #[.none, .none, vs] } }
    refine tail_any (ops := [.ref a, .ref s4.heap.objs.size]) ht.typeIs (PyProof.Rows.slot_tuple_getitem.lookup) ?_ (by with_unfolding_all rfl)
    refine item_back ht (Heap.IsSliceOf.new _ .none .none vs) ps ?_ (by rw [List.size_toArray]; omega)
    refine ⟨.ref _, _, I5.laid (t' := s4.toks) (o := .tup xs.reverse) (fun b ob q => Heap.get?_push_of_some _ q) (Nat.le_refl _) ?_, rfl, q _ (I5.hok.fresh (Nat.le_refl _))⟩
    exact ⟨by rw [List.length_reverse]; exact hz, _, r.reverse, _, Heap.get?_push_size _ rfl, rfl, _, by simp; rfl⟩
def dRev (de : DE) : DR := fun env S => (de env S).bind fun d S1 => match d with
  | .lst xs => .ok (.o (.l xs.reverse)) S1
  | .tup xs => .ok (.v (.tup xs.reverse)) S1
  | _ => .bad
theorem me_rev {a : Expr} {k : Nat} {p1 p2 p3 pos : Pos} {de : DE} (he : PE X a (MP.tB X.K de)) : PE X (.Subscript a (.Slice none none (some (.UnaryOp .USub (.Constant (.int 1) k p1) p2)) p3) pos) (tR X.K (dRev de)) :=
  PE.imp (pe_rev he) fun σ H Q ⟨W, S, H0, env, ok, eo, r, S', h, q⟩ => by
    obtain ⟨d, S1, h1, h⟩ := bind_ok h
    refine ⟨W, S, H0, env, ok, eo, d, S1, h1, fun W3 H3 v ee o3 r3 => ?_⟩
    cases d with
    | lst ds =>
      cases h
      obtain ⟨a', xs, rfl, g1, g2⟩ := r3.lst_inv o3
      refine .inl ⟨a', xs, rfl, SqL.of g1, fun p hp => ?_⟩
      obtain ⟨x1, x2, x3⟩ := obj_new (x := .l _) o3 hp (.l g2.reverse)
      exact q _ _ _ (ee.trans x1) x2 (x3.back fun a h => ee.fresh h)
    | tup ds =>
      cases h
      obtain ⟨a', xs, rfl, g1, g2⟩ := r3.tup_inv
      refine .inr ⟨a', xs, rfl, SqT.of (o3.sub _ _ g1), fun p hp => ?_⟩
      obtain ⟨x1, x2, x3⟩ := tup_new o3 hp g2.reverse
      exact q _ _ _ (ee.trans x1) x2 x3
    | _ => cases h
end
end MP

namespace MP
open PySem PySem.Spec PyProof.Rows L2
/-! ### sorted(set(x)) of many ints, few of them different -/
def fSortSetW : D → Sto → Res R := fun d S1 => match seqInts d with
  | some ns => if ns.length ≤ 1000 ∧ (usort ns).length ≤ 60 then .ok (.o (.l ((usort ns).map D.int))) S1 else .bad
  | none => .bad
def dSortSetW (da : DE) : DR := fun env S => (da env S).bind fSortSetW
section
variable {X : Cx} {a : Expr}
end
/-! ### the rest of a def only looks: run with the shared lists lent; a truth is returned -/
def allVa : Envm → Bool := fun env => env.all fun s => match s with
  | .ow _ => false
  | _ => true
def rtV : R → Sto → Out := fun r S => match r with
  | .v (.bl b) => .rt (.v (.bl b)) S
  | _ => .bad
def dLendS (d : DS) : DS := fun env S => if allVa env = true then (match d (env.map (lendSl S)) [] with
  | .rt r _ => rtV r S
  | _ => .bad) else .bad
end MP

namespace MP
open PySem PySem.Spec PyProof.Rows L2
/-! ### a slot's own list handed on: to a test that only looks (a loan), to a statement that changes it (borrowed) -/
def locOk (n : Nat) : D → Bool
  | .loc k => decide (k < n)
  | d => noLoc d
section
variable {K : PySem.W.Frag} {G G' : Hp} {r r' : List Addr}
theorem Rep.cut {n : Nat} (h : SubH G G') (e : ∀ k, k < n → r'[k]? = r[k]?) {d : D} {v : V} (z : locOk n d = true) (q : Rep K G r d v) : Rep K G' r' d v := by
  by_cases c : ∃ k, d = .loc k
  · obtain ⟨k, rfl⟩ := c
    have := of_decide_eq_true z
    cases q with
    | loc a => exact .loc ((e k this).trans a)
  · have nl : noLoc d = true := by
      unfold locOk at z
      split at z
      · exact absurd ⟨_, rfl⟩ c
      · exact z
    exact (Rep.dry h nl q).mono (SubH.refl _) List.nil_prefix
theorem RepO.cut (h : SubH G G') {x : O} {u : HO} (z : noLocO x = true) (q : RepO K G r x u) : RepO K G' r' x u := by
  have m : ∀ {ds : List D} {xs : List V}, noLocs ds = true → RepL K G r ds xs → RepL K G' r' ds xs := fun n q => (RepL.dry h n q).mono (SubH.refl _) List.nil_prefix
  cases q with
  | l a => exact .l (m z a)
  | k a b => exact .k a (m z b)
  | t a b => exact .t a (m z b)
  | fk a b => exact .fk a (m z b)
  | ft a b => exact .ft a (m z b)
theorem RepL.scal {G G' : Hp} {r r' : List Addr} : ∀ {ds : List D} {xs : List V}, ds.all scalD = true → RepL K G r ds xs → RepL K G' r' ds xs
  | [], _, _, q => by cases q; exact .nil
  | d :: ds, _, n, q => by
    rw [List.all_cons, Bool.and_eq_true] at n
    cases q with
    | cons a b => exact .cons (a.scal n.1) (RepL.scal n.2 b)
end
def flatO : O → Bool
  | .l ds => ds.all scalD
  | _ => false
theorem RepO.flat {K : PySem.W.Frag} {G G' : Hp} {r r' : List Addr} {x : O} {u : HO} (z : flatO x = true) (q : RepO K G r x u) : RepO K G' r' x u := by
  cases q with
  | l a => exact .l (RepL.scal z a)
  | k a b => cases z
  | t a b => cases z
  | fk a b => cases z
  | ft a b => cases z
def hidSl : Sl → Sl
  | .va d => if noLoc d = true then .va d else .no
  | .ow x => if noLocO x = true then .ow x else .no
  | .no => .no
section
variable {K : PySem.W.Frag} {W : Wd} {S : Sto} {H H0 : Hp} {env : Envm} {σ : L2.St}
end
/-- a test that draws from the box of slot j (or from none) and reads slot i's own list -/
def dLoanT (i j : Nat) (dt : DT) : DT := fun env S => match env[i]?, env[j]? with
  | some (.ow (.l ds)), some (.va (.loc b)) => (match S[b]? with
    | some x => if noLocO x = true ∧ noLocs ds = true then (match dt ((((env.set i .no).map hidSl).set i (.va (.lst ds))).set j (.va (.loc 0))) [x] with
      | .ok t S1 => (match S1[0]? with
        | some y => if flatO y = true then .ok t (S.set b y) else .bad
        | none => .bad)
      | _ => .bad) else .bad
    | none => .bad)
  | _, _ => .bad
/-! slot i's own list is handed on alone, to a test or a call that changes it -/
def brE (env : Envm) (i : Nat) : Envm := ((env.set i .no).map hidSl).set i (.va (.loc 0))
def brB (o : Option O) (f : List D → Out) : Out := match o with
  | some (.l ds) => if noLocs ds = true then f ds else .bad
  | _ => .bad
def dIfB (i : Nat) (dt : DT) (A B : DS) : DS := fun env S => match env[i]? with
  | some (.ow (.l ds)) => if noLocs ds = true then (match dt (brE env i) [.l ds] with
    | .ok t S1 => brB S1[0]? fun ds2 => if t = true then A (env.set i (.ow (.l ds2))) S else B (env.set i (.ow (.l ds2))) S
    | _ => .bad) else .bad
  | _ => .bad
def dDropB (i : Nat) (de : DE) : DS := fun env S => match env[i]? with
  | some (.ow (.l ds)) => if noLocs ds = true then (match de (brE env i) [.l ds] with
    | .ok _ S1 => brB S1[0]? fun ds2 => .nx (env.set i (.ow (.l ds2))) S
    | _ => .bad) else .bad
  | _ => .bad
section
variable {K : PySem.W.Frag} {W0 W : Wd} {H0 H : Hp} {S : Sto} {env : Envm} {σ : L2.St}
end
section
variable {X : Cx} {EX : XK}
end
end MP

namespace MP
open PySem PySem.Spec PyProof.Rows L2
/-! ### an exception out of a comprehension's iterable, and on through a builtin's call -/
def dWhen (d0 main : DR) : DR := fun env S => match d0 env S with
  | .xn c x S1 => .xn c x S1
  | .ok _ _ => onlyR (main env S)
  | .bad => .bad
section
variable {X : Cx} {U : WX} {e : Expr} {dr d0 main : DR}
end
end MP

namespace MP
open PySem PySem.Spec PyProof.Rows L2
/-! ### {t: v}, t a tuple of numbers and texts -/
section
variable {prog : Program} {w : World} {K : Type} [DecidableEq K] {knd : HeapKind prog w K} {A : Around} {E : Value → Shared → Prop} {s : Shared}
end
section
variable {X : Cx} {pos : Pos}
def tDispT (tk tv : TE) : TE := fun σ H Q => ∀ p, H p = none → tk σ (upd H p (.dT [])) fun x H1 => tv σ H1 fun y H2 => H2 p = some (.dT []) ∧ ∃ b k, x = .ref b ∧ H2 b = some (.tup (k.map kV)) ∧ Q (.ref p) (upd H2 p (.dT [(k, y)]))
def dDispT1 (dk dv : DE) : DR := fun env S => (dk env S).bind fun k S1 => (dv env S1).bind fun v S2 => match MP.keysOf k with
  | some q => .ok (.o (.t [q] [v])) S2
  | none => .bad
end
end MP

namespace MP
open PySem PySem.Spec PyProof.Rows L2
/-! ### sorted(set(x)) of a tuple of pairs of small ints -/
section
variable {P : Program} {w : World} {A : Around} {E : Value → Shared → Prop} {s : Shared}
theorem call_set_tupsT {l : Addr} {items : Array Value} (ks : List (Addr × List Int)) {Q : Value → Shared → Prop} (hh : A.handled = none) (hl : s.heap.IsTuple l items) (hit : items.toList = ks.map fun p => Value.ref p.1)
    (hk : ∀ p ∈ ks, IsT P w s.heap p.2 p.1) (hfew : ks.length < 64) (hu : A.units + 3 < cLine)
    (h : ∀ (h' : Heap) (tk : Nat) L es ep t, SetTR P w h' s.heap.objs.size L es ep t → Got ks ks.length L → (∀ b o, s.heap.get? b = some o → h'.get? b = some o) → Q (.ref s.heap.objs.size) { s with heap := h', toks := tk }) :
    wpAny (model P w) A (call (.type "set") [.ref l]) Q E s := by
  have hisz : items.size = ks.length := by
    have q := congrArg List.length hit
    rw [Array.length_toList, List.length_map] at q
    exact q
  obtain ⟨c, tl, hmro⟩ := F.called_set.mro
  have hmade := F.called_set.made
  have hsub := F.called_set.sub
  refine wpAny_call (codeAny_of_tree ?_)
  show wpAny _ _ (callAny (.type "set") _) _ _ _
  refine wpAny_pure ⟨Code.quiet_builtin _ (by decide +kernel), codeAny_builtin F.entry_type_call ?_⟩
  rw [Around.under_plain (weight_type_call_type "set" [.ref l] []) rfl]
  have h1 := F.called_set.notType
  have h2 := F.called_set.canCreate
  have hct := F.typeCall_set_1 (.ref l)
  repeat (any_goals (first | assumption | wp_step))
  refine codeAny_mono (code_set_led1 (.ref l) (E := E) (Q₁ := fun obj s₁ => obj = .ref s.heap.objs.size ∧ s₁ = { s with heap := s.heap.push (setOb w) }) ⟨rfl, rfl⟩) fun r s₁ hr => ?_
  cases r with
  | error e => exact hr
  | ok fl =>
    cases fl with
    | ret obj =>
      obtain ⟨rfl, rfl⟩ := hr
      have hS : (s.heap.push (setOb w)).get? s.heap.objs.size = some (setOb w) := Heap.get?_push_size _ rfl
      have hT : Shared.TypeIs { s with heap := s.heap.push (setOb w) } (.ref s.heap.objs.size) "set" := ⟨_, hS, rfl⟩
      have hli := F.called_set.init.lookup
      have hbi := F.called_set.init.bind (.ref s.heap.objs.size)
      repeat (any_goals (first | assumption | wp_step))
      refine codeAny_mono (codeAny_call_builtin (R := wants (fun r s₂ => r = .none ∧ ∃ h' tk L es ep t, s₂ = { s with heap := h', toks := tk } ∧ SetTR P w h' s.heap.objs.size L es ep t ∧ Got ks ks.length L ∧
          (∀ b o, s.heap.get? b = some o → h'.get? b = some o)) E) F.called_set.init.plain F.entry_set_init (check_set_init_1 hT ?_)) fun r₂ s₂ hr₂ => ?_
      · obtain ⟨ol, hol, hcl, nl, hdl⟩ := hl
        obtain ⟨ocls, odict, odata, oslots⟩ := ol
        simp only at hcl hdl
        subst hcl; subst hdl
        have hol' : (s.heap.push (setOb w)).get? l = some { cls := .type "tuple", dict := odict, data := .seq items nl, slots := oslots } := Heap.get?_push_of_some _ hol
        have hsls := F.sub_tuple_set
        have hslf := F.sub_tuple_frozenset
        have hne : (Value.type "tuple" == Value.type "dict") = false := by decide
        have hl1 : (s.heap.push (setOb w)).IsTuple l items := ⟨_, hol', rfl, nl, rfl⟩
        unfold Builtin.«set.__init__» noKeywords Builtin.Frozenset.updateFrom
        generalize hPI : pyIter = PI
        wp_walk
        subst hPI
        refine wpAny_pyIter_tuple hl1 ?_
        refine wpAny_bind (wpAny_runValue ?_)
        have hlS : l < s.heap.objs.size := Heap.lt_size hol
        have hh3 : A.in1.in1.in1.handled = none := by simp [hh]
        have hneI : l ≠ (s.heap.push (setOb w)).objs.size := by
          rw [Heap.size_push]; exact Nat.ne_of_lt (Nat.lt_succ_of_lt hlS)
        have hSf : s.heap.objs.size ∉ [(s.heap.push (setOb w)).objs.size, l] := by
          rw [Heap.size_push]; simp only [List.mem_cons, List.mem_singleton, List.not_mem_nil, or_false, not_or]
          exact ⟨Nat.ne_of_lt (Nat.lt_succ_self _), Nat.ne_of_gt hlS⟩
        have hval : ∀ (i : Nat) (v : Value), items[i]? = some v → ∃ p, ks[i]? = some p ∧ v = .ref p.1 := fun i v hv => by
          have q : items.toList[i]? = some v := by rw [Array.getElem?_toList]; exact hv
          rw [hit, List.getElem?_map] at q
          cases hq : ks[i]? with
          | none => rw [hq] at q; cases q
          | some p =>
            rw [hq] at q
            exact ⟨p, rfl, (Option.some.inj q).symm⟩
        have none_of : ∀ b, s.heap.objs.size ≤ b → s.heap.get? b = none := fun b hb => by
          cases q : s.heap.get? b with
          | none => rfl
          | some o => exact absurd (Nat.lt_of_lt_of_le (Heap.lt_size q) hb) (Nat.lt_irrefl _)
        refine set_update_tups ((Walks.tuple hh3 _ l hneI items).toS) s.heap.objs.size
          hSf ks hisz hfew hval s.heap hk (none_of _ (Nat.le_refl _)) (fun b hb => none_of b (by
            rw [List.mem_singleton.mp hb, Heap.size_push]
            exact Nat.le_succ _)) hu (items.size - 0) 0 _ (by omega) (Nat.zero_le _)
          ⟨⟨_, Heap.get?_push_size _ rfl, rfl, rfl⟩, (hl1.push _)⟩ (fun b o e => Heap.get?_push_of_some _ (Heap.get?_push_of_some _ e)) ?hS0 ?hR
        case hS0 => exact ⟨[], #[], 0, _, setTR_fresh (Heap.get?_push_of_some _ hS), Got.zero ks⟩
        case hR =>
          intro s' L es ep t hm hS' g' hkp
          obtain ⟨h', g2, d', tk', os'⟩ := s'
          have eg : g2 = s.gens := hm.gens
          have ed : d' = s.drawn := hm.drawn
          have eo : os' = s.os := hm.os
          subst eg; subst ed; subst eo
          show wpAny _ _ _ _ _ _
          refine wpAny_pure ?_
          show wpAny _ _ (ret Value.none) _ _ _
          rw [hisz] at g'
          exact wpAny_pure ⟨rfl, h', tk', L, es, ep, t, rfl, hS', g', hkp⟩
      · cases r₂ with
        | error e => exact hr₂
        | ok fl₂ =>
          cases fl₂ with
          | ret r =>
            obtain ⟨rfl, h', tk, L, es, ep, t, rfl, hS', g', hk'⟩ := hr₂
            repeat (any_goals (first | assumption | wp_step))
            exact h _ _ _ _ _ _ hS' g' hk'
          | _ => exact hr₂.elim
    | _ => exact hr.elim
end
/-- pairs of numbers below 64, each as one number -/
def codesOf : List D → Option (List Int)
  | [] => some []
  | .tup [.int a, .int b] :: r => if 0 ≤ a ∧ a < 64 ∧ 0 ≤ b ∧ b < 64 then (codesOf r).map (fun l => (a * 64 + b) :: l) else none
  | _ :: _ => none
def dPr (c : Int) : D := .tup [.int (c / 64), .int (c % 64)]
def fSortSetP : D → Sto → Res R := fun d S1 => match d with
  | .tup ds => (match codesOf ds with
    | some cs => if cs.length ≤ 60 then .ok (.o (.l ((usort cs).map dPr))) S1 else .bad
    | none => .bad)
  | _ => .bad
def dSortSetP (da : DE) : DR := fun env S => (da env S).bind fSortSetP
theorem codes_rep {K : PySem.W.Frag} {G : Hp} {r : List Addr} : ∀ {ds : List D} {xs : List V} {cs : List Int}, RepL K G r ds xs → codesOf ds = some cs →
    ∃ ks : List (Addr × List Int), xs = ks.map (fun p => V.ref p.1) ∧ cs = ks.map (fun p => TS.code 64 p.2) ∧
      ∀ p ∈ ks, G p.1 = some (.tup (p.2.map V.int)) ∧ (p.2.length = 2 ∧ TS.Bd 64 p.2) ∧ Rep K G r (dPr (TS.code 64 p.2)) (.ref p.1)
  | [], _, cs, h, e => by
    cases h
    unfold codesOf at e
    cases e
    exact ⟨[], rfl, rfl, fun p hp => by cases hp⟩
  | d :: ds, _, cs, h, e => by
    cases h with
    | cons h1 h2 =>
      unfold codesOf at e
      split at e
      case h_1 => rename_i z; cases z
      case h_3 => cases e
      rename_i a b r' z
      cases z
      split at e
      case isFalse => cases e
      rename_i hb
      obtain ⟨cs', e1, e2⟩ := Option.map_eq_some_iff.mp e
      subst e2
      obtain ⟨ks, q1, q2, q3⟩ := codes_rep h2 e1
      cases h1 with
      | tup g1 g2 =>
        rename_i ad xs'
        cases g2 with
        | cons g2 g3 =>
          cases g2
          cases g3 with
          | cons g3 g4 =>
            cases g3
            cases g4
            refine ⟨(ad, [a, b]) :: ks, by rw [q1] <;> rfl, by rw [q2, List.map_cons, code_pair] <;> rfl, fun p hp => ?_⟩
            rcases List.mem_cons.mp hp with rfl | hp
            · refine ⟨g1, ⟨rfl, fun x hx => ?_⟩, ?_⟩
              · rcases List.mem_cons.mp hx with rfl | hx
                · exact ⟨hb.1, hb.2.1⟩
                · rcases List.mem_cons.mp hx with rfl | hx
                  · exact ⟨hb.2.2.1, hb.2.2.2⟩
                  · cases hx
              · have e1 : (a * 64 + b) / 64 = a := by omega
                have e2 : (a * 64 + b) % 64 = b := by omega
                show Rep K G r (dPr (TS.code 64 [a, b])) (.ref ad)
                rw [code_pair]
                unfold dPr
                rw [e1, e2]
                exact .tup g1 (.cons (.int a) (.cons (.int b) .nil))
            · exact q3 p hp
theorem code_inj {x y : List Int} (hx : x.length = 2 ∧ TS.Bd 64 x) (hy : y.length = 2 ∧ TS.Bd 64 y) (h : TS.code 64 x = TS.code 64 y) : x = y := by
  obtain ⟨lx, bx⟩ := hx
  obtain ⟨ly, by'⟩ := hy
  match x, y, lx, ly with
  | [a, b], [c, d], _, _ =>
    rw [code_pair, code_pair] at h
    have h1 := bx a (by simp)
    have h2 := bx b (by simp)
    have h3 := by' c (by simp)
    have h4 := by' d (by simp)
    have e1 : a = c := by omega
    have e2 : b = d := by omega
    rw [e1, e2]
theorem repL_of_codes {K : PySem.W.Frag} {G : Hp} {r : List Addr} : ∀ (L : List (Addr × List Int)), (∀ p ∈ L, Rep K G r (dPr (TS.code 64 p.2)) (.ref p.1)) →
    RepL K G r ((L.map fun p => TS.code 64 p.2).map dPr) (L.map fun q => V.ref q.1)
  | [], _ => .nil
  | p :: L, h => .cons (h p List.mem_cons_self) (repL_of_codes L fun q hq => h q (List.mem_cons_of_mem _ hq))
section
variable {X : Cx} {a : Expr}
theorem me_sortSetP {da : DE} {p p2 q pos : Pos} (hc : X.calm = true) (hu : X.A.units + 200 < cLine) (hg : Gl X "sorted") (hm : X.mg "sorted" = none) (hg2 : Gl X "set") (hm2 : X.mg "set" = none) (ha : PE X a (MP.tB X.K da))
    (na : starEach [a] X.env = (false, eval a X.env) :: starEach [] X.env := by rfl) : PE X (.Call (.Name "sorted" p) [.Call (.Name "set" p2) [a] [] q] [] pos) (tR X.K (dSortSetP da)) := by
  refine ⟨fun pins s σ H Q I ⟨W, S, H0, env, ok, eo, d, S', h, q⟩ => ?_⟩
  obtain ⟨d1, S1, h1, h2⟩ := bind_ok h
  unfold fSortSetP at h2
  split at h2
  case h_2 => cases h2
  rename_i ds
  split at h2
  case h_2 => cases h2
  rename_i cs e
  split at h2
  case isFalse => cases h2
  rename_i hl
  cases h2
  refine Call_ (ld_blt I hg hm PyProof.Rows.boot_sorted ?_)
  refine PyProof.Rows.callWith_builtin1 (PyProof.Rows.args_cons ?_ rfl) rfl rfl
  refine Call_ (ld_blt I hg2 hm2 PyProof.Rows.boot_set ?_)
  refine PyProof.Rows.callWith_type1 (PyProof.Rows.args_cons (thn (ha.run pins s σ H (fun v H1 => ∃ W1, Ext W H W1 H1 ∧ WOk X.K W1 S' H1 ∧ RepB X.K W1 H1 (.tup ds) v) I ⟨W, S, H0, env, ok, eo, _, S', h1, fun W1 H1 v e1 o1 r1 => ⟨W1, e1, o1, r1⟩⟩) fun v s1 ⟨x, H1, I1, r1, W1, e1, o1, rb⟩ => PyProof.Rows.args_nil ?_) na) na rfl
  obtain ⟨b, xs, rfl, g1, g2⟩ := rb.tup_inv
  cases r1
  obtain ⟨ks, k1, k2, k3⟩ := codes_rep g2 e
  obtain ⟨its, rv, pt, hz⟩ := I1.tuple (SqT.of (o1.sub _ _ g1))
  have hlen : ks.length ≤ 60 := by
    have := hl
    rw [k2, List.length_map] at this
    exact this
  subst k1
  refine call_set_tupsT (P := X.prog) (w := X.w) ks (I1.ok.hd hc) (show s1.heap.IsTuple b its.toArray from pt) (by simpa using refs_of_vals rv) (fun p hp => I1.isT (SqT.of (o1.sub _ _ (k3 p hp).1))) (by omega) (by omega) fun h' tk L es ep t R g hk => PyProof.Rows.args_nil ?_
  have sub : ∀ p ∈ L, p ∈ ks := fun p hp => List.mem_of_mem_take (g.sub p hp)
  have I2 : Inv X pins σ H1 { s1 with heap := h', toks := tk } := I1.kept hk
  refine sorted_setT (s := { s1 with heap := h', toks := tk }) R (I2.ok.hd hc) (d := 2) (B := 64) (by omega) (fun p hp => (k3 p (sub p hp)).2.1) fun s' p out c2 L' k gg o hp hgp hi pm pw => ?_
  have subL : ∀ p ∈ L', p ∈ ks := fun p hp => sub p (pm.mem_iff.mp hp)
  have nd : (L'.map (·.2)).Nodup := (pm.map (·.2)).nodup_iff.mpr R.nd
  have en : L'.map (fun p => TS.code 64 p.2) = usort cs := lt_unique (by
      rw [List.pairwise_map]
      rw [List.nodup_iff_pairwise_ne, List.pairwise_map] at nd
      refine ((pw.and nd).imp_of_mem fun {u v} hu hv z => ?_)
      have n : TS.code 64 u.2 ≠ TS.code 64 v.2 := fun w => z.2 (code_inj (k3 u (subL u hu)).2.1 (k3 v (subL v hv)).2.1 w)
      have := z.1
      omega) (usort_lt cs) fun j => by
    rw [mem_usort, k2]
    constructor
    · intro hj
      obtain ⟨u, h1, h2⟩ := List.mem_map.mp hj
      exact List.mem_map.mpr ⟨u, subL u h1, h2⟩
    · intro hj
      obtain ⟨u, h1, h2⟩ := List.mem_map.mp hj
      obtain ⟨v, h3, h4⟩ := List.mem_map.mp (g.all u (by rw [List.take_length]; exact h1))
      exact List.mem_map.mpr ⟨v, pm.mem_iff.mpr h3, by rw [h4]; exact h2⟩
  have hlen2 : (L'.map fun q => V.ref q.1).length ≤ sizeLine := by
    have := R.few
    rw [List.length_map, sizeLine_eq, pm.length_eq]; omega
  have hn : H1 p = none := I2.hok.fresh hp
  have hv : Vals (L'.map fun q => V.ref q.1) out.toList := by rw [hi]; exact vals_of_refs L'
  have J : Inv X pins σ (upd H1 p (.lst (L'.map fun q => V.ref q.1))) { s1 with heap := s'.heap, gens := s'.gens, drawn := s'.drawn, toks := s'.toks } :=
    I2.call (s := { s1 with heap := h', toks := tk }) (ch := []) (Un.laid k hp hn) (I2.hok.laid k hp ⟨hlen2, out.toList, c2, hv, hgp⟩) (by rw [gg]; exact I2.bare) (fun _ z => nomatch z)
  have es : s' = { s1 with heap := s'.heap, gens := s'.gens, drawn := s'.drawn, toks := s'.toks } := by
    cases s'
    cases s1
    cases o
    rfl
  rw [es]
  have rl : RepL X.K W1.G W1.r ((usort cs).map dPr) (L'.map fun q => V.ref q.1) := by
    rw [← en]
    exact repL_of_codes L' fun p hp => (k3 p (subL p hp)).2.2
  obtain ⟨e2, o2, r2⟩ := obj_new (x := .l ((usort cs).map dPr)) o1 hn (.l rl)
  exact ⟨.ref p, _, J, rfl, q _ _ _ (e1.trans e2) o2 (r2.back fun a h => e1.fresh h)⟩
end
end MP

namespace MP
open PySem PySem.Spec PyProof.Rows L2
/-! ### sorted(d), the keys of d tuples -/
def keyTD (k : List Key) : D := .tup (k.map keyD)
def bSortKT : List D → Sto → Res R := fun ds S => match ds with
  | [.dt ks _] => if (sortOk (ks.map keyTD) || mtOk (ks.map keyTD)) = true then .ok (.o (.l (dSort (ks.map keyTD)))) S else .bad
  | [.ft ks _] => if (sortOk (ks.map keyTD) || mtOk (ks.map keyTD)) = true then .ok (.o (.l (dSort (ks.map keyTD)))) S else .bad
  | _ => .bad
section
variable {X : Cx}
end
end MP

namespace MP
open PySem PySem.Spec PyProof.Rows L2
/-! ### x.pop(k) and x.insert(k, y) as statements -/
section
variable {EX : L2.XK}
theorem mut1v_of {K : PySem.W.Frag} {i : Nat} {f : List D → D → Option (List D)} {de : DE} {r : V → List V → Hp → VK → Prop} {D : Ends} {σ : L2.St} {H : Hp}
    (hr : ∀ (G : Hp) (l : List Addr) (H : Hp) (a : Addr) (ds ds' : List MP.D) (d : MP.D) (xs : List V) (v : V) (Q : VK), SubH G H → H a = some (.lst xs) → RepL K G l ds xs → Rep K G l d v → f ds d = some ds' → (∀ y xs', RepL K G l ds' xs' → Q y (upd H a (.lst xs'))) → r (.ref a) [v] H Q)
    (h : tS K EX (dMut1 i f de) D σ H) : tDrop (tBM K "list" r (tVar i) (tCons (tV K de) tNil)) D σ H := by
  obtain ⟨W0, H0, W, S, env, s, q⟩ := h
  unfold dMut1 at q
  split at q
  case isFalse => exact q.elim
  rename_i hl
  obtain ⟨a, xs, h1, h2⟩ := list_slot s.ok s.env hl
  refine ⟨.ref a, h1, .inl ⟨rfl, xs, SqL.of h2⟩, ?_⟩
  cases h : de env S with
  | xn c x S1 => rw [h] at q; exact q.elim
  | bad => rw [h] at q; exact q.elim
  | ok d S1 =>
    rw [h] at q
    refine ⟨W, S, H0, env, s.ok, s.env, d, S1, h, fun W1 H1 v e1 o1 r1 => ?_⟩
    obtain ⟨a', ds, xs', ds', g1, g2, g3, g4, g5⟩ := mut_of (s.step e1 o1) e1.gr q
    rw [h1] at g1
    cases g1
    exact hr W1.G W1.r H1 a ds ds' d xs' v _ o1.sub g2 g3 r1 g4 fun _ => g5
end
def fPopI : List D → D → Option (List D) := fun ds d => match d with
  | .int k => if 0 ≤ k ∧ k.toNat < ds.length ∧ k ≤ 100000 then some (ds.eraseIdx k.toNat) else none
  | _ => none
def fInsI (k : Int) (y : D) : List D → Option (List D) := fun ds => if 0 ≤ k ∧ k ≤ 100000 ∧ ds.length ≤ 100000 then some (ds.take k.toNat ++ [y] ++ ds.drop k.toNat) else none
def dIns (i : Nat) (d1 d2 : DE) : DS := fun env S => if listSlot i env S = true then (match d1 env S with
  | .ok (.int k) S1 => (match d2 env S1 with
    | .ok y S2 => mutL i (fInsI k y) env S2
    | .xn _ _ _ => .bad
    | .bad => .bad)
  | .ok _ _ => .bad
  | .xn _ _ _ => .bad
  | .bad => .bad) else .bad
section
variable {X : Cx} {EX : L2.XK} {e e2 : Expr} {pos : Pos}
theorem ms_popI (i : Nat) {x : Str} {de : DE} {p1 p2 p3 : Pos} (he : PE X e (tV X.K de)) (hN : X.N[i]? = some x := by rfl) (hv : Vis X.env.scope x := by first | exact Or.inl rfl | exact Or.inr (Or.inl rfl) | exact Or.inr (Or.inr rfl)) (hd : (x == ("__debug__" : Str)) = false := by decide)
    (hcd : (x == ("__classdict__" : Str)) = false := by decide) (hst : starEach [e] X.env = (false, eval e X.env) :: starEach [] X.env := by rfl) (hbase : attributeBase (.Name x p1) "pop" X.env (eval (.Name x p1) X.env) = eval (.Name x p1) X.env := by rfl)
    (hfew : ((backTo p3 (starEach [e] X.env)).all (fun x => !x.1) && (backToKw p3 (keywordEach [] X.env)).all (fun x => x.1.isSome) && decide ([e].length + ([] : List Keyword).length + (if ([] : List Keyword).isEmpty then 0 else 1) < 30)) = true := by rfl)
    (hline : (p2.endLine == p3.line) = true := by rfl) (hs : swapsWith (.Call (.Attribute (.Name x p1) "pop" p2) [e] [] p3) none pos.line X.env = pure false := by rfl) :
    PS X (.Expr (.Call (.Attribute (.Name x p1) "pop" p2) [e] [] p3) pos) (tS X.K EX (dMut1 i fPopI de)) :=
  PS.imp (ps_expr (pe_bm PySem.F.plainAttrs_list PySem.F.slot_list_pop PySem.F.type_list_pop mt_popAt (pe_var hN hv hd hcd) (pa_cons he pa_nil hst) hbase hfew hline hst) hs) fun D σ H h => mut1v_of (fun G l H a ds ds' d xs v Q sb h1 h2 h3 h4 h5 => by
    unfold fPopI at h4
    split at h4
    case h_2 => cases h4
    rename_i k
    split at h4
    case isFalse => cases h4
    rename_i c
    cases h4
    cases h3
    have hl := h2.length
    have hlt : k.toNat < xs.length := by omega
    have b63 : (2 : Int) ^ 63 = 9223372036854775808 := by decide
    refine ⟨a, xs, k, k.toNat, xs[k.toNat], rfl, rfl, h1, by omega, by omega, ?_, List.getElem?_eq_getElem hlt, h5 _ _ (h2.eraseIdx _)⟩
    have c1 : ¬ k < 0 := by omega
    have c2 : (k < (xs.length : Int)) := by omega
    simp [seqIndex?, c1, c2, c.1]) h
theorem ms_ins (i : Nat) {x : Str} {d1 d2 : DE} {p1 p2 p3 : Pos} (he : PE X e (tV X.K d1)) (he2 : PE X e2 (tV X.K d2)) (hN : X.N[i]? = some x := by rfl) (hv : Vis X.env.scope x := by first | exact Or.inl rfl | exact Or.inr (Or.inl rfl) | exact Or.inr (Or.inr rfl)) (hd : (x == ("__debug__" : Str)) = false := by decide)
    (hcd : (x == ("__classdict__" : Str)) = false := by decide) (hst2 : starEach [e2] X.env = (false, eval e2 X.env) :: starEach [] X.env := by rfl) (hst : starEach [e, e2] X.env = (false, eval e X.env) :: starEach [e2] X.env := by rfl) (hbase : attributeBase (.Name x p1) "insert" X.env (eval (.Name x p1) X.env) = eval (.Name x p1) X.env := by rfl)
    (hfew : ((backTo p3 (starEach [e, e2] X.env)).all (fun x => !x.1) && (backToKw p3 (keywordEach [] X.env)).all (fun x => x.1.isSome) && decide ([e, e2].length + ([] : List Keyword).length + (if ([] : List Keyword).isEmpty then 0 else 1) < 30)) = true := by rfl)
    (hline : (p2.endLine == p3.line) = true := by rfl) (hpl : (backTo p3 (starEach [e2] X.env)).any (·.1) = false := by rfl) (hs : swapsWith (.Call (.Attribute (.Name x p1) "insert" p2) [e, e2] [] p3) none pos.line X.env = pure false := by rfl) :
    PS X (.Expr (.Call (.Attribute (.Name x p1) "insert" p2) [e, e2] [] p3) pos) (tS X.K EX (dIns i d1 d2)) :=
  PS.imp (ps_expr (pe_bm PySem.F.plainAttrs_list PySem.F.slot_list_insert PySem.F.type_list_insert mt_insert (pe_var hN hv hd hcd) (pa_cons he (pa_cons he2 pa_nil hst2) hst) hbase hfew hline hst hpl) hs) fun D σ H ⟨W0, H0, W, S, env, s, q⟩ => by
    unfold dIns at q
    split at q
    case isFalse => exact q.elim
    rename_i hl
    obtain ⟨a, xs, h1, h2⟩ := list_slot s.ok s.env hl
    refine ⟨.ref a, h1, .inl ⟨rfl, xs, SqL.of h2⟩, ?_⟩
    cases h : d1 env S with
    | xn c x S1 => rw [h] at q; exact q.elim
    | bad => rw [h] at q; exact q.elim
    | ok d S1 =>
      rw [h] at q
      cases d with
      | int k =>
        refine ⟨W, S, H0, env, s.ok, s.env, _, S1, h, fun W1 H1 v e1 o1 r1 => ?_⟩
        have s1 := s.step e1 o1
        have q : OutOk X.K EX W0 H0 W D (match d2 env S1 with
          | .ok y S2 => mutL i (fInsI k y) env S2
          | .xn _ _ _ => .bad
          | .bad => .bad) := q
        cases h3 : d2 env S1 with
        | xn c x S2 => rw [h3] at q; exact q.elim
        | bad => rw [h3] at q; exact q.elim
        | ok y S2 =>
          rw [h3] at q
          refine ⟨W1, S1, _, env, s1.ok, s1.env, _, S2, h3, fun W2 H2 u e2 o2 r2 => ?_⟩
          obtain ⟨a', ds, xs', ds', g1, g2, g3, g4, g5⟩ := mut_of (s1.step e2 o2) (e1.trans e2).gr q
          rw [h1] at g1
          cases g1
          cases r1
          unfold fInsI at g4
          split at g4
          case isFalse => cases g4
          rename_i c
          cases g4
          have hl := g3.length
          have b63 : (2 : Int) ^ 63 = 9223372036854775808 := by decide
          exact ⟨a, xs', k, u, rfl, rfl, g2, by rw [sizeLine_eq]; omega, by omega, by omega, g5 _ (((g3.take _).append (.cons r2 .nil)).append (g3.drop _))⟩
      | _ => exact q.elim
/-- str(i) of an int -/
def bStr : List D → Sto → Res R := fun ds S => match ds with
  | [.int i] => if i.natAbs.log2 < 1920 then .ok (.v (.str (toString i))) S else .bad
  | _ => .bad
theorem mb_str : CallR X (.type "str") (rC X.K bStr) := CallR.imp call_str_int fun vs H Q ⟨W, S, ds, r, S', ok, ra, h, q⟩ => by
  unfold bStr at h
  split at h
  · rename_i i
    split at h
    case isFalse => cases h
    rename_i hi
    cases ra with
    | cons r1 r2 =>
      cases r2
      obtain rfl := r1.int_inv
      cases h
      exact ⟨_, rfl, hi, q W H _ (Ext.refl _ _) ok (.str _)⟩
  · cases h
end
end MP

namespace MP
open PySem PySem.Spec PyProof.Rows L2

def b__law_book_v0 (C : Calls) : DS :=
  (dSeqS
  (dSet 2 (dOp fIx (fz (dCall C 228 (dCons (dVar 0) (dCons (dVar 1) dNil)))) (dC (.int 2))))
  (dRet (dIfR (dB (fz (dOp fEq (fz (dCall C 238 (dCons (dVar 0) (dCons (dC (.int 2)) dNil)))) (dC (.int 0))))) (dCall C 220 (dCons (dVar 0) (dCons (dVar 2) dNil))) (rv (dVar 2)))))
def q__law_book_v0 : FD := ⟨"_law_book", 2, 3, b__law_book_v0⟩
abbrev i__law_book_v0 : Nat := 15

def b__law_bounds_v0 (C : Calls) : DS :=
  (dSeqS
  (dPar [2, 3] (rCons (rv (dC (.int 0))) (rCons (dOp fSub (fz (dOp fIx (dBVar 0) (dC (.int 1)))) (dC (.int 1))) rNil)))
  (dSeqS
  (dFor (dSeq (fz (dOp fIx (dBVar 0) (dC (.int 2))))) (.tp [(.nm 4), (.nm 5), (.nm 6)]) (dSeqS
  (dIfS (dAndT (dB (fz (dOp fEq (dBVar 5) (dC (.str "end"))))) (dB (fz (dOp fEq (dBVar 6) (dBVar 1))))) (dSet 2 (dBlt bMax2 (dCons (dBVar 2) (dCons (fz (dOp fAdd (dBVar 4) (dC (.int 1)))) dNil)))) dSkip)
  (dIfS (dAndT (dB (fz (dOp fEq (dBVar 5) (dC (.str "closed"))))) (dB (fz (dOp fEq (dBVar 6) (dBVar 1))))) (dPar [2, 3] (rCons (dBlt bMax2 (dCons (dBVar 2) (dCons (dBVar 4) dNil))) (rCons (dBlt bMin2 (dCons (dBVar 3) (dCons (dBVar 4) dNil))) rNil))) dSkip)))
  (dRet (rv (dTup (dCons (dVar 2) (dCons (dVar 3) dNil)))))))
def q__law_bounds_v0 : FD := ⟨"_law_bounds", 2, 7, b__law_bounds_v0⟩
abbrev i__law_bounds_v0 : Nat := 22

def b__law_box (C : Calls) : DS :=
  (dSeqS
  (dSet 2 (dCall C 28 (dCons (dVar 0) (dCons (dVar 1) dNil))))
  (dRet (dLst (dCons (fz (dOp fMul (fz (dBlt bAbs (dCons (dBVar 2) dNil))) (fz (dBlt bInt (dCons (fz (dOp fGe (fz (dBlt bAbs (dCons (dBVar 2) dNil))) (fz (dOp fPow (dC (.int 10)) (dC (.int 18)))))) dNil))))) (dCons (fz (dOp fAdd (fz (dOp fAdd (fz (dOp fMod (dBVar 2) (dC (.int 2305843009213693951)))) (fz (dOp fMul (dC (.int 39373)) (dBVar 1))))) (dC (.int 29)))) (dCons (dC (.int 0)) dNil))))))
def q__law_box : FD := ⟨"_law_box", 2, 3, b__law_box⟩
abbrev i__law_box : Nat := 24

def b__law_cell_at (C : Calls) : DS :=
  (dSeqS
  (dIfS (dB (fz (dOp fLt (dBVar 1) (fz (dBlt bLen (dCons (dBVar 0) dNil)))))) (dRet (dOp fIx (dBVar 0) (dBVar 1))) dSkip)
  (dRet (rv (dC (.int 0)))))
def q__law_cell_at : FD := ⟨"_law_cell_at", 2, 2, b__law_cell_at⟩
abbrev i__law_cell_at : Nat := 28

def b__law_deed (C : Calls) : DS :=
  (dSeqS
  (dUnp (.tp [(.nm 4), (.nm 5)]) (dVar 2))
  (dSeqS
  (dPar [6, 7] (rCons (dCall C 238 (dCons (dVar 0) (dCons (dC (.int 14)) dNil))) (rCons (dCall C 143 (dCons (dVar 1) (dCons (dVar 4) dNil))) rNil)))
  (dSeqS
  (dPar [8, 9] (rCons (dOp fSub (fz (dCall C 238 (dCons (dVar 0) (dCons (fz (dOp fAdd (fz (dOp fIx (dBVar 1) (dC (.int 0)))) (dC (.int 2)))) dNil)))) (dC (.int 1))) (rCons (dBlt bLen (dCons (dBVar 4) dNil)) rNil)))
  (dSeqS
  (dIfS (dB (fz (dOp fLt (dBVar 6) (dC (.int 5))))) (dFrz 7 (dRet (rv (dTup (dCons (dC (.str "close")) (dCons (dIf (dAndT (dB (fz (dOp fNe (dBVar 7) (fz (dLst dNil))))) (dB (fz (dOp fGt (fz (dCall C 238 (dCons (dVar 0) (dCons (dC (.int 5)) dNil)))) (dC (.int 0)))))) (fz (dCall C 110 (dCons (dVar 0) (dCons (dVar 7) dNil)))) (dVar 8)) dNil)))))) dSkip)
  (dSeqS
  (dIfS (dB (fz (dOp fLt (dBVar 6) (dC (.int 7))))) (dSeqS
  (dPar [3, 12] (rCons (dLst dNil) (rCons (rv (dVar 4)) rNil)))
  (dSeqS
  (dFor (dRange1 (fz (dCall C 238 (dCons (dVar 0) (dCons (dC (.int 4)) dNil))))) (.nm 10) (dSeqS
  (dSet 13 (dCall C 143 (dCons (dVar 1) (dCons (dVar 12) dNil))))
  (dIfS (dB (fz (dOp fNe (dBVar 13) (fz (dLst dNil))))) (dSeqS
  (dFrz 13 (dMut1 3 fApp (fz (dCall C 110 (dCons (dVar 0) (dCons (dVar 13) dNil))))))
  (dSet 12 (dOp fAdd (dBVar 12) (dTup (dCons (fz (dOp fIx (dBVar 3) (fz (dUn fNeg (dC (.int 1)))))) dNil))))) dSkip)))
  (dFrz 3 (dRet (rv (dTup (dCons (dC (.str "close_all")) (dCons (dIf (dB (fz (dOp fGt (fz (dCall C 238 (dCons (dVar 0) (dCons (dC (.int 4)) dNil)))) (dC (.int 0))))) (dVar 3) (fz (dOp fAdd (dBVar 3) (fz (dLst (dCons (dVar 8) dNil)))))) dNil)))))))) dSkip)
  (dSeqS
  (dIfS (dB (fz (dOp fLt (dBVar 6) (dC (.int 11))))) (dSeqS
  (dSet 11 (dOp fSub (fz (dCall C 238 (dCons (dVar 0) (dCons (fz (dOp fAdd (dBVar 9) (dC (.int 2)))) dNil)))) (fz (dBlt bInt (dCons (fz (dOp fEq (fz (dCall C 238 (dCons (dVar 0) (dCons (dC (.int 6)) dNil)))) (dC (.int 0)))) dNil)))))
  (dRet (rv (dTup (dCons (dC (.str "note_down")) (dCons (dVar 11) (dCons (fz (dCall C 110 (dCons (dVar 0) (dCons (fz (dLst (dCons (dC (.str "end")) (dCons (dC (.str "end")) (dCons (dC (.str "closed")) dNil))))) dNil)))) dNil))))))) dSkip)
  (dSeqS
  (dSet 3 (dOp fAdd (fz (dLst (dCons (dTup (dCons (dC (.int 0)) (dCons (dC (.str "end")) (dCons (dC (.int 0)) dNil)))) (dCons (dTup (dCons (fz (dCall C 238 (dCons (dVar 0) (dCons (dC (.int 14)) dNil)))) (dCons (dC (.str "closed")) (dCons (fz (dCall C 238 (dCons (dVar 0) (dCons (dC (.int 14)) dNil)))) dNil)))) dNil)))) (fz (dOp fMul (fz (dBlt bList (dCons (dBVar 5) dNil))) (dC (.int 3))))))
  (dFrz 3 (dRet (rv (dTup (dCons (dC (.str "forget")) (dCons (fz (dCall C 110 (dCons (dVar 0) (dCons (dVar 3) dNil)))) dNil)))))))))))))
def q__law_deed : FD := ⟨"_law_deed", 3, 14, b__law_deed⟩
abbrev i__law_deed : Nat := 33

def b__law_far (C : Calls) : DS :=
  (dRet (dBlt bSum (dCons (fz (dComp (dSeq (fz (dCall C 207 (dCons (dVar 0) (dCons (dVar 1) dNil))))) [2] (.nm 2) dYes (fz (dOp fSub (fz (dBlt bLen (dCons (dBVar 2) dNil))) (dC (.int 1)))))) dNil)))
def q__law_far : FD := ⟨"_law_far", 2, 3, b__law_far⟩
abbrev i__law_far : Nat := 50

def b__law_fits_k05 (C : Calls) : DS :=
  (dSeqS
  (dFor (dSeq (fz (dOp fIx (dBVar 0) (dC (.int 2))))) (.tp [(.nm 2), (.nm 3), (.nm 4)]) (dIfS (dOrT (dAndT (dB (fz (dOp fEq (dBVar 3) (dC (.str "closed"))))) (dB (fz (dOp fNe (fz (dOp fIx (dBVar 1) (dBVar 2))) (dBVar 4))))) (dAndT (dB (fz (dOp fEq (dBVar 3) (dC (.str "end"))))) (dB (fz (dOp fIn (dBVar 4) (fz (dSl (dBVar 1) oNone (oSome (fz (dOp fAdd (dBVar 2) (dC (.int 1)))))))))))) (dRet (rv (dC (.bl false)))) dSkip))
  (dRet (rv (dC (.bl true)))))
def q__law_fits_k05 : FD := ⟨"_law_fits", 2, 5, b__law_fits_k05⟩
abbrev i__law_fits_k05 : Nat := 58

def b__law_is_int (C : Calls) : DS :=
  (dRet (rv (dAnd (fz (dBlt bIsi (dCons (dBVar 0) (dCons (dC (.ty "int")) dNil)))) (dNot (fz (dBlt bIsi (dCons (dBVar 0) (dCons (dC (.ty "bool")) dNil))))))))
def q__law_is_int : FD := ⟨"_law_is_int", 1, 1, b__law_is_int⟩
abbrev i__law_is_int : Nat := 71

def b__law_led (C : Calls) : DS :=
  (dSeqS
  (dFor (dSeq (dVar 2)) (.tp [(.nm 3), (.nm 4)]) (dSeqS
  (dIfS (dNotT (dB (dChain3 fLe fLt fLt (dC (.int 0)) (dBVar 3) (dBVar 4) (fz (dBlt bLen (dCons (dBVar 1) dNil)))))) (dRet (rv (dC .non))) dSkip)
  (dSeqS
  (dSet 1 (dCall C 261 (dCons (dVar 1) (dCons (dVar 3) (dCons (dVar 4) dNil)))))
  (dIfS (dNotT (dB (fz (dCall C 58 (dCons (dVar 0) (dCons (dVar 1) dNil)))))) (dRet (rv (dC .non))) dSkip))))
  (dRet (dMv 1)))
def q__law_led : FD := ⟨"_law_led", 3, 5, b__law_led⟩
abbrev i__law_led : Nat := 81

def b__law_lists (C : Calls) : DS :=
  (dRet (dIfR (dB (fz (dBlt bIsi (dCons (dBVar 0) (dCons (dTup (dCons (dC (.ty "list")) (dCons (dC (.ty "tuple")) dNil))) dNil))))) (dComp (dSeq (dBVar 0)) [1] (.nm 1) dYes (fz (dCall C 87 (dCons (dVar 1) dNil)))) (rv (dVar 0))))
def q__law_lists : FD := ⟨"_law_lists", 1, 2, b__law_lists⟩
abbrev i__law_lists : Nat := 87

def b__law_mates (C : Calls) : DS :=
  (dRet (dComp (dSeq (dBVar 0)) [2, 3] (.tp [(.nm 2), (.nm 3)]) (dB (fz (dOp fIn (dBVar 1) (dTup (dCons (dVar 2) (dCons (dVar 3) dNil)))))) (dIf (dB (fz (dOp fEq (dBVar 2) (dBVar 1)))) (dVar 3) (dVar 2))))
def q__law_mates : FD := ⟨"_law_mates", 2, 4, b__law_mates⟩
abbrev i__law_mates : Nat := 90

def b__law_notes_v0 (C : Calls) : DS :=
  (dSeqS
  (dPar [4, 5] (rCons (dLst dNil) (rCons (dOp fAdd (dC (.int 1)) (fz (dCall C 238 (dCons (dVar 0) (dCons (dC (.int 4)) dNil))))) rNil)))
  (dSeqS
  (dFor (dRange1 (fz (dBlt bLen (dCons (dBVar 1) dNil)))) (.nm 3) (dSeqS
  (dIfS (dB (fz (dOp fEq (fz (dCall C 238 (dCons (dVar 0) (dCons (dC (.int 8)) dNil)))) (dC (.int 0))))) (dMut1 4 fApp (dTup (dCons (dVar 3) (dCons (dC (.str "closed")) (dCons (fz (dOp fIx (dBVar 1) (dBVar 3))) dNil))))) dSkip)
  (dIfS (dB (fz (dOp fLt (fz (dCall C 238 (dCons (dVar 0) (dCons (dC (.int 5)) dNil)))) (dBVar 5)))) (dMut1 4 fApp (dTup (dCons (dVar 3) (dCons (dC (.str "end")) (dCons (fz (dOp fIx (dBVar 2) (dBVar 3))) dNil))))) dSkip)))
  (dRet (dBlt bTuple (dCons (dBVar 4) dNil)))))
def q__law_notes_v0 : FD := ⟨"_law_notes", 3, 6, b__law_notes_v0⟩
abbrev i__law_notes_v0 : Nat := 107

def b__law_of (C : Calls) : DS :=
  (dRet (dOp fIx (dBVar 1) (fz (dCall C 238 (dCons (dVar 0) (dCons (fz (dBlt bLen (dCons (dBVar 1) dNil))) dNil))))))
def q__law_of : FD := ⟨"_law_of", 2, 2, b__law_of⟩
abbrev i__law_of : Nat := 110

def b__law_open_links (C : Calls) : DS :=
  (dRet (dComp (dSeq (fz (dOp fIx (dBVar 0) (dC (.int 1))))) [2] (.nm 2) (dNotT (dB (fz (dBlt bAny (dCons (fz (dComp (dSeq (dBVar 2)) [3] (.nm 3) dYes (fz (dOp fIn (dBVar 3) (dBVar 1))))) dNil))))) (dVar 2)))
def q__law_open_links : FD := ⟨"_law_open_links", 2, 4, b__law_open_links⟩
abbrev i__law_open_links : Nat := 116

def b__law_orders_v0 (C : Calls) : DS :=
  (dRet (dComp (dSeq (fz (dCall C 211 (dCons (dVar 0) dNil)))) [1] (.nm 1) (dB (fz (dCall C 58 (dCons (dVar 0) (dCons (dVar 1) dNil))))) (dVar 1)))
def q__law_orders_v0 : FD := ⟨"_law_orders", 1, 2, b__law_orders_v0⟩
abbrev i__law_orders_v0 : Nat := 119

def b__law_pair_of (C : Calls) : DS :=
  (dSeqS
  (dUnp (.tp [(.nm 2), (.nm 3), (.nm 4)]) (fz (dCall C 228 (dCons (dVar 0) (dCons (dVar 1) dNil)))))
  (dRet (rv (dTup (dCons (dVar 4) (dCons (dVar 2) (dCons (fz (dOp fIx (fz (dCall C 268 (dCons (dVar 0) (dCons (dVar 4) (dCons (dVar 2) (dCons (dC (.int 7)) dNil)))))) (dC (.int 0)))) dNil)))))))
def q__law_pair_of : FD := ⟨"_law_pair_of", 2, 5, b__law_pair_of⟩
abbrev i__law_pair_of : Nat := 126

def b__law_part_of (C : Calls) : DS :=
  (dSeqS
  (dPar [2, 3] (rCons (rv (dVar 0)) (rCons (rv (dVar 1)) rNil)))
  (dSeqS
  (dWhile (dB (fz (dOp fGt (dBVar 3) (dC (.int 0))))) (dPar [2, 3] (rCons (rv (dVar 3)) (rCons (dOp fMod (dBVar 2) (dBVar 3)) rNil))))
  (dRet (rv (dTup (dCons (fz (dOp fDiv (dBVar 0) (dBVar 2))) (dCons (fz (dOp fDiv (dBVar 1) (dBVar 2))) dNil)))))))
def q__law_part_of : FD := ⟨"_law_part_of", 2, 4, b__law_part_of⟩
abbrev i__law_part_of : Nat := 129

def b__law_proofs_v0 (C : Calls) : DS :=
  (dSeqS
  (dPar [3, 4] (rCons (dComp (dRange1 (fz (dOp fIx (dBVar 0) (dC (.int 0))))) [5] (.nm 5) dYes (fz (dCall C 22 (dCons (dVar 0) (dCons (dVar 5) dNil))))) (rCons (dLst dNil) rNil)))
  (dSeqS
  (dSet 1 (dComp (dSeq (fz (dOp fIx (dBVar 0) (dC (.int 2))))) [2, 8, 9] (.tp [(.nm 2), (.nm 8), (.nm 9)]) (dB (fz (dOp fEq (dBVar 8) (dC (.str "closed"))))) (dVar 9)))
  (dSeqS
  (dFrz 3 (dFor (dEnum (dVar 3)) (.tp [(.nm 5), (.tp [(.nm 6), (.nm 7)])]) (dIfS (dAndT (dB (fz (dOp fIn (dBVar 5) (dBVar 1)))) (dB (fz (dOp fGt (dBVar 6) (dBVar 7))))) (dMut1 4 fApp (dTup (dCons (dC (.str "never")) (dCons (dVar 5) dNil)))) dSkip)))
  (dSeqS
  (dFor (dRange1 (fz (dOp fIx (dBVar 0) (dC (.int 1))))) (.nm 2) (dIfS (dB (fz (dOp fLe (fz (dBlt bLen (dCons (fz (dComp (dSeq (dBVar 3)) [6, 7] (.tp [(.nm 6), (.nm 7)]) (dAndT (dB (fz (dOp fLe (dBVar 6) (dBVar 7)))) (dB (fz (dOp fLe (dBVar 6) (dBVar 2))))) (dVar 6))) dNil))) (dBVar 2)))) (dMut1 4 fApp (dTup (dCons (dC (.str "few")) (dCons (dVar 2) dNil)))) dSkip))
  (dRet (dMv 4))))))
def q__law_proofs_v0 : FD := ⟨"_law_proofs", 1, 10, b__law_proofs_v0⟩
abbrev i__law_proofs_v0 : Nat := 137

def b__law_queue (C : Calls) : DS :=
  (dRet (dBlt bTuple (dCons (fz (dSl (fz (dCall C 230 (dCons (dVar 0) (dCons (fz (dMkL (dRange1 (dVar 1)))) dNil)))) oNone (oSome (dVar 2)))) dNil)))
def q__law_queue : FD := ⟨"_law_queue", 3, 3, b__law_queue⟩
abbrev i__law_queue : Nat := 140

def b__law_ready (C : Calls) : DS :=
  (dSeqS
  (dSet 2 (dCall C 116 (dCons (dVar 0) (dCons (dVar 1) dNil))))
  (dFrz 2 (dRet (dComp (dRange1 (fz (dOp fIx (dBVar 0) (dC (.int 0))))) [3] (.nm 3) (dB (fz (dOp fEq (fz (dBlt bLen (dCons (fz (dCall C 90 (dCons (dVar 2) (dCons (dVar 3) dNil)))) dNil))) (dC (.int 1))))) (dVar 3)))))
def q__law_ready : FD := ⟨"_law_ready", 2, 4, b__law_ready⟩
abbrev i__law_ready : Nat := 143

def b__law_rings (C : Calls) : DS :=
  (dSeqS
  (dPar [2, 3] (rCons (dLst dNil) (rCons (dComp (dRange1 (fz (dBlt bLen (dCons (dBVar 0) dNil)))) [5] (.nm 5) (dB (fz (dOp fNe (fz (dOp fIx (dBVar 0) (dBVar 5))) (fz (dOp fIx (dBVar 1) (dBVar 5)))))) (dVar 5)) rNil)))
  (dSeqS
  (dWhile (dB (fz (dOp fNe (dBVar 3) (fz (dLst dNil))))) (dSeqS
  (dSet 4 (dLst (dCons (fz (dOp fIx (dBVar 3) (dC (.int 0)))) dNil)))
  (dSeqS
  (dWhile (dB (fz (dOp fNe (dIndex (dBVar 1) (fz (dOp fIx (dBVar 0) (fz (dOp fIx (dBVar 4) (fz (dUn fNeg (dC (.int 1))))))))) (fz (dOp fIx (dBVar 4) (dC (.int 0))))))) (dMut1 4 fApp (dIndex (dBVar 1) (fz (dOp fIx (dBVar 0) (fz (dOp fIx (dBVar 4) (fz (dUn fNeg (dC (.int 1)))))))))))
  (dSeqS
  (dMut1 2 fApp (fz (dBlt bTuple (dCons (dBVar 4) dNil))))
  (dSet 3 (dComp (dSeq (dBVar 3)) [5] (.nm 5) (dB (fz (dOp fNotIn (dBVar 5) (dBVar 4)))) (dVar 5)))))))
  (dRet (dMv 2))))
def q__law_rings : FD := ⟨"_law_rings", 2, 6, b__law_rings⟩
abbrev i__law_rings : Nat := 207

def b__law_rows_v0 (C : Calls) : DS :=
  (dSeqS
  (dSet 1 (dLst (dCons (dTup dNil) dNil)))
  (dSeqS
  (dFor (dRange1 (fz (dOp fIx (dBVar 0) (dC (.int 1))))) (.nm 2) (dSeqS
  (dSet 3 (dLst dNil))
  (dSeqS
  (dFrz 1 (dFor (dSeq (dVar 1)) (.nm 4) (dMut1 3 fExt (fz (dComp (dRange1 (fz (dOp fIx (dBVar 0) (dC (.int 0))))) [5] (.nm 5) (dB (fz (dOp fNotIn (dBVar 5) (dBVar 4)))) (fz (dOp fAdd (dBVar 4) (dTup (dCons (dVar 5) dNil)))))))))
  (dFrz 3 (dSet 1 (rv (dVar 3)))))))
  (dRet (dMv 1))))
def q__law_rows_v0 : FD := ⟨"_law_rows", 1, 6, b__law_rows_v0⟩
abbrev i__law_rows_v0 : Nat := 211

def b__law_same_v0 (C : Calls) : DS :=
  (dSeqS
  (dIfS (dB (fz (dBlt bIsi (dCons (dBVar 1) (dCons (dTup (dCons (dC (.ty "list")) (dCons (dC (.ty "tuple")) dNil))) dNil))))) (dSeqS
  (dIfS (dOrT (dB (fz (dOp fNe (fz (dBlt bIsi (dCons (dBVar 0) (dCons (dC (.ty "list")) dNil)))) (fz (dBlt bIsi (dCons (dBVar 1) (dCons (dC (.ty "list")) dNil))))))) (dB (fz (dOp fNe (fz (dBlt bIsi (dCons (dBVar 0) (dCons (dC (.ty "tuple")) dNil)))) (fz (dBlt bIsi (dCons (dBVar 1) (dCons (dC (.ty "tuple")) dNil)))))))) (dRet (rv (dC (.bl false)))) dSkip)
  (dRet (rv (dAnd (fz (dOp fEq (fz (dBlt bLen (dCons (dBVar 0) dNil))) (fz (dBlt bLen (dCons (dBVar 1) dNil))))) (fz (dBlt bAll (dCons (fz (dComp (dZip (dVar 0) (dVar 1)) [2, 3] (.tp [(.nm 2), (.nm 3)]) dYes (fz (dCall C 213 (dCons (dVar 2) (dCons (dVar 3) dNil)))))) dNil))))))) dSkip)
  (dSeqS
  (dIfS (dOrT (dB (fz (dOp fIsN (dBVar 1) (dC .non)))) (dB (fz (dBlt bIsi (dCons (dBVar 1) (dCons (dTup (dCons (dC (.ty "bool")) (dCons (dC (.ty "str")) dNil))) dNil)))))) (dRet (rv (dAnd (fz (dOp fEq (dBVar 0) (dBVar 1))) (dAnd (fz (dOp fEq (fz (dBlt bIsi (dCons (dBVar 0) (dCons (dC (.ty "bool")) dNil)))) (fz (dBlt bIsi (dCons (dBVar 1) (dCons (dC (.ty "bool")) dNil)))))) (fz (dOp fEq (fz (dOp fIsN (dBVar 0) (dC .non))) (fz (dOp fIsN (dBVar 1) (dC .non))))))))) dSkip)
  (dRet (rv (dAnd (fz (dBlt bIsi (dCons (dBVar 0) (dCons (dC (.ty "int")) dNil)))) (dAnd (dNot (fz (dBlt bIsi (dCons (dBVar 0) (dCons (dC (.ty "bool")) dNil))))) (fz (dOp fEq (dBVar 0) (dBVar 1)))))))))
def q__law_same_v0 : FD := ⟨"_law_same", 2, 4, b__law_same_v0⟩
abbrev i__law_same_v0 : Nat := 213

def b__law_shut_v1 (C : Calls) : DS :=
  (dSeqS
  (dPar [4, 5, 6] (rCons (dBlt bList (dCons (fz (dOp fIx (dBVar 1) (dC (.int 1)))) dNil)) (rCons (dLst dNil) (rCons (dLst dNil) rNil))))
  (dSeqS
  (dFor (dRange1 (dVar 2)) (.nm 3) (dSeqS
  (dFrz 4 (dSet 7 (dComp (dRange1 (fz (dOp fIx (dBVar 1) (dC (.int 0))))) [8] (.nm 8) (dB (fz (dOp fEq (fz (dBlt bLen (dCons (fz (dCall C 90 (dCons (dVar 4) (dCons (dVar 8) dNil)))) dNil))) (dC (.int 1))))) (dVar 8))))
  (dSeqS
  (dFrz 7 (dMut1 5 fApp (fz (dCall C 110 (dCons (dVar 0) (dCons (dVar 7) dNil))))))
  (dSeqS
  (dFrz 4 (dMut1 6 fApp (fz (dOp fIx (fz (dCall C 90 (dCons (dVar 4) (dCons (fz (dOp fIx (dBVar 5) (fz (dUn fNeg (dC (.int 1)))))) dNil)))) (dC (.int 0))))))
  (dSet 4 (dComp (dSeq (dBVar 4)) [9] (.nm 9) (dB (fz (dOp fNotIn (fz (dOp fIx (dBVar 5) (fz (dUn fNeg (dC (.int 1)))))) (dBVar 9)))) (dVar 9)))))))
  (dRet (rv (dTup (dCons (fz (dBlt bTuple (dCons (dBVar 5) dNil))) (dCons (fz (dBlt bTuple (dCons (dBVar 6) dNil))) dNil)))))))
def q__law_shut_v1 : FD := ⟨"_law_shut", 3, 10, b__law_shut_v1⟩
abbrev i__law_shut_v1 : Nat := 218

def b__law_spoilt_v0 (C : Calls) : DS :=
  (dSeqS
  (dUnp (.tp [(.nm 4), (.nm 5), (.nm 6)]) (dVar 1))
  (dSeqS
  (dSet 2 dNewT)
  (dSeqS
  (dFor (dSeq (dVar 6)) (.tp [(.nm 7), (.nm 8), (.nm 9)]) (dPutD 2 (dTup (dCons (dVar 7) (dCons (dVar 8) dNil))) (dVar 9)))
  (dSeqS
  (dFor (dRange1 (fz (dOp fMul (fz (dOp fAdd (dC (.int 1)) (fz (dCall C 238 (dCons (dVar 0) (dCons (dC (.int 4)) dNil)))))) (fz (dBlt bInt (dCons (fz (dOp fGt (dBVar 5) (dC (.int 0)))) dNil)))))) (.nm 3) (dPutD 2 (dTup (dCons (fz (dCall C 238 (dCons (dVar 0) (dCons (dVar 5) dNil)))) (dCons (fz (dCall C 110 (dCons (dVar 0) (dCons (fz (dLst (dCons (dC (.str "end")) (dCons (dC (.str "closed")) (dCons (dC (.str "closed")) dNil))))) dNil)))) dNil))) (fz (dCall C 238 (dCons (dVar 0) (dCons (dVar 4) dNil))))))
  (dRet (rv (dTup (dCons (dVar 4) (dCons (dVar 5) (dCons (fz (dBlt bTuple (dCons (fz (dBlt bSorted (dCons (fz (dLk 2 (dComp (dKeys (dBVar 2)) [7, 8] (.tp [(.nm 7), (.nm 8)]) dYes (dTup (dCons (dVar 7) (dCons (dVar 8) (dCons (fz (dOp fIx (dBVar 2) (dTup (dCons (dVar 7) (dCons (dVar 8) dNil))))) dNil))))))) dNil))) dNil))) dNil))))))))))
def q__law_spoilt_v0 : FD := ⟨"_law_spoilt", 2, 10, b__law_spoilt_v0⟩
abbrev i__law_spoilt_v0 : Nat := 220

def b__law_story_v0 (C : Calls) : DS :=
  (dSeqS
  (dSet 2 (dOp fAdd (dC (.int 1)) (fz (dCall C 238 (dCons (dVar 0) (dCons (dVar 1) dNil))))))
  (dSeqS
  (dSet 3 (dIfR (dB (fz (dOp fEq (fz (dCall C 238 (dCons (dVar 0) (dCons (dC (.int 2)) dNil)))) (dC (.int 0))))) (dOp fSub (dBVar 2) (dC (.int 1))) (dCall C 238 (dCons (dVar 0) (dCons (dVar 2) dNil)))))
  (dSeqS
  (dUnp (.tp [(.nm 4), (.nm 5)]) (fz (dCall C 218 (dCons (dVar 0) (dCons (fz (dCall C 274 (dCons (dVar 0) (dCons (dVar 2) dNil)))) (dCons (dVar 3) dNil))))))
  (dRet (rv (dTup (dCons (dVar 4) (dCons (dVar 5) (dCons (dTup (dCons (dVar 2) (dCons (dVar 3) (dCons (fz (dCall C 107 (dCons (dVar 0) (dCons (dVar 4) (dCons (dVar 5) dNil))))) dNil)))) dNil)))))))))
def q__law_story_v0 : FD := ⟨"_law_story", 2, 6, b__law_story_v0⟩
abbrev i__law_story_v0 : Nat := 228

def b__law_strewn (C : Calls) : DS :=
  (dSeqS
  (dPar [2, 3] (rCons (dBlt bList (dCons (dBVar 1) dNil)) (rCons (dLst dNil) rNil)))
  (dSeqS
  (dWhile (dB (fz (dOp fNe (dBVar 2) (fz (dLst dNil))))) (dAppPop 3 2 (fz (dCall C 238 (dCons (dVar 0) (dCons (fz (dBlt bLen (dCons (dBVar 2) dNil))) dNil))))))
  (dRet (dMv 3))))
def q__law_strewn : FD := ⟨"_law_strewn", 2, 4, b__law_strewn⟩
abbrev i__law_strewn : Nat := 230

def b__law_sum_of (C : Calls) : DS :=
  (dSeqS
  (dUnp (.tp [(.nm 2), (.nm 3)]) (dTup (dCons (dC (.int 0)) (dCons (dC (.int 1)) dNil))))
  (dSeqS
  (dFor (dSeq (dVar 0)) (.nm 1) (dPar [2, 3] (rCons (dOp fAdd (fz (dOp fMul (dBVar 2) (fz (dOp fIx (dBVar 1) (dC (.int 1)))))) (fz (dOp fMul (fz (dOp fIx (dBVar 1) (dC (.int 0)))) (dBVar 3)))) (rCons (dOp fMul (dBVar 3) (fz (dOp fIx (dBVar 1) (dC (.int 1))))) rNil))))
  (dRet (dCall C 129 (dCons (dVar 2) (dCons (dVar 3) dNil))))))
def q__law_sum_of : FD := ⟨"_law_sum_of", 1, 4, b__law_sum_of⟩
abbrev i__law_sum_of : Nat := 231

def b__law_swaps (C : Calls) : DS :=
  (dSeqS
  (dSet 2 (dLst dNil))
  (dSeqS
  (dFor (dRange1 (fz (dBlt bLen (dCons (dBVar 1) dNil)))) (.nm 3) (dMut1 2 fExt (fz (dComp (dRange2 (fz (dOp fAdd (dBVar 3) (dC (.int 1)))) (fz (dBlt bLen (dCons (dBVar 1) dNil)))) [4] (.nm 4) (dB (fz (dCall C 58 (dCons (dVar 0) (dCons (fz (dCall C 261 (dCons (dVar 1) (dCons (dVar 3) (dCons (dVar 4) dNil))))) dNil))))) (dTup (dCons (dVar 3) (dCons (dVar 4) dNil)))))))
  (dRet (dMv 2))))
def q__law_swaps : FD := ⟨"_law_swaps", 2, 5, b__law_swaps⟩
abbrev i__law_swaps : Nat := 235

def b__law_take (C : Calls) : DS :=
  (dSeqS
  (dIfS (dB (fz (dOp fGt (fz (dOp fIx (dBVar 0) (dC (.int 0)))) (dC (.int 0))))) (dSeqS
  (dSet 4 (dOp fMod (fz (dOp fIx (dBVar 0) (dC (.int 0)))) (dBVar 1)))
  (dSeqS
  (dPutL 0 (dC (.int 0)) (fz (dOp fDiv (fz (dOp fIx (dBVar 0) (dC (.int 0)))) (dBVar 1))))
  (dRet (dMv 4)))) dSkip)
  (dSeqS
  (dIfS (dB (fz (dOp fGt (dBVar 1) (fz (dOp fPow (dC (.int 10)) (dC (.int 7))))))) (dRet (dOp fMod (fz (dOp fAdd (fz (dCall C 238 (dCons (dVar 0) (dCons (fz (dOp fPow (dC (.int 10)) (dC (.int 7)))) dNil)))) (fz (dOp fMul (fz (dOp fPow (dC (.int 10)) (dC (.int 7)))) (fz (dCall C 238 (dCons (dVar 0) (dCons (fz (dOp fAdd (fz (dOp fDiv (dBVar 1) (fz (dOp fPow (dC (.int 10)) (dC (.int 7)))))) (dC (.int 1)))) dNil)))))))) (dBVar 1))) dSkip)
  (dSeqS
  (dPutL 0 (dC (.int 2)) (fz (dOp fAdd (fz (dOp fIx (dBVar 0) (dC (.int 2)))) (dC (.int 1)))))
  (dSeqS
  (dSet 2 (dOp fMod (fz (dOp fMul (fz (dOp fAdd (fz (dOp fIx (dBVar 0) (dC (.int 1)))) (fz (dOp fMul (dC (.int 48271)) (fz (dOp fIx (dBVar 0) (dC (.int 2)))))))) (fz (dOp fAdd (dC (.int 39373)) (fz (dOp fIx (dBVar 0) (dC (.int 2)))))))) (dC (.int 2147483647))))
  (dSeqS
  (dSet 3 (dOp fMod (fz (dOp fMul (fz (dOp fAdd (fz (dOp fAdd (dBVar 2) (fz (dOp fIx (dBVar 0) (dC (.int 2)))))) (fz (dOp fDiv (fz (dOp fIx (dBVar 0) (dC (.int 1)))) (dC (.int 1000003)))))) (fz (dOp fAdd (fz (dOp fMod (dBVar 2) (dC (.int 40009)))) (dC (.int 7)))))) (dC (.int 2147483629))))
  (dRet (dOp fMod (fz (dOp fDiv (fz (dOp fMod (fz (dOp fAdd (fz (dOp fMul (dBVar 3) (dC (.int 48271)))) (dBVar 2))) (dC (.int 2147483587)))) (dC (.int 64)))) (dBVar 1))))))))
def q__law_take : FD := ⟨"_law_take", 2, 5, b__law_take⟩
abbrev i__law_take : Nat := 238

def b__law_tale (C : Calls) : DS :=
  (dSeqS
  (dSet 2 (dOp fAdd (dC (.int 1)) (fz (dCall C 238 (dCons (dVar 0) (dCons (dVar 1) dNil))))))
  (dSeqS
  (dSet 3 (dIfR (dB (fz (dOp fEq (fz (dCall C 238 (dCons (dVar 0) (dCons (dC (.int 2)) dNil)))) (dC (.int 0))))) (dOp fSub (dBVar 2) (dC (.int 1))) (dCall C 238 (dCons (dVar 0) (dCons (dVar 2) dNil)))))
  (dSeqS
  (dUnp (.tp [(.nm 4), (.nm 5)]) (fz (dCall C 218 (dCons (dVar 0) (dCons (fz (dCall C 274 (dCons (dVar 0) (dCons (dVar 2) dNil)))) (dCons (dVar 3) dNil))))))
  (dRet (rv (dTup (dCons (dVar 4) (dCons (dTup (dCons (dVar 2) (dCons (dVar 3) (dCons (fz (dCall C 107 (dCons (dVar 0) (dCons (dVar 4) (dCons (dVar 5) dNil))))) dNil)))) dNil))))))))
def q__law_tale : FD := ⟨"_law_tale", 2, 6, b__law_tale⟩
abbrev i__law_tale : Nat := 239

def b__law_told_k20 (C : Calls) : DS :=
  (dSeqS
  (dUnp (.tp [(.nm 5), (.nm 6)]) (dTup (dCons (dC .non) (dCons (dC .non) dNil))))
  (dSeqS
  (dTryE 3 5 [("Impossible", "ValueError"), ("Misfit", "ValueError"), ("NoTown", "LookupError"), ("NoTime", "LookupError"), ("NoNumber", "LookupError")] ["Impossible", "Misfit", "NoNumber", "NoTime", "NoTown"] (dSetX 6 (dIfR (only (dB (fz (dOp fEq (dBVar 0) (dC (.str "at")))))) (dCall C 403 (only (dCons (dVar 1) (dCons (dVar 2) dNil)))) (dCall C 401 (only (dCons (dVar 1) (dCons (dVar 2) dNil)))))))
  (dSeqS
  (dIfS (dB (fz (dOp fIsN (dBVar 5) (dC .non)))) (dRet (dMv 6)) dSkip)
  (dSeqS
  (dIfS (dAndT (dB (fz (dBlt (bIsiX [("Impossible", "ValueError"), ("Misfit", "ValueError"), ("NoTown", "LookupError"), ("NoTime", "LookupError"), ("NoNumber", "LookupError")]) (dCons (dBVar 5) (dCons (dC (.cl "NoNumber")) dNil))))) (dNotT (dB (fz (dBlt (bIsiX [("Impossible", "ValueError"), ("Misfit", "ValueError"), ("NoTown", "LookupError"), ("NoTime", "LookupError"), ("NoNumber", "LookupError")]) (dCons (dBVar 5) (dCons (dTup (dCons (dC (.cl "NoTime")) (dCons (dC (.cl "NoTown")) dNil))) dNil))))))) (dRet (dIfR (dB (fz (dBlt (bIsiX [("Impossible", "ValueError"), ("Misfit", "ValueError"), ("NoTown", "LookupError"), ("NoTime", "LookupError"), ("NoNumber", "LookupError")]) (dCons (dBVar 5) (dCons (dC (.ty "LookupError")) dNil))))) (rv (dTup (dCons (dC (.str "no number")) (dCons (dXf [("Impossible", "ValueError"), ("Misfit", "ValueError"), ("NoTown", "LookupError"), ("NoTime", "LookupError"), ("NoNumber", "LookupError")] "number" (dVar 5)) dNil)))) (rv (dC (.str "wrong"))))) dSkip)
  (dSeqS
  (dSet 4 (rv (dAnd (fz (dBlt (bIsiX [("Impossible", "ValueError"), ("Misfit", "ValueError"), ("NoTown", "LookupError"), ("NoTime", "LookupError"), ("NoNumber", "LookupError")]) (dCons (dBVar 5) (dCons (dC (.cl "Misfit")) dNil)))) (dNot (fz (dBlt (bIsiX [("Impossible", "ValueError"), ("Misfit", "ValueError"), ("NoTown", "LookupError"), ("NoTime", "LookupError"), ("NoNumber", "LookupError")]) (dCons (dBVar 5) (dCons (dC (.cl "Impossible")) dNil))))))))
  (dRet (dIfR (dAndT (dB (dVar 4)) (dB (fz (dBlt (bIsiX [("Impossible", "ValueError"), ("Misfit", "ValueError"), ("NoTown", "LookupError"), ("NoTime", "LookupError"), ("NoNumber", "LookupError")]) (dCons (dBVar 5) (dCons (dC (.ty "ValueError")) dNil)))))) (rv (dTup (dCons (dC (.str "misfit")) (dCons (dXf [("Impossible", "ValueError"), ("Misfit", "ValueError"), ("NoTown", "LookupError"), ("NoTime", "LookupError"), ("NoNumber", "LookupError")] "time" (dVar 5)) dNil)))) (rv (dC (.str "wrong"))))))))))
def q__law_told_k20 : FD := ⟨"_law_told", 3, 7, b__law_told_k20⟩
abbrev i__law_told_k20 : Nat := 250

def b__law_turned_v0 (C : Calls) : DS :=
  (dSeqS
  (dSet 3 (dBlt bList (dCons (dBVar 0) dNil)))
  (dSeqS
  (dPut2 3 (dVar 1) (dVar 2) (fz (dOp fIx (dBVar 0) (dBVar 2))) (fz (dOp fIx (dBVar 0) (dBVar 1))))
  (dRet (dBlt bTuple (dCons (dBVar 3) dNil)))))
def q__law_turned_v0 : FD := ⟨"_law_turned", 3, 4, b__law_turned_v0⟩
abbrev i__law_turned_v0 : Nat := 261

def b__law_walked (C : Calls) : DS :=
  (dSeqS
  (dSet 4 (dLst dNil))
  (dSeqS
  (dFor (dRange1 (fz (dCall C 238 (dCons (dVar 0) (dCons (fz (dOp fAdd (dBVar 3) (dC (.int 1)))) dNil))))) (.nm 5) (dSeqS
  (dSet 6 (dCall C 235 (dCons (dVar 1) (dCons (dVar 2) dNil))))
  (dIfS (dB (fz (dOp fNe (dBVar 6) (fz (dLst dNil))))) (dSeqS
  (dFrz 6 (dMut1 4 fApp (fz (dCall C 110 (dCons (dVar 0) (dCons (dVar 6) dNil))))))
  (dSet 2 (dCall C 261 (dCons (dVar 2) (dCons (fz (dOp fIx (fz (dOp fIx (dBVar 4) (fz (dUn fNeg (dC (.int 1)))))) (dC (.int 0)))) (dCons (fz (dOp fIx (fz (dOp fIx (dBVar 4) (fz (dUn fNeg (dC (.int 1)))))) (dC (.int 1)))) dNil)))))) dSkip)))
  (dFrz 4 (dRet (rv (dTup (dCons (dVar 2) (dCons (dVar 4) dNil))))))))
def q__law_walked : FD := ⟨"_law_walked", 4, 7, b__law_walked⟩
abbrev i__law_walked : Nat := 268

def b__law_wood_v0 (C : Calls) : DS :=
  (dSeqS
  (dPar [3, 4, 5] (rCons (dCall C 230 (dCons (dVar 0) (dCons (fz (dMkL (dRange1 (dVar 1)))) dNil))) (rCons (dLst dNil) (rCons (dCall C 238 (dCons (dVar 0) (dCons (dC (.int 3)) dNil))) rNil))))
  (dSeqS
  (dFor (dRange2 (dC (.int 1)) (dVar 1)) (.nm 2) (dSeqS
  (dSet 6 (dIfR (dB (fz (dOp fGt (dBVar 5) (dC (.int 0))))) (dCall C 238 (dCons (dVar 0) (dCons (dVar 2) dNil))) (dBlt bMax2 (dCons (dC (.int 0)) (dCons (fz (dOp fSub (fz (dOp fSub (dBVar 2) (dC (.int 1)))) (fz (dCall C 238 (dCons (dVar 0) (dCons (dC (.int 2)) dNil)))))) dNil)))))
  (dMut1 4 fApp (fz (dBlt bTuple (dCons (fz (dBlt bSorted (dCons (fz (dLst (dCons (fz (dOp fIx (dBVar 3) (dBVar 2))) (dCons (fz (dOp fIx (dBVar 3) (dBVar 6))) dNil)))) dNil))) dNil))))))
  (dRet (rv (dTup (dCons (dVar 1) (dCons (fz (dBlt bTuple (dCons (fz (dBlt bSorted (dCons (dBVar 4) dNil))) dNil))) dNil)))))))
def q__law_wood_v0 : FD := ⟨"_law_wood", 2, 7, b__law_wood_v0⟩
abbrev i__law_wood_v0 : Nat := 274

def b__wall (C : Calls) : DS :=
  (dWhile (dB (dC (.bl true))) dSkip)
def q__wall : FD := ⟨"_wall", 1, 1, b__wall⟩
abbrev i__wall : Nat := 279

def b_added (C : Calls) : DS :=
  (dRet (dCall C 412 (dCons (fz (dOp fAdd (fz (dOp fMul (fz (dOp fIx (dBVar 0) (dC (.int 0)))) (fz (dOp fIx (dBVar 1) (dC (.int 1)))))) (fz (dOp fMul (fz (dOp fIx (dBVar 1) (dC (.int 0)))) (fz (dOp fIx (dBVar 0) (dC (.int 1)))))))) (dCons (fz (dOp fMul (fz (dOp fIx (dBVar 0) (dC (.int 1)))) (fz (dOp fIx (dBVar 1) (dC (.int 1)))))) dNil))))
def q_added : FD := ⟨"added", 2, 2, b_added⟩
abbrev i_added : Nat := 280

def b_all_orders (C : Calls) : DS :=
  (dSeqS
  (dSet 1 (dCall C 295 (dCons (dVar 0) dNil)))
  (dSeqS
  (dIfS (dB (fz (dOp fGt (dBVar 1) (dC (.int 300))))) (dRaise "TooMany" "many" (dVar 1)) dSkip)
  (dSeqS
  (dIfS (dB (fz (dOp fEq (dBVar 1) (dC (.int 0))))) (dRet (dLst dNil)) dSkip)
  (dSeqS
  (dSet 2 (dLst (dCons (dTup dNil) dNil)))
  (dSeqS
  (dFor (dRange1 (fz (dOp fIx (dBVar 0) (dC (.int 1))))) (.nm 3) (dSeqS
  (dSet 4 (dLst dNil))
  (dSeqS
  (dFrz 2 (dFor (dSeq (dVar 2)) (.nm 5) (dMut1 4 fExt (fz (dComp (dSeq (fz (dCall C 396 (dCons (dVar 0) (dCons (dVar 5) dNil))))) [6, 7] (.tp [(.nm 6), (.nm 7)]) dYes (fz (dOp fAdd (dBVar 5) (dTup (dCons (dVar 6) dNil)))))))))
  (dFrz 4 (dSet 2 (rv (dVar 4)))))))
  (dRet (dMv 2)))))))
def q_all_orders : FD := ⟨"all_orders", 1, 8, b_all_orders⟩
abbrev i_all_orders : Nat := 281

def b_are_few (C : Calls) : DS :=
  (dSeqS
  (dSet 2 (dComp (dSeq (fz (dCall C 435 (dCons (dVar 0) dNil)))) [3, 4] (.tp [(.nm 3), (.nm 4)]) (dAndT (dB (fz (dOp fLe (dBVar 3) (dBVar 4)))) (dB (fz (dOp fLe (dBVar 3) (dBVar 1))))) (dVar 3)))
  (dRet (dOp fLe (fz (dBlt bLen (dCons (dBVar 2) dNil))) (dBVar 1))))
def q_are_few : FD := ⟨"are_few", 2, 5, b_are_few⟩
abbrev i_are_few : Nat := 284

def b_are_pairs (C : Calls) : DS :=
  (dSeqS
  (dIfS (dOrT (dNotT (dB (fz (dBlt bIsi (dCons (dBVar 0) (dCons (dC (.ty "list")) dNil)))))) (dNotT (dB (fz (dBlt bAll (dCons (fz (dComp (dSeq (dBVar 0)) [3] (.nm 3) dYes (dAnd (fz (dBlt bIsi (dCons (dBVar 3) (dCons (dC (.ty "tuple")) dNil)))) (fz (dOp fEq (fz (dBlt bLen (dCons (dBVar 3) dNil))) (dC (.int 2))))))) dNil)))))) (dRet (rv (dC (.bl false)))) dSkip)
  (dRet (dBlt bAll (dCons (fz (dComp (dSeq (dBVar 0)) [1, 2] (.tp [(.nm 1), (.nm 2)]) dYes (dAnd (fz (dCall C 312 (dCons (dVar 1) dNil))) (fz (dCall C 312 (dCons (dVar 2) dNil)))))) dNil))))
def q_are_pairs : FD := ⟨"are_pairs", 1, 4, b_are_pairs⟩
abbrev i_are_pairs : Nat := 285

def b_are_towns (C : Calls) : DS :=
  (dSeqS
  (dIfS (dOrT (dNotT (dB (fz (dBlt bIsi (dCons (dBVar 0) (dCons (dC (.ty "tuple")) dNil)))))) (dB (fz (dOp fNe (fz (dBlt bLen (dCons (dBVar 0) dNil))) (dBVar 2))))) (dRet (rv (dC (.bl false)))) dSkip)
  (dRet (dBlt bAll (dCons (fz (dComp (dSeq (dBVar 0)) [3] (.nm 3) dYes (dAnd (fz (dCall C 312 (dCons (dVar 3) dNil))) (dChain fLe fLt (dC (.int 0)) (dBVar 3) (dBVar 1))))) dNil))))
def q_are_towns : FD := ⟨"are_towns", 3, 4, b_are_towns⟩
abbrev i_are_towns : Nat := 286

def b_begun (C : Calls) : DS :=
  (dSeqS
  (dUnp (.tp [(.nm 3), (.nm 4), (.nm 5)]) (fz (dCall C 408 (dCons (dVar 0) dNil))))
  (dSeqS
  (dSet 2 (dComp (dSeq (dBVar 5)) [6] (.nm 6) (dOrT (dB (fz (dOp fEq (fz (dOp fIx (dBVar 6) (dC (.int 1)))) (dC (.str "end"))))) (dB (fz (dOp fGe (fz (dOp fIx (dBVar 6) (dC (.int 0)))) (fz (dBlt bLen (dCons (dBVar 1) dNil))))))) (dVar 6)))
  (dRet (rv (dTup (dCons (dVar 3) (dCons (dVar 4) (dCons (fz (dBlt bTuple (dCons (fz (dBlt bSorted (dCons (fz (dOp fAdd (dBVar 2) (fz (dComp (dEnum (dVar 1)) [7, 8] (.tp [(.nm 7), (.nm 8)]) dYes (dTup (dCons (dVar 7) (dCons (dC (.str "closed")) (dCons (dVar 8) dNil)))))))) dNil))) dNil))) dNil))))))))
def q_begun : FD := ⟨"begun", 2, 9, b_begun⟩
abbrev i_begun : Nat := 288

def b_chance_before (C : Calls) : DS :=
  (dSeqS
  (dDropX (dCall C 386 (only (dCons (dVar 0) (dCons (fz (dLst (dCons (dVar 1) (dCons (dVar 2) dNil)))) dNil)))))
  (dSeqS
  (dSet 3 (dBlt bSum (dCons (fz (dCall C 433 (dCons (dVar 0) (dCons (dVar 1) dNil)))) dNil)))
  (dSeqS
  (dFor (dRange1 (fz (dOp fIx (dBVar 0) (dC (.int 1))))) (.nm 4) (dAug 3 fSub (fz (dBlt bSum (dCons (fz (dComp (dRange1 (dVar 4)) [5] (.nm 5) dYes (fz (dCall C 407 (dCons (dVar 0) (dCons (fz (dLst (dCons (dTup (dCons (dVar 5) (dCons (dVar 2) dNil))) (dCons (dTup (dCons (dVar 4) (dCons (dVar 1) dNil))) dNil)))) dNil)))))) dNil)))))
  (dRet (dCall C 412 (dCons (dVar 3) (dCons (fz (dCall C 295 (dCons (dVar 0) dNil))) dNil)))))))
def q_chance_before : FD := ⟨"chance_before", 3, 6, b_chance_before⟩
abbrev i_chance_before : Nat := 289

def b_chances_of (C : Calls) : DS :=
  (dSeqS
  (dDropX (dCall C 386 (only (dCons (dVar 0) (dCons (fz (dLst (dCons (dVar 1) dNil))) dNil)))))
  (dSeqS
  (dSet 2 (dCall C 295 (dCons (dVar 0) dNil)))
  (dRet (dComp (dSeq (fz (dCall C 433 (dCons (dVar 0) (dCons (dVar 1) dNil))))) [3] (.nm 3) dYes (fz (dCall C 412 (dCons (dVar 3) (dCons (dVar 2) dNil))))))))
def q_chances_of : FD := ⟨"chances_of", 2, 4, b_chances_of⟩
abbrev i_chances_of : Nat := 290

def b_checked (C : Calls) : DS :=
  (dSeqS
  (dIfS (dB (fz (dOp fIsN (dBVar 0) (dC .non)))) dNever dSkip)
  (dRet (dMv 0)))
def q_checked : FD := ⟨"checked", 2, 2, b_checked⟩
abbrev i_checked : Nat := 291

def b_closed_later (C : Calls) : DS :=
  (dSeqS
  (dDropX (dCall C 387 (only (dCons (dVar 0) (dCons (dVar 1) (dCons (dVar 2) dNil))))))
  (dSeqS
  (dDropX (dCall C 411 (only (dCons (dVar 0) (dCons (fz (dOp fAdd (dBVar 1) (dTup (dCons (dVar 2) dNil)))) dNil)))))
  (dRet (dOp fAdd (dBVar 1) (dTup (dCons (dVar 2) dNil))))))
def q_closed_later : FD := ⟨"closed_later", 3, 3, b_closed_later⟩
abbrev i_closed_later : Nat := 292

def b_count_after (C : Calls) : DS :=
  (dSeqS
  (dIfS (dNotT (dB (fz (dBlt bAll (dCons (fz (dComp (dSeq (fz (dCall C 399 (dCons (dVar 0) (dCons (dC (.str "closed")) dNil))))) [2, 3] (.tp [(.nm 2), (.nm 3)]) dYes (dOr (fz (dOp fGe (dBVar 2) (fz (dBlt bLen (dCons (dBVar 1) dNil))))) (fz (dOp fEq (fz (dOp fIx (dBVar 1) (dBVar 2))) (dBVar 3)))))) dNil))))) (dRet (rv (dC (.int 0)))) dSkip)
  (dRet (dCall C 295 (dCons (fz (dCall C 288 (dCons (dVar 0) (dCons (dVar 1) dNil)))) dNil))))
def q_count_after : FD := ⟨"count_after", 2, 4, b_count_after⟩
abbrev i_count_after : Nat := 293

def b_count_closings (C : Calls) : DS :=
  (dSeqS
  (dSet 1 (rv (dC (.int 0))))
  (dSeqS
  (dFor (dRange1 (fz (dOp fIx (dBVar 0) (dC (.int 0))))) (.nm 2) (dSeqS
  (dPar [5, 6] (rCons (dLst dNil) (rCons (rv (dC (.int 1))) rNil)))
  (dSeqS
  (dFrz 5 (dDrop (fz (dCall C 421 (dCons (fz (dOp fIx (dBVar 0) (dC (.int 1)))) (dCons (dVar 2) (dCons (dC .non) (dCons (dVar 5) dNil))))))))
  (dSeqS
  (dFor (dRange2 (dC (.int 1)) (fz (dOp fAdd (fz (dOp fIx (dBVar 0) (dC (.int 0)))) (dC (.int 1))))) (.nm 3) (dAug 6 fIMul (dBVar 3)))
  (dSeqS
  (dFrz 5 (dFor (dSeq (dVar 5)) (.nm 4) (dAug 6 fIDiv (dBVar 4))))
  (dAug 1 (pureO (gI fun i j => i + j)) (dBVar 6)))))))
  (dRet (dMv 1))))
def q_count_closings : FD := ⟨"count_closings", 1, 7, b_count_closings⟩
abbrev i_count_closings : Nat := 294

def b_count_orders (C : Calls) : DS :=
  (dSeqS
  (dIfS (dNotT (dB (fz (dCall C 317 (dCons (dVar 0) dNil))))) (dRet (rv (dC (.int 0)))) dSkip)
  (dSeqS
  (dSet 1 (dBlt bDict (dCons (fz (dCall C 399 (dCons (dVar 0) (dCons (dC (.str "closed")) dNil)))) dNil)))
  (dSeqS
  (dSet 2 (dVals (dBVar 1)))
  (dSeqS
  (dSet 3 (dComp (dRange1 (fz (dOp fIx (dBVar 0) (dC (.int 0))))) [7] (.nm 7) (dB (fz (dOp fNotIn (dBVar 7) (dBVar 2)))) (fz (dOp fIx (fz (dCall C 422 (dCons (dVar 0) (dCons (dVar 7) dNil)))) (dC (.int 0))))))
  (dSeqS
  (dUnp (.tp [(.nm 5), (.nm 6)]) (dTup (dCons (dC (.int 1)) (dCons (dC (.int 0)) dNil))))
  (dSeqS
  (dFor (dRange1 (fz (dOp fIx (dBVar 0) (dC (.int 1))))) (.nm 4) (dIfS (dB (fz (dOp fNotIn (dBVar 4) (dBVar 1)))) (dSeqS
  (dAug 5 fIMul (fz (dBlt bMax2 (dCons (dC (.int 0)) (dCons (fz (dOp fSub (fz (dBlt bLen (dCons (fz (dComp (dSeq (dBVar 3)) [8] (.nm 8) (dB (fz (dOp fLe (dBVar 8) (dBVar 4)))) (dVar 8))) dNil))) (dBVar 6))) dNil)))))
  (dAug 6 (pureO (gI fun i j => i + j)) (dC (.int 1)))) dSkip))
  (dRet (dMv 5))))))))
def q_count_orders : FD := ⟨"count_orders", 1, 9, b_count_orders⟩
abbrev i_count_orders : Nat := 295

def b_count_stories (C : Calls) : DS :=
  (dRet (dOp fMul (fz (dCall C 295 (dCons (dVar 0) dNil))) (fz (dCall C 393 (dCons (dVar 0) dNil)))))
def q_count_stories : FD := ⟨"count_stories", 1, 1, b_count_stories⟩
abbrev i_count_stories : Nat := 296

def b_crossing (C : Calls) : DS :=
  (dSeqS
  (dSet 3 (dBlt bSorted (dCons (dBVar 0) dNil)))
  (dSeqS
  (dSet 4 (dComp (dSeq (dBVar 3)) [6] (.nm 6) dYes (fz (dOp fGt (dIndex (fz (dBlt bList (dCons (dBVar 2) dNil))) (fz (dOp fIx (dBVar 1) (dBVar 6)))) (dBVar 6)))))
  (dSeqS
  (dSet 5 (dOp fIx (fz (dComp (dRange1 (fz (dOp fSub (fz (dBlt bLen (dCons (dBVar 3) dNil))) (dC (.int 1))))) [7] (.nm 7) (dAndT (dB (fz (dOp fIx (dBVar 4) (dBVar 7)))) (dNotT (dB (fz (dOp fIx (dBVar 4) (fz (dOp fAdd (dBVar 7) (dC (.int 1))))))))) (dVar 7))) (dC (.int 0))))
  (dRet (rv (dTup (dCons (fz (dOp fIx (dBVar 3) (dBVar 5))) (dCons (fz (dOp fIx (dBVar 3) (fz (dOp fAdd (dBVar 5) (dC (.int 1)))))) dNil))))))))
def q_crossing : FD := ⟨"crossing", 3, 8, b_crossing⟩
abbrev i_crossing : Nat := 297

def b_different (C : Calls) : DS :=
  (dRet (dIfR (dAndT (dB (fz (dOp fNotN (dBVar 0) (dC .non)))) (dB (fz (dOp fEq (fz (dLenSet (dBVar 0))) (fz (dBlt bLen (dCons (dBVar 0) dNil))))))) (rv (dVar 0)) (rv (dC .non))))
def q_different : FD := ⟨"different", 1, 1, b_different⟩
abbrev i_different : Nat := 298

def b_distance (C : Calls) : DS :=
  (dRet (dBlt bSum (dCons (fz (dComp (dSeq (fz (dCall C 413 (dCons (dVar 0) (dCons (dVar 1) (dCons (dVar 2) dNil)))))) [3] (.nm 3) dYes (fz (dOp fSub (fz (dBlt bLen (dCons (dBVar 3) dNil))) (dC (.int 1)))))) dNil)))
def q_distance : FD := ⟨"distance", 3, 4, b_distance⟩
abbrev i_distance : Nat := 299

def b_end_chances (C : Calls) : DS :=
  (dSeqS
  (dDropX (dCall C 386 (only (dCons (dVar 0) (dCons (fz (dLst (dCons (dVar 1) dNil))) dNil)))))
  (dSeqS
  (dPar [4, 5] (rCons (dCall C 295 (dCons (dVar 0) dNil)) (rCons (dCall C 433 (dCons (dVar 0) (dCons (dVar 1) dNil))) rNil)))
  (dSeqS
  (dSet 2 (dBlt bLen (dCons (fz (dComp (dValsI (fzL (dCall C 302 (dCons (dVar 0) dNil)))) [9] (.nm 9) (dB (fz (dOp fEq (dBVar 9) (dBVar 1)))) (dVar 9))) dNil)))
  (dSeqS
  (dSet 3 dNewK)
  (dSeqS
  (dFor (dSeq (fz (dOp fAdd (fz (dListEnum (dBVar 5))) (fz (dLst (dCons (dTup (dCons (fz (dOp fIx (dBVar 0) (dC (.int 1)))) (dCons (fz (dOp fSub (dBVar 4) (fz (dBlt bSum (dCons (dBVar 5) dNil))))) dNil))) dNil)))))) (.tp [(.nm 6), (.nm 7)]) (dIfS (dB (fz (dOp fGt (dBVar 7) (dC (.int 0))))) (dFor (dItems (fzL (dCall C 436 (dCons (dVar 0) (dCons (dVar 6) (dCons (fzL (dDisp1 (dBVar 2) (dTup (dCons (dVar 7) (dCons (dVar 4) dNil))))) dNil)))))) (.tp [(.nm 8), (.nm 10)]) (dPutD 3 (dVar 8) (fz (dCall C 280 (dCons (dDget (dBVar 3) (dBVar 8) (dTup (dCons (dC (.int 0)) (dCons (dC (.int 1)) dNil)))) (dCons (dVar 10) dNil)))))) dSkip))
  (dRet (dComp (dSeq (fz (dBlt bSortK (dCons (dBVar 3) dNil)))) [8] (.nm 8) (dB (fz (dOp fGt (fz (dOp fIx (fz (dOp fIx (dBVar 3) (dBVar 8))) (dC (.int 0)))) (dC (.int 0))))) (dTup (dCons (dVar 8) (dCons (fz (dOp fIx (dBVar 3) (dBVar 8))) dNil))))))))))
def q_end_chances : FD := ⟨"end_chances", 2, 11, b_end_chances⟩
abbrev i_end_chances : Nat := 301

def b_ends_of (C : Calls) : DS :=
  (dRet (dBlt bDict (dCons (fz (dCall C 399 (dCons (dVar 0) (dCons (dC (.str "end")) dNil)))) dNil)))
def q_ends_of : FD := ⟨"ends_of", 1, 1, b_ends_of⟩
abbrev i_ends_of : Nat := 302

def b_evidence (C : Calls) : DS :=
  (dSeqS
  (dSet 1 (dCall C 392 (dCons (dVar 0) dNil)))
  (dSeqS
  (dIfS (dB (fz (dOp fGt (fz (dBlt bLen (dCons (dBVar 1) dNil))) (dC (.int 0))))) (dRet (rv (dTup (dCons (dC (.str "never")) (dCons (fz (dOp fIx (dBVar 1) (dC (.int 0)))) dNil))))) dSkip)
  (dSeqS
  (dSet 2 (dComp (dRange1 (fz (dOp fIx (dBVar 0) (dC (.int 1))))) [3] (.nm 3) (dB (fz (dCall C 284 (dCons (dVar 0) (dCons (dVar 3) dNil))))) (dVar 3)))
  (dRet (dIfR (dB (fz (dOp fGt (fz (dBlt bLen (dCons (dBVar 2) dNil))) (dC (.int 0))))) (rv (dTup (dCons (dC (.str "few")) (dCons (fz (dOp fIx (dBVar 2) (dC (.int 0)))) dNil)))) (rv (dC .non)))))))
def q_evidence : FD := ⟨"evidence", 1, 4, b_evidence⟩
abbrev i_evidence : Nat := 303

def b_exchanged (C : Calls) : DS :=
  (dSeqS
  (dDropX (dCall C 388 (only (dCons (dVar 0) (dCons (dVar 1) dNil)))))
  (dSeqS
  (dIfS (dB (fz (dOp fNotIn (fz (dBlt bTuple (dCons (dBVar 2) dNil))) (fz (dCall C 406 (dCons (dVar 0) (dCons (dVar 1) dNil))))))) (dRaise "Blocked" "pair" (fz (dBlt bTuple (dCons (dBVar 2) dNil)))) dSkip)
  (dRet (dCall C 423 (dCons (dVar 1) (dCons (fz (dOp fIx (dBVar 2) (dC (.int 0)))) (dCons (fz (dOp fIx (dBVar 2) (dC (.int 1)))) dNil)))))))
def q_exchanged : FD := ⟨"exchanged", 3, 3, b_exchanged⟩
abbrev i_exchanged : Nat := 304

def b_exchanges (C : Calls) : DS :=
  (dSeqS
  (dDropX (dCall C 388 (only (dCons (dVar 0) (dCons (dVar 1) dNil)))))
  (dRet (dCall C 406 (dCons (dVar 0) (dCons (dVar 1) dNil)))))
def q_exchanges : FD := ⟨"exchanges", 2, 2, b_exchanges⟩
abbrev i_exchanges : Nat := 305

def b_first_order (C : Calls) : DS :=
  (dSeqS
  (dDropX (dCall C 390 (only (dCons (dVar 0) dNil))))
  (dRetX (dCall C 403 (only (dCons (dVar 0) (dCons (dC (.int 0)) dNil))))))
def q_first_order : FD := ⟨"first_order", 1, 1, b_first_order⟩
abbrev i_first_order : Nat := 306

def b_gcd (C : Calls) : DS :=
  (dSeqS
  (dWhile (dB (fz (dOp fGt (dBVar 1) (dC (.int 0))))) (dPar [0, 1] (rCons (rv (dVar 1)) (rCons (dOp fMod (dBVar 0) (dBVar 1)) rNil))))
  (dRet (dMv 0)))
def q_gcd : FD := ⟨"gcd", 2, 2, b_gcd⟩
abbrev i_gcd : Nat := 307

def b_head_in (C : Calls) : DS :=
  (dSeqS
  (dSet 1 (dCall C 431 (dCons (dVar 0) dNil)))
  (dRet (dIfR (dAndT (dB (fz (dOp fNotN (dBVar 1) (dC .non)))) (dB (fz (dOp fLe (fz (dOp fIx (dBVar 1) (dC (.int 0)))) (dC (.int 14)))))) (rv (dVar 1)) (rv (dC .non)))))
def q_head_in : FD := ⟨"head_in", 1, 2, b_head_in⟩
abbrev i_head_in : Nat := 308

def b_is_closing (C : Calls) : DS :=
  (dSeqS
  (dIfS (dOrT (dNotT (dB (fz (dBlt bIsi (dCons (dBVar 1) (dCons (dC (.ty "tuple")) dNil)))))) (dNotT (dB (fz (dBlt bAll (dCons (fz (dComp (dSeq (dBVar 1)) [3] (.nm 3) dYes (dAnd (fz (dCall C 312 (dCons (dVar 3) dNil))) (dChain fLe fLt (dC (.int 0)) (dBVar 3) (fz (dOp fIx (dBVar 0) (dC (.int 0)))))))) dNil)))))) (dRet (rv (dC (.bl false)))) dSkip)
  (dSeqS
  (dSet 2 (dOp fIx (dBVar 0) (dC (.int 1))))
  (dSeqS
  (dFor (dSeq (dVar 1)) (.nm 3) (dSeqS
  (dFrz 2 (dIfS (dB (fz (dOp fNe (fz (dBlt bLen (dCons (fz (dCall C 395 (dCons (dVar 2) (dCons (dVar 3) dNil)))) dNil))) (dC (.int 1))))) (dRet (rv (dC (.bl false)))) dSkip))
  (dFrz 2 (dSet 2 (dCall C 417 (dCons (dVar 2) (dCons (dVar 3) dNil)))))))
  (dRet (rv (dC (.bl true)))))))
def q_is_closing : FD := ⟨"is_closing", 2, 4, b_is_closing⟩
abbrev i_is_closing : Nat := 309

def b_is_journal (C : Calls) : DS :=
  (dSeqS
  (dIfS (dOrT (dNotT (dB (fz (dBlt bIsi (dCons (dBVar 0) (dCons (dC (.ty "tuple")) dNil)))))) (dOrT (dB (fz (dOp fNe (fz (dBlt bLen (dCons (dBVar 0) dNil))) (dC (.int 3))))) (dOrT (dNotT (dB (fz (dCall C 312 (dCons (fz (dOp fIx (dBVar 0) (dC (.int 0)))) dNil))))) (dNotT (dB (fz (dCall C 312 (dCons (fz (dOp fIx (dBVar 0) (dC (.int 1)))) dNil)))))))) (dRet (rv (dC (.bl false)))) dSkip)
  (dSeqS
  (dIfS (dOrT (dNotT (dB (dChain fLe fLt (dC (.int 0)) (fz (dOp fIx (dBVar 0) (dC (.int 1)))) (fz (dOp fIx (dBVar 0) (dC (.int 0))))))) (dNotT (dB (fz (dBlt bIsi (dCons (fz (dOp fIx (dBVar 0) (dC (.int 2)))) (dCons (dC (.ty "tuple")) dNil))))))) (dRet (rv (dC (.bl false)))) dSkip)
  (dSeqS
  (dIfS (dNotT (dB (fz (dBlt bAll (dCons (fz (dComp (dSeq (fz (dOp fIx (dBVar 0) (dC (.int 2))))) [5] (.nm 5) dYes (fz (dCall C 311 (dCons (dVar 5) (dCons (fz (dOp fIx (dBVar 0) (dC (.int 0)))) (dCons (fz (dOp fIx (dBVar 0) (dC (.int 1)))) dNil))))))) dNil))))) (dRet (rv (dC (.bl false)))) dSkip)
  (dSeqS
  (dSet 1 (dComp (dSeq (fz (dOp fIx (dBVar 0) (dC (.int 2))))) [2, 3, 4] (.tp [(.nm 2), (.nm 3), (.nm 4)]) dYes (dTup (dCons (dVar 2) (dCons (dVar 3) dNil)))))
  (dRet (dOp fEq (dBVar 1) (fz (dSortSet (dBVar 1)))))))))
def q_is_journal : FD := ⟨"is_journal", 1, 6, b_is_journal⟩
abbrev i_is_journal : Nat := 310

def b_is_note (C : Calls) : DS :=
  (dSeqS
  (dIfS (dOrT (dNotT (dB (fz (dBlt bIsi (dCons (dBVar 0) (dCons (dC (.ty "tuple")) dNil)))))) (dOrT (dB (fz (dOp fNe (fz (dBlt bLen (dCons (dBVar 0) dNil))) (dC (.int 3))))) (dOrT (dNotT (dB (fz (dBlt bIsi (dCons (fz (dOp fIx (dBVar 0) (dC (.int 1)))) (dCons (dC (.ty "str")) dNil)))))) (dB (fz (dOp fNotIn (fz (dOp fIx (dBVar 0) (dC (.int 1)))) (dC (.wt [.str "end", .str "closed"])))))))) (dRet (rv (dC (.bl false)))) dSkip)
  (dSeqS
  (dIfS (dOrT (dNotT (dB (fz (dCall C 312 (dCons (fz (dOp fIx (dBVar 0) (dC (.int 0)))) dNil))))) (dNotT (dB (fz (dCall C 312 (dCons (fz (dOp fIx (dBVar 0) (dC (.int 2)))) dNil)))))) (dRet (rv (dC (.bl false)))) dSkip)
  (dRet (rv (dAnd (dChain fLe fLt (dC (.int 0)) (fz (dOp fIx (dBVar 0) (dC (.int 0)))) (dBVar 2)) (dChain fLe fLt (dC (.int 0)) (fz (dOp fIx (dBVar 0) (dC (.int 2)))) (dBVar 1)))))))
def q_is_note : FD := ⟨"is_note", 3, 3, b_is_note⟩
abbrev i_is_note : Nat := 311

def b_is_number (C : Calls) : DS :=
  (dRet (rv (dAnd (fz (dBlt bIsi (dCons (dBVar 0) (dCons (dC (.ty "int")) dNil)))) (dNot (fz (dBlt bIsi (dCons (dBVar 0) (dCons (dC (.ty "bool")) dNil))))))))
def q_is_number : FD := ⟨"is_number", 1, 1, b_is_number⟩
abbrev i_is_number : Nat := 312

def b_is_open (C : Calls) : DS :=
  (dRet (dBlt bAll (dCons (fz (dComp (dEnum (dVar 1)) [2, 3] (.tp [(.nm 2), (.nm 3)]) dYes (fz (dOp fNotIn (dBVar 3) (fz (dSl (dBVar 0) oNone (oSome (fz (dOp fAdd (dBVar 2) (dC (.int 1))))))))))) dNil)))
def q_is_open : FD := ⟨"is_open", 2, 4, b_is_open⟩
abbrev i_is_open : Nat := 313

def b_is_order (C : Calls) : DS :=
  (dSeqS
  (dIfS (dOrT (dNotT (dB (fz (dCall C 286 (dCons (dVar 1) (dCons (fz (dOp fIx (dBVar 0) (dC (.int 0)))) (dCons (fz (dOp fIx (dBVar 0) (dC (.int 1)))) dNil))))))) (dB (fz (dOp fNe (fz (dLenSet (dBVar 1))) (fz (dOp fIx (dBVar 0) (dC (.int 1)))))))) (dRet (rv (dC (.bl false)))) dSkip)
  (dSeqS
  (dIfS (dNotT (dB (fz (dBlt bAll (dCons (fz (dComp (dSeq (fz (dCall C 399 (dCons (dVar 0) (dCons (dC (.str "closed")) dNil))))) [2, 4] (.tp [(.nm 2), (.nm 4)]) dYes (fz (dOp fEq (fz (dOp fIx (dBVar 1) (dBVar 2))) (dBVar 4))))) dNil))))) (dRet (rv (dC (.bl false)))) dSkip)
  (dRet (dBlt bAll (dCons (fz (dComp (dSeq (fz (dCall C 399 (dCons (dVar 0) (dCons (dC (.str "end")) dNil))))) [2, 3] (.tp [(.nm 2), (.nm 3)]) dYes (fz (dOp fNotIn (dBVar 3) (fz (dSl (dBVar 1) oNone (oSome (fz (dOp fAdd (dBVar 2) (dC (.int 1))))))))))) dNil)))))
def q_is_order : FD := ⟨"is_order", 2, 5, b_is_order⟩
abbrev i_is_order : Nat := 314

def b_is_possible (C : Calls) : DS :=
  (dRet (dOp fGt (fz (dCall C 295 (dCons (dVar 0) dNil))) (dC (.int 0))))
def q_is_possible : FD := ⟨"is_possible", 1, 1, b_is_possible⟩
abbrev i_is_possible : Nat := 315

def b_is_road (C : Calls) : DS :=
  (dSeqS
  (dIfS (dOrT (dNotT (dB (fz (dBlt bIsi (dCons (dBVar 0) (dCons (dC (.ty "tuple")) dNil)))))) (dOrT (dB (fz (dOp fNe (fz (dBlt bLen (dCons (dBVar 0) dNil))) (dC (.int 2))))) (dOrT (dNotT (dB (fz (dCall C 312 (dCons (fz (dOp fIx (dBVar 0) (dC (.int 0)))) dNil))))) (dNotT (dB (fz (dCall C 312 (dCons (fz (dOp fIx (dBVar 0) (dC (.int 1)))) dNil)))))))) (dRet (rv (dC (.bl false)))) dSkip)
  (dRet (rv (dChain3 fLe fLt fLt (dC (.int 0)) (fz (dOp fIx (dBVar 0) (dC (.int 0)))) (fz (dOp fIx (dBVar 0) (dC (.int 1)))) (dBVar 1)))))
def q_is_road : FD := ⟨"is_road", 2, 2, b_is_road⟩
abbrev i_is_road : Nat := 316

def b_is_sound (C : Calls) : DS :=
  (dRet (dBlt bAll (dCons (fz (dComp (dSeq (fz (dCall C 399 (dCons (dVar 0) (dCons (dC (.str "closed")) dNil))))) [1, 2] (.tp [(.nm 1), (.nm 2)]) dYes (fz (dOp fEq (fz (dCall C 422 (dCons (dVar 0) (dCons (dVar 2) dNil)))) (dTup (dCons (dVar 1) (dCons (dVar 1) dNil))))))) dNil)))
def q_is_sound : FD := ⟨"is_sound", 1, 3, b_is_sound⟩
abbrev i_is_sound : Nat := 317

def b_is_story (C : Calls) : DS :=
  (dSeqS
  (dIfS (dOrT (dNotT (dB (fz (dBlt bIsi (dCons (dBVar 1) (dCons (dC (.ty "tuple")) dNil)))))) (dB (fz (dOp fNe (fz (dBlt bLen (dCons (dBVar 1) dNil))) (dC (.int 2)))))) (dRet (rv (dC (.bl false)))) dSkip)
  (dSeqS
  (dIfS (dOrT (dNotT (dB (fz (dCall C 286 (dCons (fz (dOp fIx (dBVar 1) (dC (.int 0)))) (dCons (fz (dOp fIx (dBVar 0) (dC (.int 0)))) (dCons (fz (dOp fIx (dBVar 0) (dC (.int 1)))) dNil))))))) (dNotT (dB (fz (dCall C 286 (dCons (fz (dOp fIx (dBVar 1) (dC (.int 1)))) (dCons (fz (dOp fIx (dBVar 0) (dC (.int 0)))) (dCons (fz (dOp fIx (dBVar 0) (dC (.int 1)))) dNil)))))))) (dRet (rv (dC (.bl false)))) dSkip)
  (dSeqS
  (dIfS (dOrT (dB (fz (dOp fNe (fz (dLenSet (fz (dOp fIx (dBVar 1) (dC (.int 0)))))) (fz (dOp fIx (dBVar 0) (dC (.int 1))))))) (dNotT (dB (fz (dCall C 313 (dCons (fz (dOp fIx (dBVar 1) (dC (.int 0)))) (dCons (fz (dOp fIx (dBVar 1) (dC (.int 1)))) dNil))))))) (dRet (rv (dC (.bl false)))) dSkip)
  (dRet (dBlt bAll (dCons (fz (dComp (dSeq (fz (dOp fIx (dBVar 0) (dC (.int 2))))) [2, 3, 4] (.tp [(.nm 2), (.nm 3), (.nm 4)]) dYes (fz (dOp fEq (fz (dOp fIx (fz (dOp fIx (dBVar 1) (fz (dBlt bInt (dCons (fz (dOp fEq (dBVar 3) (dC (.str "end")))) dNil))))) (dBVar 2))) (dBVar 4))))) dNil))))))
def q_is_story : FD := ⟨"is_story", 2, 5, b_is_story⟩
abbrev i_is_story : Nat := 318

def b_is_tree (C : Calls) : DS :=
  (dSeqS
  (dIfS (dOrT (dNotT (dB (fz (dBlt bIsi (dCons (dBVar 0) (dCons (dC (.ty "tuple")) dNil)))))) (dOrT (dB (fz (dOp fNe (fz (dBlt bLen (dCons (dBVar 0) dNil))) (dC (.int 2))))) (dOrT (dNotT (dB (fz (dCall C 312 (dCons (fz (dOp fIx (dBVar 0) (dC (.int 0)))) dNil))))) (dB (fz (dOp fLt (fz (dOp fIx (dBVar 0) (dC (.int 0)))) (dC (.int 1)))))))) (dRet (rv (dC (.bl false)))) dSkip)
  (dSeqS
  (dIfS (dOrT (dNotT (dB (fz (dBlt bIsi (dCons (fz (dOp fIx (dBVar 0) (dC (.int 1)))) (dCons (dC (.ty "tuple")) dNil)))))) (dNotT (dB (fz (dBlt bAll (dCons (fz (dComp (dSeq (fz (dOp fIx (dBVar 0) (dC (.int 1))))) [1] (.nm 1) dYes (fz (dCall C 316 (dCons (dVar 1) (dCons (fz (dOp fIx (dBVar 0) (dC (.int 0)))) dNil)))))) dNil)))))) (dRet (rv (dC (.bl false)))) dSkip)
  (dSeqS
  (dIfS (dOrT (dB (fz (dOp fNe (fz (dBlt bLen (dCons (fz (dOp fIx (dBVar 0) (dC (.int 1)))) dNil))) (fz (dOp fSub (fz (dOp fIx (dBVar 0) (dC (.int 0)))) (dC (.int 1))))))) (dB (fz (dOp fNe (fz (dBlt bList (dCons (fz (dOp fIx (dBVar 0) (dC (.int 1)))) dNil))) (fz (dSortSet (fz (dOp fIx (dBVar 0) (dC (.int 1)))))))))) (dRet (rv (dC (.bl false)))) dSkip)
  (dRet (dOp fEq (fz (dBlt bLen (dCons (fz (dCall C 410 (dCons (fz (dOp fIx (dBVar 0) (dC (.int 0)))) (dCons (fz (dOp fIx (dBVar 0) (dC (.int 1)))) dNil)))) dNil))) (fz (dOp fIx (dBVar 0) (dC (.int 0)))))))))
def q_is_tree : FD := ⟨"is_tree", 1, 2, b_is_tree⟩
abbrev i_is_tree : Nat := 319

def b_journal_in (C : Calls) : DS :=
  (dRetX (dCall C 291 (only (dCons (fz (dCall C 322 (dCons (dVar 0) dNil))) (dCons (dVar 0) dNil)))))
def q_journal_in : FD := ⟨"journal_in", 1, 1, b_journal_in⟩
abbrev i_journal_in : Nat := 320

def b_journal_of (C : Calls) : DS :=
  (dRet (rv (dTup (dCons (dVar 0) (dCons (fz (dBlt bLen (dCons (dBVar 1) dNil))) (dCons (fz (dBlt bTuple (dCons (fz (dComp (dEnum (dVar 2)) [3, 4] (.tp [(.nm 3), (.nm 4)]) dYes (dTup (dCons (dVar 3) (dCons (dC (.str "end")) (dCons (dVar 4) dNil)))))) dNil))) dNil))))))
def q_journal_of : FD := ⟨"journal_of", 3, 5, b_journal_of⟩
abbrev i_journal_of : Nat := 321

def b_least_closing (C : Calls) : DS :=
  (dSeqS
  (dPar [2, 3] (rCons (dOp fIx (dBVar 0) (dC (.int 1))) (rCons (dLst dNil) rNil)))
  (dSeqS
  (dFor (dRange1 (fz (dOp fSub (fz (dOp fIx (dBVar 0) (dC (.int 0)))) (dC (.int 1))))) (.nm 1) (dSeqS
  (dFrz 2 (dSet 4 (dOp fIx (fz (dCall C 385 (dCons (fz (dOp fIx (dBVar 0) (dC (.int 0)))) (dCons (dVar 2) dNil)))) (dC (.int 0)))))
  (dSeqS
  (dMut1 3 fApp (dVar 4))
  (dFrz 2 (dSet 2 (dCall C 417 (dCons (dVar 2) (dCons (dVar 4) dNil))))))))
  (dRet (dBlt bTuple (dCons (dBVar 3) dNil)))))
def q_least_closing : FD := ⟨"least_closing", 1, 5, b_least_closing⟩
abbrev i_least_closing : Nat := 383

def b_leaves (C : Calls) : DS :=
  (dRet (dCall C 385 (dCons (fz (dOp fIx (dBVar 0) (dC (.int 0)))) (dCons (fz (dOp fIx (dBVar 0) (dC (.int 1)))) dNil))))
def q_leaves : FD := ⟨"leaves", 1, 1, b_leaves⟩
abbrev i_leaves : Nat := 384

def b_leaves_of (C : Calls) : DS :=
  (dRet (dComp (dRange1 (dVar 0)) [2] (.nm 2) (dB (fz (dOp fEq (fz (dBlt bLen (dCons (fz (dCall C 395 (dCons (dVar 1) (dCons (dVar 2) dNil)))) dNil))) (dC (.int 1))))) (dVar 2)))
def q_leaves_of : FD := ⟨"leaves_of", 2, 3, b_leaves_of⟩
abbrev i_leaves_of : Nat := 385

def b_look (C : Calls) : DS :=
  (dSeqS
  (dDropX (dCall C 390 (only (dCons (dVar 0) dNil))))
  (dFor (dSeq (dVar 1)) (.nm 2) (dDropX (dCall C 391 (only (dCons (dVar 0) (dCons (dVar 2) dNil)))))))
def q_look : FD := ⟨"look", 2, 3, b_look⟩
abbrev i_look : Nat := 386

def b_look_close (C : Calls) : DS :=
  (dSeqS
  (dIfS (dNotT (dB (dChain fLe fLt (dC (.int 0)) (dBVar 2) (fz (dOp fIx (dBVar 0) (dC (.int 0))))))) (dRaise "NoTown" "town" (dVar 2)) dSkip)
  (dIfS (dB (fz (dOp fIn (dBVar 2) (dBVar 1)))) (dRaise "Closed" "town" (dVar 2)) dSkip))
def q_look_close : FD := ⟨"look_close", 3, 3, b_look_close⟩
abbrev i_look_close : Nat := 387

def b_look_order (C : Calls) : DS :=
  (dSeqS
  (dSet 2 (dCall C 394 (dCons (dVar 0) (dCons (dVar 1) dNil))))
  (dIfS (dB (fz (dOp fNotN (dBVar 2) (dC .non)))) (dRaise "Misfit" "time" (dVar 2)) dSkip))
def q_look_order : FD := ⟨"look_order", 2, 3, b_look_order⟩
abbrev i_look_order : Nat := 388

def b_look_orders (C : Calls) : DS :=
  (dSeqS
  (dDropX (dCall C 388 (only (dCons (dVar 0) (dCons (dVar 1) dNil)))))
  (dSeqS
  (dDropX (dCall C 388 (only (dCons (dVar 0) (dCons (dVar 2) dNil)))))
  (dIfS (dB (fz (dOp fNe (fz (dBlt bSorted (dCons (dBVar 1) dNil))) (fz (dBlt bSorted (dCons (dBVar 2) dNil)))))) (dRaise0 "OtherTowns") dSkip)))
def q_look_orders : FD := ⟨"look_orders", 3, 3, b_look_orders⟩
abbrev i_look_orders : Nat := 389

def b_look_possible (C : Calls) : DS :=
  (dIfS (dNotT (dB (fz (dCall C 315 (dCons (dVar 0) dNil))))) (dRaise "Impossible" "evidence" (fz (dCall C 303 (dCons (dVar 0) dNil)))) dSkip)
def q_look_possible : FD := ⟨"look_possible", 1, 1, b_look_possible⟩
abbrev i_look_possible : Nat := 390

def b_look_town (C : Calls) : DS :=
  (dIfS (dNotT (dB (dChain fLe fLt (dC (.int 0)) (dBVar 1) (fz (dOp fIx (dBVar 0) (dC (.int 0))))))) (dRaise "NoTown" "town" (dVar 1)) dSkip)
def q_look_town : FD := ⟨"look_town", 2, 2, b_look_town⟩
abbrev i_look_town : Nat := 391

def b_lost_towns (C : Calls) : DS :=
  (dSeqS
  (dSet 1 (dComp (dSeq (fz (dCall C 399 (dCons (dVar 0) (dCons (dC (.str "closed")) dNil))))) [2, 3] (.tp [(.nm 2), (.nm 3)]) (dB (fz (dOp fGt (fz (dOp fIx (fz (dCall C 422 (dCons (dVar 0) (dCons (dVar 3) dNil)))) (dC (.int 0)))) (fz (dOp fIx (fz (dCall C 422 (dCons (dVar 0) (dCons (dVar 3) dNil)))) (dC (.int 1))))))) (dVar 3)))
  (dRet (dSortSet (dBVar 1))))
def q_lost_towns : FD := ⟨"lost_towns", 1, 4, b_lost_towns⟩
abbrev i_lost_towns : Nat := 392

def b_lost_ways (C : Calls) : DS :=
  (dSeqS
  (dPar [2, 3] (rCons (dBlt bDict (dCons (fz (dCall C 399 (dCons (dVar 0) (dCons (dC (.str "end")) dNil)))) dNil)) (rCons (rv (dC (.int 1))) rNil)))
  (dSeqS
  (dFor (dRange1 (fz (dOp fIx (dBVar 0) (dC (.int 1))))) (.nm 1) (dIfS (dB (fz (dOp fNotIn (dBVar 1) (dBVar 2)))) (dAug 3 fIMul (fz (dOp fSub (fz (dOp fSub (fz (dOp fIx (dBVar 0) (dC (.int 0)))) (dC (.int 1)))) (dBVar 1)))) dSkip))
  (dRet (dMv 3))))
def q_lost_ways : FD := ⟨"lost_ways", 1, 4, b_lost_ways⟩
abbrev i_lost_ways : Nat := 393

def b_misfit (C : Calls) : DS :=
  (dSeqS
  (dFor (dRange1 (fz (dBlt bLen (dCons (dBVar 1) dNil)))) (.nm 2) (dIfS (dB (fz (dOp fEq (fz (dCall C 293 (dCons (dVar 0) (dCons (fz (dBlt bTuple (dCons (fz (dSl (dBVar 1) oNone (oSome (fz (dOp fAdd (dBVar 2) (dC (.int 1))))))) dNil))) dNil)))) (dC (.int 0))))) (dRet (dMv 2)) dSkip))
  (dRet (rv (dC .non))))
def q_misfit : FD := ⟨"misfit", 2, 3, b_misfit⟩
abbrev i_misfit : Nat := 394

def b_neighbours (C : Calls) : DS :=
  (dRet (dComp (dSeq (dBVar 0)) [2, 3] (.tp [(.nm 2), (.nm 3)]) (dB (fz (dOp fIn (dBVar 1) (dTup (dCons (dVar 2) (dCons (dVar 3) dNil)))))) (dIf (dB (fz (dOp fEq (dBVar 2) (dBVar 1)))) (dVar 3) (dVar 2))))
def q_neighbours : FD := ⟨"neighbours", 2, 4, b_neighbours⟩
abbrev i_neighbours : Nat := 395

def b_next_counts (C : Calls) : DS :=
  (dSeqS
  (dSet 2 (dComp (dRange1 (fz (dOp fIx (dBVar 0) (dC (.int 0))))) [3] (.nm 3) (dB (fz (dOp fNotIn (dBVar 3) (dBVar 1)))) (dTup (dCons (dVar 3) (dCons (fz (dCall C 293 (dCons (dVar 0) (dCons (fz (dOp fAdd (dBVar 1) (dTup (dCons (dVar 3) dNil)))) dNil)))) dNil)))))
  (dRet (dComp (dSeq (dBVar 2)) [3, 4] (.tp [(.nm 3), (.nm 4)]) (dB (fz (dOp fGt (dBVar 4) (dC (.int 0))))) (dTup (dCons (dVar 3) (dCons (dVar 4) dNil))))))
def q_next_counts : FD := ⟨"next_counts", 2, 5, b_next_counts⟩
abbrev i_next_counts : Nat := 396

def b_noted (C : Calls) : DS :=
  (dRet (dComp (dSeq (fz (dOp fIx (dBVar 0) (dC (.int 2))))) [2, 3, 4] (.tp [(.nm 2), (.nm 3), (.nm 4)]) (dB (fz (dOp fEq (dBVar 3) (dBVar 1)))) (dTup (dCons (dVar 2) (dCons (dVar 4) dNil)))))
def q_noted : FD := ⟨"noted", 2, 5, b_noted⟩
abbrev i_noted : Nat := 399

def b_number_of (C : Calls) : DS :=
  (dSeqS
  (dDropX (dCall C 388 (only (dCons (dVar 0) (dCons (dVar 1) dNil)))))
  (dSeqS
  (dSet 2 (rv (dC (.int 0))))
  (dSeqS
  (dFor (dEnum (dVar 1)) (.tp [(.nm 3), (.nm 4)]) (dAug 2 (pureO (gI fun i j => i + j)) (fz (dBlt bSum (dCons (fz (dComp (dSeq (fz (dCall C 396 (dCons (dVar 0) (dCons (fz (dBlt bTuple (dCons (fz (dSl (dBVar 1) oNone (oSome (dVar 3)))) dNil))) dNil))))) [5, 6] (.tp [(.nm 5), (.nm 6)]) (dB (fz (dOp fLt (dBVar 5) (dBVar 4)))) (dVar 6))) dNil)))))
  (dRet (dMv 2)))))
def q_number_of : FD := ⟨"number_of", 2, 7, b_number_of⟩
abbrev i_number_of : Nat := 401

def b_open_orders (C : Calls) : DS :=
  (dRet (dOp fSub (fz (dCall C 407 (dCons (dVar 0) (dCons (fz (dLst (dCons (dTup (dCons (dVar 1) (dCons (dVar 2) dNil))) dNil))) dNil)))) (fz (dBlt bSum (dCons (fz (dComp (dRange1 (dVar 1)) [4] (.nm 4) dYes (fz (dCall C 407 (dCons (dVar 0) (dCons (fz (dLst (dCons (dTup (dCons (dVar 4) (dCons (dVar 3) dNil))) (dCons (dTup (dCons (dVar 1) (dCons (dVar 2) dNil))) dNil)))) dNil)))))) dNil)))))
def q_open_orders : FD := ⟨"open_orders", 4, 5, b_open_orders⟩
abbrev i_open_orders : Nat := 402

def b_order_at (C : Calls) : DS :=
  (dSeqS
  (dIfS (dNotT (dB (dChain fLe fLt (dC (.int 0)) (dBVar 1) (fz (dCall C 295 (dCons (dVar 0) dNil)))))) (dRaise "NoNumber" "number" (dVar 1)) dSkip)
  (dSeqS
  (dPar [3, 4] (rCons (rv (dTup dNil)) (rCons (rv (dVar 1)) rNil)))
  (dSeqS
  (dFor (dRange1 (fz (dOp fIx (dBVar 0) (dC (.int 1))))) (.nm 2) (dFor (dSeq (fz (dCall C 396 (dCons (dVar 0) (dCons (dVar 3) dNil))))) (.tp [(.nm 5), (.nm 6)]) (dSeqS
  (dIfS (dB (fz (dOp fLt (dBVar 4) (dBVar 6)))) (dSeqS
  (dSet 3 (dOp fAdd (dBVar 3) (dTup (dCons (dVar 5) dNil))))
  dBreak) dSkip)
  (dAug 4 fSub (dBVar 6)))))
  (dRet (dMv 3)))))
def q_order_at : FD := ⟨"order_at", 2, 7, b_order_at⟩
abbrev i_order_at : Nat := 403

def b_pairs_of (C : Calls) : DS :=
  (dSeqS
  (dSet 2 (dLst dNil))
  (dSeqS
  (dFor (dRange1 (fz (dBlt bLen (dCons (dBVar 1) dNil)))) (.nm 3) (dMut1 2 fExt (fz (dComp (dRange2 (fz (dOp fAdd (dBVar 3) (dC (.int 1)))) (fz (dBlt bLen (dCons (dBVar 1) dNil)))) [4] (.nm 4) (dB (fz (dCall C 314 (dCons (dVar 0) (dCons (fz (dCall C 423 (dCons (dVar 1) (dCons (dVar 3) (dCons (dVar 4) dNil))))) dNil))))) (dTup (dCons (dVar 3) (dCons (dVar 4) dNil)))))))
  (dRet (dMv 2))))
def q_pairs_of : FD := ⟨"pairs_of", 2, 5, b_pairs_of⟩
abbrev i_pairs_of : Nat := 406

def b_placed (C : Calls) : DS :=
  (dSeqS
  (dUnp (.tp [(.nm 4), (.nm 5), (.nm 6)]) (fz (dCall C 408 (dCons (dVar 0) dNil))))
  (dSeqS
  (dSet 2 (dBlt bDict (dCons (fz (dCall C 399 (dCons (dVar 0) (dCons (dC (.str "closed")) dNil)))) dNil)))
  (dSeqS
  (dFor (dSeq (dVar 1)) (.tp [(.nm 7), (.nm 8)]) (dSeqS
  (dIfS (dB (fz (dOp fNe (dDget (dBVar 2) (dBVar 7) (dVar 8)) (dBVar 8)))) (dRet (rv (dC (.int 0)))) dSkip)
  (dPutD 2 (dVar 7) (dVar 8))))
  (dSeqS
  (dSet 3 (dComp (dSeq (dBVar 6)) [9] (.nm 9) (dB (fz (dOp fEq (fz (dOp fIx (dBVar 9) (dC (.int 1)))) (dC (.str "end"))))) (dVar 9)))
  (dRet (dCall C 295 (dCons (dTup (dCons (dVar 4) (dCons (dVar 5) (dCons (fz (dBlt bTuple (dCons (fz (dBlt bSorted (dCons (fz (dOp fAdd (dBVar 3) (fz (dLk 2 (dComp (dKeys (dBVar 2)) [7] (.nm 7) dYes (dTup (dCons (dVar 7) (dCons (dC (.str "closed")) (dCons (fz (dOp fIx (dBVar 2) (dBVar 7))) dNil))))))))) dNil))) dNil))) dNil)))) dNil)))))))
def q_placed : FD := ⟨"placed", 2, 10, b_placed⟩
abbrev i_placed : Nat := 407

def b_plain (C : Calls) : DS :=
  (dRet (rv (dTup (dCons (fz (dOp fIx (dBVar 0) (dC (.int 0)))) (dCons (fz (dOp fIx (dBVar 0) (dC (.int 1)))) (dCons (fz (dBlt bTuple (dCons (fz (dComp (dSeq (fz (dOp fIx (dBVar 0) (dC (.int 2))))) [1] (.nm 1) dYes (fz (dBlt bTuple (dCons (dBVar 1) dNil))))) dNil))) dNil))))))
def q_plain : FD := ⟨"plain", 1, 2, b_plain⟩
abbrev i_plain : Nat := 408

def b_plan (C : Calls) : DS :=
  (dSeqS
  (dDropX (dCall C 389 (only (dCons (dVar 0) (dCons (dVar 1) (dCons (dVar 2) dNil))))))
  (dSeqS
  (dPar [3, 4] (rCons (dBlt bTuple (dCons (dBVar 1) dNil)) (rCons (dLst dNil) rNil)))
  (dSeqS
  (dWhile (dB (fz (dOp fNe (dBVar 3) (fz (dBlt bTuple (dCons (dBVar 2) dNil)))))) (dSeqS
  (dSet 5 (dCall C 297 (dCons (fz (dOp fIx (fz (dCall C 414 (dCons (dVar 3) (dCons (dVar 2) dNil)))) (dC (.int 0)))) (dCons (dVar 3) (dCons (dVar 2) dNil)))))
  (dSeqS
  (dMut1 4 fApp (dVar 5))
  (dSet 3 (dCall C 423 (dCons (dVar 3) (dCons (fz (dOp fIx (dBVar 5) (dC (.int 0)))) (dCons (fz (dOp fIx (dBVar 5) (dC (.int 1)))) dNil))))))))
  (dRet (dMv 4)))))
def q_plan : FD := ⟨"plan", 3, 6, b_plan⟩
abbrev i_plan : Nat := 409

def b_reached (C : Calls) : DS :=
  (dSeqS
  (dPar [2, 3] (rCons (dLst (dCons (dC (.int 0)) dNil)) (rCons (dLst (dCons (dC (.int 0)) dNil)) rNil)))
  (dSeqS
  (dWhile (dB (fz (dOp fGt (fz (dBlt bLen (dCons (dBVar 3) dNil))) (dC (.int 0))))) (dSeqS
  (dPop 4 3)
  (dFor (dSeq (fz (dCall C 395 (dCons (dVar 1) (dCons (dVar 4) dNil))))) (.nm 5) (dIfS (dB (fz (dOp fNotIn (dBVar 5) (dBVar 2)))) (dSeqS
  (dMut1 2 fApp (dVar 5))
  (dMut1 3 fApp (dVar 5))) dSkip))))
  (dRet (dMv 2))))
def q_reached : FD := ⟨"reached", 2, 6, b_reached⟩
abbrev i_reached : Nat := 410

def b_record_of (C : Calls) : DS :=
  (dSeqS
  (dPar [3, 4] (rCons (dOp fIx (dBVar 0) (dC (.int 1))) (rCons (dLst dNil) rNil)))
  (dSeqS
  (dFor (dSeq (dVar 1)) (.nm 2) (dSeqS
  (dFrz 3 (dSet 5 (dCall C 395 (dCons (dVar 3) (dCons (dVar 2) dNil)))))
  (dSeqS
  (dIfS (dB (fz (dOp fNe (fz (dBlt bLen (dCons (dBVar 5) dNil))) (dC (.int 1))))) (dRaise "NoLeaf" "town" (dVar 2)) dSkip)
  (dSeqS
  (dMut1 4 fApp (fz (dOp fIx (dBVar 5) (dC (.int 0)))))
  (dFrz 3 (dSet 3 (dCall C 417 (dCons (dVar 3) (dCons (dVar 2) dNil)))))))))
  (dRet (dBlt bTuple (dCons (dBVar 4) dNil)))))
def q_record_of : FD := ⟨"record_of", 2, 6, b_record_of⟩
abbrev i_record_of : Nat := 411

def b_reduced (C : Calls) : DS :=
  (dSeqS
  (dSet 2 (dCall C 307 (dCons (dVar 0) (dCons (dVar 1) dNil))))
  (dRet (rv (dTup (dCons (fz (dOp fDiv (dBVar 0) (dBVar 2))) (dCons (fz (dOp fDiv (dBVar 1) (dBVar 2))) dNil))))))
def q_reduced : FD := ⟨"reduced", 2, 3, b_reduced⟩
abbrev i_reduced : Nat := 412

def b_rings (C : Calls) : DS :=
  (dSeqS
  (dDropX (dCall C 389 (only (dCons (dVar 0) (dCons (dVar 1) (dCons (dVar 2) dNil))))))
  (dRet (dCall C 414 (dCons (dVar 1) (dCons (dVar 2) dNil)))))
def q_rings : FD := ⟨"rings", 3, 3, b_rings⟩
abbrev i_rings : Nat := 413

def b_rings_of (C : Calls) : DS :=
  (dSeqS
  (dPar [2, 3] (rCons (dComp (dSeq (dBVar 0)) [7] (.nm 7) dYes (dIndex (fz (dBlt bList (dCons (dBVar 1) dNil))) (dVar 7))) (rCons (dLst dNil) rNil)))
  (dSeqS
  (dFrz 2 (dFor (dEnum (dVar 2)) (.tp [(.nm 4), (.nm 5)]) (dIfS (dAndT (dB (fz (dOp fNe (dBVar 5) (dBVar 4)))) (dNotT (dB (fz (dBlt bAny (dCons (fz (dComp (dSeq (dBVar 3)) [6] (.nm 6) dYes (fz (dOp fIn (dBVar 4) (dBVar 6))))) dNil)))))) (dSeqS
  (dSet 6 (dLst (dCons (dVar 4) dNil)))
  (dSeqS
  (dWhile (dB (fz (dOp fNe (fz (dOp fIx (dBVar 2) (fz (dOp fIx (dBVar 6) (fz (dUn fNeg (dC (.int 1)))))))) (dBVar 4)))) (dMut1 6 fApp (fz (dOp fIx (dBVar 2) (fz (dOp fIx (dBVar 6) (fz (dUn fNeg (dC (.int 1))))))))))
  (dMut1 3 fApp (fz (dBlt bTuple (dCons (dBVar 6) dNil)))))) dSkip)))
  (dRet (dMv 3))))
def q_rings_of : FD := ⟨"rings_of", 2, 8, b_rings_of⟩
abbrev i_rings_of : Nat := 414

def b_road_chance (C : Calls) : DS :=
  (dSeqS
  (dDropX (dCall C 386 (only (dCons (dVar 0) (dCons (fz (dLst (dCons (dVar 1) (dCons (dVar 2) dNil)))) dNil)))))
  (dRet (dCall C 280 (dCons (fz (dCall C 425 (dCons (dVar 0) (dCons (dVar 1) (dCons (dVar 2) dNil))))) (dCons (fz (dCall C 425 (dCons (dVar 0) (dCons (dVar 2) (dCons (dVar 1) dNil))))) dNil)))))
def q_road_chance : FD := ⟨"road_chance", 3, 3, b_road_chance⟩
abbrev i_road_chance : Nat := 415

def b_roads_of (C : Calls) : DS :=
  (dSeqS
  (dDropX (dCall C 386 (only (dCons (dVar 0) (dCons (fz (dLst dNil)) dNil)))))
  (dSeqS
  (dPar [2, 3] (rCons (dLst dNil) (rCons (dLst dNil) rNil)))
  (dSeqS
  (dFor (dRange1 (fz (dOp fIx (dBVar 0) (dC (.int 0))))) (.nm 1) (dFor (dRange2 (fz (dOp fAdd (dBVar 1) (dC (.int 1)))) (fz (dOp fIx (dBVar 0) (dC (.int 0))))) (.nm 4) (dSeqS
  (dSetX 5 (dCall C 415 (only (dCons (dVar 0) (dCons (dVar 1) (dCons (dVar 4) dNil))))))
  (dSeqS
  (dIfS (dB (fz (dOp fEq (dBVar 5) (dTup (dCons (dC (.int 1)) (dCons (dC (.int 1)) dNil)))))) (dMut1 2 fApp (dTup (dCons (dVar 1) (dCons (dVar 4) dNil)))) dSkip)
  (dIfS (dB (fz (dOp fGt (fz (dOp fIx (dBVar 5) (dC (.int 0)))) (dC (.int 0))))) (dMut1 3 fApp (dTup (dCons (dVar 1) (dCons (dVar 4) dNil)))) dSkip)))))
  (dFrz 2 (dFrz 3 (dRet (rv (dTup (dCons (dVar 2) (dCons (dVar 3) dNil))))))))))
def q_roads_of : FD := ⟨"roads_of", 1, 6, b_roads_of⟩
abbrev i_roads_of : Nat := 416

def b_roads_without (C : Calls) : DS :=
  (dRet (dComp (dSeq (dBVar 0)) [2, 3] (.tp [(.nm 2), (.nm 3)]) (dB (fz (dOp fNotIn (dBVar 1) (dTup (dCons (dVar 2) (dCons (dVar 3) dNil)))))) (dTup (dCons (dVar 2) (dCons (dVar 3) dNil)))))
def q_roads_without : FD := ⟨"roads_without", 2, 4, b_roads_without⟩
abbrev i_roads_without : Nat := 417

def b_shows_evidence (C : Calls) : DS :=
  (dSeqS
  (dIfS (dOrT (dNotT (dB (fz (dBlt bIsi (dCons (dBVar 1) (dCons (dC (.ty "tuple")) dNil)))))) (dOrT (dB (fz (dOp fNe (fz (dBlt bLen (dCons (dBVar 1) dNil))) (dC (.int 2))))) (dOrT (dNotT (dB (fz (dBlt bIsi (dCons (fz (dOp fIx (dBVar 1) (dC (.int 0)))) (dCons (dC (.ty "str")) dNil)))))) (dNotT (dB (fz (dCall C 312 (dCons (fz (dOp fIx (dBVar 1) (dC (.int 1)))) dNil)))))))) (dRet (rv (dC (.bl false)))) dSkip)
  (dSeqS
  (dIfS (dB (fz (dOp fEq (fz (dOp fIx (dBVar 1) (dC (.int 0)))) (dC (.str "never"))))) (dRet (dOp fIn (fz (dOp fIx (dBVar 1) (dC (.int 1)))) (fz (dCall C 392 (dCons (dVar 0) dNil))))) dSkip)
  (dRet (rv (dAnd (fz (dOp fEq (fz (dOp fIx (dBVar 1) (dC (.int 0)))) (dC (.str "few")))) (dAnd (dChain fLe fLt (dC (.int 0)) (fz (dOp fIx (dBVar 1) (dC (.int 1)))) (fz (dOp fIx (dBVar 0) (dC (.int 1))))) (fz (dCall C 284 (dCons (dVar 0) (dCons (fz (dOp fIx (dBVar 1) (dC (.int 1)))) dNil))))))))))
def q_shows_evidence : FD := ⟨"shows_evidence", 2, 2, b_shows_evidence⟩
abbrev i_shows_evidence : Nat := 419

def b_shows_plan (C : Calls) : DS :=
  (dSeqS
  (dDropX (dCall C 388 (only (dCons (dVar 0) (dCons (dVar 1) dNil)))))
  (dSeqS
  (dDropX (dCall C 388 (only (dCons (dVar 0) (dCons (dVar 2) dNil)))))
  (dSeqS
  (dIfS (dNotT (dB (fz (dCall C 285 (dCons (dVar 3) dNil))))) (dRet (rv (dC (.bl false)))) dSkip)
  (dSeqS
  (dSet 4 (dBlt bTuple (dCons (dBVar 1) dNil)))
  (dSeqS
  (dFor (dSeq (dVar 3)) (.tp [(.nm 5), (.nm 6)]) (dSeqS
  (dIfS (dOrT (dNotT (dB (dChain3 fLe fLt fLt (dC (.int 0)) (dBVar 5) (dBVar 6) (fz (dBlt bLen (dCons (dBVar 4) dNil)))))) (dNotT (dB (fz (dCall C 314 (dCons (dVar 0) (dCons (fz (dCall C 423 (dCons (dVar 4) (dCons (dVar 5) (dCons (dVar 6) dNil))))) dNil))))))) (dRet (rv (dC (.bl false)))) dSkip)
  (dSet 4 (dCall C 423 (dCons (dVar 4) (dCons (dVar 5) (dCons (dVar 6) dNil)))))))
  (dRet (dOp fEq (dBVar 4) (fz (dBlt bTuple (dCons (dBVar 2) dNil))))))))))
def q_shows_plan : FD := ⟨"shows_plan", 4, 7, b_shows_plan⟩
abbrev i_shows_plan : Nat := 420

def b_size_from (C : Calls) : DS :=
  (dSeqS
  (dSet 4 (rv (dC (.int 1))))
  (dSeqS
  (dFor (dSeq (fz (dCall C 395 (dCons (dVar 0) (dCons (dVar 1) dNil))))) (.nm 5) (dIfS (dB (fz (dOp fNe (dBVar 5) (dBVar 2)))) (dAug 4 (pureO (gI fun i j => i + j)) (fz (dCall C 421 (dCons (dVar 0) (dCons (dVar 5) (dCons (dVar 1) (dCons (dVar 3) dNil))))))) dSkip))
  (dSeqS
  (dMut1 3 fApp (dVar 4))
  (dRet (dMv 4)))))
def q_size_from : FD := ⟨"size_from", 4, 6, b_size_from⟩
abbrev i_size_from : Nat := 421

def b_span (C : Calls) : DS :=
  (dSeqS
  (dSet 2 (dComp (dSeq (fz (dCall C 399 (dCons (dVar 0) (dCons (dC (.str "closed")) dNil))))) [4, 5] (.tp [(.nm 4), (.nm 5)]) (dB (fz (dOp fEq (dBVar 5) (dBVar 1)))) (dVar 4)))
  (dSeqS
  (dSet 3 (rv (dOp2 bMaxD (fz (dOp fAdd (fz (dComp (dSeq (fz (dCall C 399 (dCons (dVar 0) (dCons (dC (.str "end")) dNil))))) [4, 5] (.tp [(.nm 4), (.nm 5)]) (dB (fz (dOp fEq (dBVar 5) (dBVar 1)))) (fz (dOp fAdd (dBVar 4) (dC (.int 1)))))) (dBVar 2))) (dC (.int 0)))))
  (dRet (rv (dTup (dCons (dVar 3) (dCons (dOp2 bMinD (dBVar 2) (fz (dOp fSub (fz (dOp fIx (dBVar 0) (dC (.int 1)))) (dC (.int 1))))) dNil)))))))
def q_span : FD := ⟨"span", 2, 6, b_span⟩
abbrev i_span : Nat := 422

def b_swapped (C : Calls) : DS :=
  (dSeqS
  (dSet 3 (dBlt bList (dCons (dBVar 0) dNil)))
  (dSeqS
  (dPut2 3 (dVar 1) (dVar 2) (fz (dOp fIx (dBVar 3) (dBVar 2))) (fz (dOp fIx (dBVar 3) (dBVar 1))))
  (dRet (dBlt bTuple (dCons (dBVar 3) dNil)))))
def q_swapped : FD := ⟨"swapped", 3, 4, b_swapped⟩
abbrev i_swapped : Nat := 423

def b_times_of (C : Calls) : DS :=
  (dSeqS
  (dDropX (dCall C 386 (only (dCons (dVar 0) (dCons (fz (dLst (dCons (dVar 1) dNil))) dNil)))))
  (dRet (dComp (dEnum (fz (dCall C 433 (dCons (dVar 0) (dCons (dVar 1) dNil))))) [2, 3] (.tp [(.nm 2), (.nm 3)]) (dB (fz (dOp fGt (dBVar 3) (dC (.int 0))))) (dVar 2))))
def q_times_of : FD := ⟨"times_of", 2, 4, b_times_of⟩
abbrev i_times_of : Nat := 424

def b_toward (C : Calls) : DS :=
  (dSeqS
  (dPar [5, 6] (rCons (dCall C 302 (dCons (dVar 0) dNil)) (rCons (rv (dTup (dCons (dC (.int 0)) (dCons (dC (.int 1)) dNil)))) rNil)))
  (dSeqS
  (dSet 3 (dCall C 295 (dCons (dVar 0) dNil)))
  (dSeqS
  (dFor (dRange1 (fz (dOp fIx (dBVar 0) (dC (.int 1))))) (.nm 4) (dIfS (dB (fz (dOp fEq (dDget (dBVar 5) (dBVar 4) (dVar 2)) (dBVar 2)))) (dSeqS
  (dSet 7 (dIfR (dB (fz (dOp fIn (dBVar 4) (dBVar 5)))) (dCall C 407 (dCons (dVar 0) (dCons (fz (dLst (dCons (dTup (dCons (dVar 4) (dCons (dVar 1) dNil))) dNil))) dNil))) (dCall C 402 (dCons (dVar 0) (dCons (dVar 4) (dCons (dVar 1) (dCons (dVar 2) dNil)))))))
  (dSet 6 (dCall C 280 (dCons (dVar 6) (dCons (dTup (dCons (dVar 7) (dCons (fz (dOp fMul (dBVar 3) (dIf (dB (fz (dOp fIn (dBVar 4) (dBVar 5)))) (dC (.int 1)) (fz (dOp fSub (fz (dOp fSub (fz (dOp fIx (dBVar 0) (dC (.int 0)))) (dC (.int 1)))) (dBVar 4)))))) dNil))) dNil))))) dSkip))
  (dRet (dMv 6)))))
def q_toward : FD := ⟨"toward", 3, 8, b_toward⟩
abbrev i_toward : Nat := 425

def b_towns_in (C : Calls) : DS :=
  (dRetX (dCall C 291 (only (dCons (fz (dCall C 427 (dCons (dVar 0) dNil))) (dCons (dVar 0) dNil)))))
def q_towns_in : FD := ⟨"towns_in", 1, 1, b_towns_in⟩
abbrev i_towns_in : Nat := 426

def b_tree_in (C : Calls) : DS :=
  (dRetX (dCall C 291 (only (dCons (fz (dCall C 431 (dCons (dVar 0) dNil))) (dCons (dVar 0) dNil)))))
def q_tree_in : FD := ⟨"tree_in", 1, 1, b_tree_in⟩
abbrev i_tree_in : Nat := 429

def b_tree_of (C : Calls) : DS :=
  (dSeqS
  (dSet 2 (dComp (dZip (dVar 0) (dVar 1)) [3, 4] (.tp [(.nm 3), (.nm 4)]) dYes (dTup (dCons (fz (dBlt bMin2 (dCons (dBVar 3) (dCons (dBVar 4) dNil)))) (dCons (fz (dBlt bMax2 (dCons (dBVar 3) (dCons (dBVar 4) dNil)))) dNil)))))
  (dRet (rv (dTup (dCons (fz (dOp fAdd (fz (dBlt bLen (dCons (dBVar 0) dNil))) (dC (.int 1)))) (dCons (fz (dBlt bTuple (dCons (fz (dBlt bSorted (dCons (dBVar 2) dNil))) dNil))) dNil))))))
def q_tree_of : FD := ⟨"tree_of", 2, 5, b_tree_of⟩
abbrev i_tree_of : Nat := 430

def b_ways_at (C : Calls) : DS :=
  (dRet (dComp (dRange1 (fz (dOp fIx (dBVar 0) (dC (.int 1))))) [2] (.nm 2) dYes (fz (dCall C 407 (dCons (dVar 0) (dCons (fz (dLst (dCons (dTup (dCons (dVar 2) (dCons (dVar 1) dNil))) dNil))) dNil))))))
def q_ways_at : FD := ⟨"ways_at", 2, 3, b_ways_at⟩
abbrev i_ways_at : Nat := 433

def b_window (C : Calls) : DS :=
  (dSeqS
  (dDropX (dCall C 391 (only (dCons (dVar 0) (dCons (dVar 1) dNil)))))
  (dRet (dCall C 422 (dCons (dVar 0) (dCons (dVar 1) dNil)))))
def q_window : FD := ⟨"window", 2, 2, b_window⟩
abbrev i_window : Nat := 434

def b_windows (C : Calls) : DS :=
  (dRet (dComp (dRange1 (fz (dOp fIx (dBVar 0) (dC (.int 0))))) [1] (.nm 1) dYes (fz (dCall C 422 (dCons (dVar 0) (dCons (dVar 1) dNil))))))
def q_windows : FD := ⟨"windows", 1, 2, b_windows⟩
abbrev i_windows : Nat := 435

def b_with_lost (C : Calls) : DS :=
  (dSeqS
  (dPar [4, 5] (rCons (dCall C 302 (dCons (dVar 0) dNil)) (rCons (rv (dVar 2)) rNil)))
  (dSeqS
  (dFor (dRange1 (dVar 1)) (.nm 3) (dIfS (dB (fz (dOp fNotIn (dBVar 3) (dBVar 4)))) (dSeqS
  (dPar [6, 7] (rCons (dOp fSub (fz (dOp fSub (fz (dOp fIx (dBVar 0) (dC (.int 0)))) (dC (.int 1)))) (dBVar 3)) (rCons dNewK rNil)))
  (dSeqS
  (dFrzL 5 (dFor (dItems (dVar 5)) (.tp [(.nm 8), (.nm 9)]) (dSeqS
  (dPutD 7 (fz (dOp fAdd (dBVar 8) (dC (.int 1)))) (fz (dCall C 280 (dCons (dDget (dBVar 7) (fz (dOp fAdd (dBVar 8) (dC (.int 1)))) (dTup (dCons (dC (.int 0)) (dCons (dC (.int 1)) dNil)))) (dCons (dTup (dCons (fz (dOp fIx (dBVar 9) (dC (.int 0)))) (dCons (fz (dOp fMul (fz (dOp fIx (dBVar 9) (dC (.int 1)))) (dBVar 6))) dNil))) dNil)))))
  (dPutD 7 (dVar 8) (fz (dCall C 280 (dCons (dDget (dBVar 7) (dBVar 8) (dTup (dCons (dC (.int 0)) (dCons (dC (.int 1)) dNil)))) (dCons (dTup (dCons (fz (dOp fMul (fz (dOp fIx (dBVar 9) (dC (.int 0)))) (fz (dOp fSub (dBVar 6) (dC (.int 1)))))) (dCons (fz (dOp fMul (fz (dOp fIx (dBVar 9) (dC (.int 1)))) (dBVar 6))) dNil))) dNil))))))))
  (dFrzL 7 (dSet 5 (rv (dVar 7)))))) dSkip))
  (dRet (dMv 5))))
def q_with_lost : FD := ⟨"with_lost", 3, 10, b_with_lost⟩
abbrev i_with_lost : Nat := 436

def b_with_note (C : Calls) : DS :=
  (dSeqS
  (dUnp (.tp [(.nm 3), (.nm 4), (.nm 5)]) (fz (dCall C 408 (dCons (dVar 0) dNil))))
  (dSeqS
  (dFor (dSeq (dVar 5)) (.nm 2) (dIfS (dB (fz (dOp fEq (fz (dSl (dBVar 2) oNone (oSome (dC (.int 2))))) (fz (dSl (fz (dBlt bTuple (dCons (dBVar 1) dNil))) oNone (oSome (dC (.int 2)))))))) (dRaise "Noted" "note" (dVar 2)) dSkip))
  (dRet (rv (dTup (dCons (dVar 3) (dCons (dVar 4) (dCons (fz (dBlt bTuple (dCons (fz (dBlt bSorted (dCons (fz (dOp fAdd (dBVar 5) (dTup (dCons (fz (dBlt bTuple (dCons (dBVar 1) dNil))) dNil)))) dNil))) dNil))) dNil))))))))
def q_with_note : FD := ⟨"with_note", 2, 6, b_with_note⟩
abbrev i_with_note : Nat := 437

def b_without_note (C : Calls) : DS :=
  (dSeqS
  (dUnp (.tp [(.nm 2), (.nm 3), (.nm 4)]) (fz (dCall C 408 (dCons (dVar 0) dNil))))
  (dSeqS
  (dIfS (dB (fz (dOp fNotIn (fz (dBlt bTuple (dCons (dBVar 1) dNil))) (dBVar 4)))) (dRaise "NoNote" "note" (fz (dBlt bTuple (dCons (dBVar 1) dNil)))) dSkip)
  (dRet (rv (dTup (dCons (dVar 2) (dCons (dVar 3) (dCons (fz (dBlt bTuple (dCons (fz (dComp (dSeq (dBVar 4)) [5] (.nm 5) (dB (fz (dOp fNe (dBVar 5) (fz (dBlt bTuple (dCons (dBVar 1) dNil)))))) (dVar 5))) dNil))) dNil))))))))
def q_without_note : FD := ⟨"without_note", 2, 6, b_without_note⟩
abbrev i_without_note : Nat := 438

end MP

namespace MP
open PySem PySem.Spec
/-! ### runs that end well -/
def okE {α : Type} (r : Res α) (Q : α → Sto → Prop) : Prop := ∃ a S, r = .ok a S ∧ Q a S
abbrev PN := Envm → Sto → Prop
abbrev PT := R → Sto → Prop
def okO (o : Out) (N : PN) (T : PT) (K C : PN) : Prop := match o with
  | .nx e S => N e S
  | .rt r S => T r S
  | .bk e S => K e S
  | .ct e S => C e S
  | _ => False
def okB (o : Option Envm) (P : Envm → Prop) : Prop := match o with
  | some e => P e
  | none => False
def no2 {α : Type} : α → Sto → Prop := fun _ _ => False
theorem eq_of_ok {α : Type} {r : Res α} {x : α} {S : Sto} (h : okE r fun a S' => a = x ∧ S' = S) : r = .ok x S := by
  obtain ⟨a, S1, h1, rfl, rfl⟩ := h
  exact h1
theorem ok_of_eq {α : Type} {r : Res α} {x : α} {S : Sto} {Q : α → Sto → Prop} (h : r = .ok x S) (q : Q x S) : okE r Q := ⟨x, S, h, q⟩
theorem okE.imp {α : Type} {r : Res α} {P Q : α → Sto → Prop} (h : okE r P) (i : ∀ a S, P a S → Q a S) : okE r Q := by
  obtain ⟨a, S, h1, h2⟩ := h
  exact ⟨a, S, h1, i a S h2⟩
theorem okE_ok {α : Type} (a : α) (S : Sto) (Q : α → Sto → Prop) : okE (.ok a S) Q = Q a S := propext ⟨fun ⟨_, _, h, q⟩ => by cases h; exact q, fun q => ⟨a, S, rfl, q⟩⟩
theorem okE_bad {α : Type} (Q : α → Sto → Prop) : okE .bad Q = False := propext ⟨fun ⟨_, _, h, _⟩ => (nomatch h), fun q => False.elim q⟩
theorem okE_bind {α β : Type} (r : Res α) (f : α → Sto → Res β) (Q : β → Sto → Prop) : okE (r.bind f) Q = okE r fun a S => okE (f a S) Q := by
  cases r with
  | ok a S => rw [okE_ok]; rfl
  | xn c x S => exact propext ⟨fun ⟨_, _, h, _⟩ => (nomatch h), fun ⟨_, _, h, _⟩ => (nomatch h)⟩
  | bad => rw [okE_bad]; exact okE_bad _
theorem okE_map {α β : Type} (r : Res α) (f : α → β) (Q : β → Sto → Prop) : okE (r.map f) Q = okE r fun a S => Q (f a) S := by
  cases r with
  | ok a S => rw [okE_ok]; exact okE_ok _ _ _
  | xn c x S => exact propext ⟨fun ⟨_, _, h, _⟩ => (nomatch h), fun ⟨_, _, h, _⟩ => (nomatch h)⟩
  | bad => rw [okE_bad]; exact okE_bad _
theorem okB_some (e : Envm) (P : Envm → Prop) : okB (some e) P = P e := rfl
theorem okB_none (P : Envm → Prop) : okB none P = False := rfl
section
variable (env e : Envm) (S : Sto) (i n : Nat) (N : PN) (T : PT) (K C : PN)
theorem okO_nx : okO (.nx e S) N T K C = N e S := rfl
theorem okO_rt (r : R) : okO (.rt r S) N T K C = T r S := rfl
theorem okO_bk : okO (.bk e S) N T K C = K e S := rfl
theorem okO_ct : okO (.ct e S) N T K C = C e S := rfl
theorem okO_bad : okO .bad N T K C = False := rfl
/-! ### expressions -/
theorem sz_nil {α : Type} : ([] : List α).length = 0 := rfl
theorem sz_cons {α : Type} (a : α) (l : List α) : (a :: l).length = l.length + 1 := rfl
theorem sz_map {α β : Type} (f : α → β) (l : List α) : (l.map f).length = l.length := List.length_map _
theorem at_zero {α : Type} (a : α) (l : List α) : (a :: l)[0]? = some a := rfl
theorem at_succ {α : Type} (a : α) (l : List α) (n : Nat) : (a :: l)[n + 1]? = l[n]? := rfl
theorem st_zero {α : Type} (a b : α) (l : List α) : (a :: l).set 0 b = b :: l := rfl
theorem st_succ {α : Type} (a b : α) (l : List α) (n : Nat) : (a :: l).set (n + 1) b = a :: l.set n b := rfl
def slV : Option Sl → Sto → Res D := fun o S => match o with
  | some (.va d) => .ok d S
  | _ => .bad
def slB : Option Sl → Sto → Res D := fun o S => match o with
  | some (.va d) => .ok d S
  | some (.ow x) => .ok x.toD S
  | _ => .bad
def slM : Option Sl → Sto → Res R := fun o S => match o with
  | some (.va d) => .ok (.v d) S
  | some (.ow x) => .ok (.o x) S
  | _ => .bad
theorem ev_dVar : dVar i env S = slV env[i]? S := by unfold dVar slV; split <;> simp_all
theorem ev_dBVar : dBVar i env S = slB env[i]? S := by unfold dBVar slB; split <;> simp_all
theorem ev_dMv : dMv i env S = slM env[i]? S := by unfold dMv slM; split <;> simp_all
theorem slV_va (d : D) : slV (some (.va d)) S = .ok d S := rfl
theorem slB_va (d : D) : slB (some (.va d)) S = .ok d S := rfl
theorem slB_l (x : List D) : slB (some (.ow (.l x))) S = .ok (.lst x) S := rfl
theorem slB_k (x : List L2.Key) (y : List D) : slB (some (.ow (.k x y))) S = .ok (.dk x y) S := rfl
theorem slB_t (x : List (List L2.Key)) (y : List D) : slB (some (.ow (.t x y))) S = .ok (.dt x y) S := rfl
theorem slM_va (d : D) : slM (some (.va d)) S = .ok (.v d) S := rfl
theorem slM_ow (x : O) : slM (some (.ow x)) S = .ok (.o x) S := rfl
theorem ev_dC (d : D) : dC d env S = .ok d S := rfl
theorem ev_fz (dr : DR) : fz dr env S = (dr env S).map R.val := rfl
theorem ev_rv (de : DE) : rv de env S = (de env S).map R.v := rfl
theorem val_v (d : D) : R.val (.v d) = d := rfl
theorem val_l (x : List D) : R.val (.o (.l x)) = .lst x := rfl
theorem val_k (x : List L2.Key) (y : List D) : R.val (.o (.k x y)) = .dk x y := rfl
theorem val_t (x : List (List L2.Key)) (y : List D) : R.val (.o (.t x y)) = .dt x y := rfl
theorem ev_toDl (x : List D) : O.toD (.l x) = .lst x := rfl
theorem ev_toDk (x : List L2.Key) (y : List D) : O.toD (.k x y) = .dk x y := rfl
theorem ev_toDt (x : List (List L2.Key)) (y : List D) : O.toD (.t x y) = .dt x y := rfl
theorem ev_dOp (f : D → D → Sto → Res R) (da db : DE) : dOp f da db env S = (da env S).bind fun x S1 => (db env S1).bind fun y S2 => f x y S2 := rfl
theorem ev_dOp2 (f : D → D → Sto → Res D) (da db : DE) : dOp2 f da db env S = (da env S).bind fun x S1 => (db env S1).bind fun y S2 => f x y S2 := rfl
theorem ev_dUn (f : D → Sto → Res R) (da : DE) : dUn f da env S = (da env S).bind f := rfl
theorem ev_dNil : dNil env S = .ok [] S := rfl
theorem ev_dCons (da : DE) (dr : DA) : dCons da dr env S = (da env S).bind fun x S1 => (dr env S1).map fun xs => x :: xs := rfl
theorem ev_dTup (da : DA) : dTup da env S = (da env S).bind fun xs S1 => if xs.length ≤ 100000 then .ok (.tup xs) S1 else .bad := rfl
theorem ev_dLst (da : DA) : dLst da env S = (da env S).bind fun xs S1 => if xs.length ≤ 100000 then .ok (.o (.l xs)) S1 else .bad := rfl
def asB : D → Sto → Res Bool := fun d S => match d with
  | .bl b => .ok b S
  | _ => .bad
theorem asB_bl (b : Bool) : asB (.bl b) S = .ok b S := rfl
theorem ev_dB (de : DE) : dB de env S = (de env S).bind asB := rfl
theorem ev_dAndT (a b : DT) : dAndT a b env S = (a env S).bind fun c S1 => if c = true then b env S1 else .ok false S1 := rfl
theorem ev_dOrT (a b : DT) : dOrT a b env S = (a env S).bind fun c S1 => if c = true then .ok true S1 else b env S1 := rfl
theorem ev_dNotT (a : DT) : dNotT a env S = (a env S).map (!·) := rfl
theorem ev_dAnd (a b : DE) : dAnd a b env S = ((a env S).bind asB).bind fun c S1 => if c = true then b env S1 else .ok (.bl false) S1 := by
  show (a env S).bind _ = _
  cases a env S with
  | ok d S1 => cases d <;> first | rfl | (rename_i x; cases x <;> rfl)
  | xn c x S1 => rfl
  | bad => rfl
theorem ev_dOr (a b : DE) : dOr a b env S = ((a env S).bind asB).bind fun c S1 => if c = true then .ok (.bl true) S1 else b env S1 := by
  show (a env S).bind _ = _
  cases a env S with
  | ok d S1 => cases d <;> first | rfl | (rename_i x; cases x <;> rfl)
  | xn c x S1 => rfl
  | bad => rfl
theorem ev_dNot (a : DE) : dNot a env S = ((a env S).bind asB).map fun c => .bl (!c) := by
  show (a env S).bind _ = _
  cases a env S with
  | ok d S1 => cases d <;> first | rfl | (rename_i x; cases x <;> rfl)
  | xn c x S1 => rfl
  | bad => rfl
theorem ev_dIf (c : DT) (a b : DE) : dIf c a b env S = (c env S).bind fun k S1 => if k = true then a env S1 else b env S1 := rfl
theorem ev_dIfR (c : DT) (a b : DR) : dIfR c a b env S = (c env S).bind fun k S1 => if k = true then a env S1 else b env S1 := rfl
theorem ev_dCall (G : Calls) (f : Nat) (da : DA) : dCall G f da env S = (da env S).bind fun xs S1 => G f xs S1 := rfl
theorem ev_dBlt (f : List D → Sto → Res R) (da : DA) : dBlt f da env S = (da env S).bind f := rfl
theorem ev_dYes : dYes env S = .ok true S := rfl
theorem ev_dNewK : dNewK env S = .ok (.o (.k [] [])) S := rfl
theorem ev_dNewT : dNewT env S = .ok (.o (.t [] [])) S := rfl
def asBR : R → Sto → Res Bool := fun r S => match r with
  | .v (.bl b) => .ok b S
  | _ => .bad
theorem asBR_bl (b : Bool) : asBR (.v (.bl b)) S = .ok b S := rfl
theorem ev_dChain (f f' : D → D → Sto → Res R) (da db dc : DE) : dChain f f' da db dc env S = (da env S).bind fun x S1 => (db env S1).bind fun y S2 => (f x y S2).bind fun r S3 => (asBR r S3).bind fun c S3 => if c = true then (dc env S3).bind fun z S4 => (f' y z S4).map R.val else .ok (.bl false) S3 := by
  unfold dChain
  congr 1
  funext x S1
  congr 1
  funext y S2
  congr 1
  funext r S3
  cases r with
  | o _ => rfl
  | v d => cases d <;> first | rfl | (rename_i b; cases b <;> rfl)
theorem ev_oNone : oNone env S = .ok none S := rfl
def asI : D → Sto → Res Int := fun d S => match d with
  | .int b => .ok b S
  | _ => .bad
theorem asI_int (b : Int) : asI (.int b) S = .ok b S := rfl
theorem ev_oSome (de : DE) : oSome de env S = ((de env S).bind asI).map some := by
  show (de env S).bind _ = _
  cases de env S with
  | ok d S1 => cases d <;> rfl
  | xn c x S1 => rfl
  | bad => rfl
def slR : D → Option Int → Option Int → Sto → Res R := fun d lo hi S => match fSl d lo hi with
  | some r => .ok r S
  | none => .bad
theorem slR_lst (xs : List D) (lo hi : Option Int) : slR (.lst xs) lo hi S = .ok (.o (.l (cutD xs lo hi))) S := rfl
theorem slR_tup (xs : List D) (lo hi : Option Int) : slR (.tup xs) lo hi S = .ok (.v (.tup (cutD xs lo hi))) S := rfl
theorem ev_dSl (de : DE) (dl dh : DO) : dSl de dl dh env S = (de env S).bind fun d S1 => (dl env S1).bind fun lo S2 => (dh env S2).bind fun hi S3 => slR d lo hi S3 := rfl
def itR : D → Sto → Res (List D) := fun d S => match itemsOf d with
  | some ds => .ok ds S
  | none => .bad
theorem itR_tup (x : List D) : itR (.tup x) S = .ok x S := rfl
theorem itR_lst (x : List D) : itR (.lst x) S = .ok x S := rfl
theorem ev_dSeq (de : DE) : dSeq de env S = (de env S).bind itR := rfl
theorem ev_dEnum (de : DE) : dEnum de env S = ((de env S).bind itR).map (enumD 0) := by
  show (de env S).bind _ = _
  cases de env S with
  | ok d S1 => cases d <;> rfl
  | xn c x S1 => rfl
  | bad => rfl
def zpR : D → D → Sto → Res (List D) := fun x y S => match x, y with
  | .lst as, .lst bs => .ok (zipD as bs) S
  | .tup as, .tup bs => .ok (zipD as bs) S
  | _, _ => .bad
theorem zpR_lst (a b : List D) : zpR (.lst a) (.lst b) S = .ok (zipD a b) S := rfl
theorem zpR_tup (a b : List D) : zpR (.tup a) (.tup b) S = .ok (zipD a b) S := rfl
theorem ev_dZip (da db : DE) : dZip da db env S = (da env S).bind fun x S1 => (db env S1).bind fun y S2 => zpR x y S2 := rfl
def rg1 : D → Sto → Res (List D) := fun x S => match x with
  | .int j => if j ≤ 100000 ∧ -100000 ≤ j then .ok (rangeD 0 j) S else .bad
  | _ => .bad
def rg2 : D → D → Sto → Res (List D) := fun x y S => match x, y with
  | .int i, .int j => if (i ≤ 100000 ∧ -100000 ≤ i) ∧ (j ≤ 100000 ∧ -100000 ≤ j) then .ok (rangeD i j) S else .bad
  | _, _ => .bad
theorem rg1_i {j : Int} (h : j ≤ 100000 ∧ -100000 ≤ j) : rg1 (.int j) S = .ok (rangeD 0 j) S := by show (if _ then _ else _) = _; rw [if_pos h]
theorem ev_dRange1 (da : DE) : dRange1 da env S = (da env S).bind rg1 := rfl
theorem ev_dRange2 (da db : DE) : dRange2 da db env S = (da env S).bind fun x S1 => (db env S1).bind fun y S2 => rg2 x y S2 := rfl
theorem ev_dMkL (di : DA) : dMkL di env S = (di env S).map fun ds => .o (.l ds) := by
  show (di env S).bind _ = _
  cases di env S <;> rfl
theorem ev_dMkT (di : DA) : dMkT di env S = (di env S).map fun ds => .tup ds := by
  show (di env S).bind _ = _
  cases di env S <;> rfl
/-! ### operators -/
theorem ev_add (i j : Int) : fAdd (.int i) (.int j) S = .ok (.v (.int (i + j))) S := rfl
theorem ev_iadd (i j : Int) : pureO (gI fun i j => i + j) (.int i) (.int j) S = .ok (.v (.int (i + j))) S := rfl
theorem ev_sub (i j : Int) : fSub (.int i) (.int j) S = .ok (.v (.int (i - j))) S := rfl
theorem ev_lt (i j : Int) : fLt (.int i) (.int j) S = .ok (.v (.bl (decide (i < j)))) S := rfl
theorem ev_le (i j : Int) : fLe (.int i) (.int j) S = .ok (.v (.bl (decide (i ≤ j)))) S := rfl
theorem ev_gt (i j : Int) : fGt (.int i) (.int j) S = .ok (.v (.bl (decide (j < i)))) S := rfl
theorem ev_ge (i j : Int) : fGe (.int i) (.int j) S = .ok (.v (.bl (decide (j ≤ i)))) S := rfl
theorem ev_neg (i : Int) : fNeg (.int i) S = .ok (.v (.int (-i))) S := rfl
theorem ev_eqI (i j : Int) : fEq (.int i) (.int j) S = .ok (.v (.bl (decide (i = j)))) S := by
  have : deq (.int i) (.int j) = decide (i = j) := by
    show (i == j) = _
    by_cases c : i = j <;> simp [c]
  unfold fEq
  rw [if_pos ⟨rfl, rfl⟩, this]
theorem ev_neI (i j : Int) : fNe (.int i) (.int j) S = .ok (.v (.bl (!decide (i = j)))) S := by
  have : deq (.int i) (.int j) = decide (i = j) := by
    show (i == j) = _
    by_cases c : i = j <;> simp [c]
  unfold fNe
  rw [if_pos ⟨rfl, rfl⟩, this]
theorem ev_eq {x y : D} (hx : fitN 20 x = true) (hy : fitN 20 y = true) : fEq x y S = .ok (.v (.bl (deq x y))) S := by unfold fEq; rw [if_pos ⟨hx, hy⟩]
theorem ev_ne {x y : D} (hx : fitN 20 x = true) (hy : fitN 20 y = true) : fNe x y S = .ok (.v (.bl (!deq x y))) S := by unfold fNe; rw [if_pos ⟨hx, hy⟩]
theorem ev_isN (d : D) : fIsN d .non S = .ok (.v (.bl (isNon d))) S := rfl
theorem ev_notN (d : D) : fNotN d .non S = .ok (.v (.bl (!isNon d))) S := rfl
theorem isNon_non : isNon .non = true := rfl
theorem isNon_int (x : Int) : isNon (.int x) = false := rfl
theorem isNon_tup (x : List D) : isNon (.tup x) = false := rfl
theorem isNon_str (x : Str) : isNon (.str x) = false := rfl
def ixR : Option D → Sto → Res R := fun o S => match o with
  | some z => .ok (.v z) S
  | none => .bad
theorem ixR_some (z : D) : ixR (some z) S = .ok (.v z) S := rfl
theorem ev_ixT (xs : List D) (i : Int) : fIx (.tup xs) (.int i) S = ixR (ixD xs i) S := rfl
theorem ev_ixL (xs : List D) (i : Int) : fIx (.lst xs) (.int i) S = ixR (ixD xs i) S := rfl
theorem ixD_0 (x : D) (xs : List D) : ixD (x :: xs) 0 = some x := rfl
theorem ixD_1 (x y : D) (xs : List D) : ixD (x :: y :: xs) 1 = some y := rfl
theorem ixD_2 (x y z : D) (xs : List D) : ixD (x :: y :: z :: xs) 2 = some z := rfl
theorem ev_lenT (xs : List D) : bLen [.tup xs] S = .ok (.v (.int xs.length)) S := rfl
theorem ev_lenL (xs : List D) : bLen [.lst xs] S = .ok (.v (.int xs.length)) S := rfl
theorem ev_lenS (xs : List Int) : bLen [.scr xs] S = .ok (.v (.int xs.length)) S := rfl
theorem ev_lenK (ks : List L2.Key) (ds : List D) : bLen [.dk ks ds] S = .ok (.v (.int ks.length)) S := rfl
theorem ev_listT (xs : List D) : bList [.tup xs] S = .ok (.o (.l xs)) S := rfl
theorem ev_listL (xs : List D) : bList [.lst xs] S = .ok (.o (.l xs)) S := rfl
theorem ev_tupleT (xs : List D) : bTuple [.tup xs] S = .ok (.v (.tup xs)) S := rfl
theorem ev_tupleL (xs : List D) : bTuple [.lst xs] S = .ok (.v (.tup xs)) S := rfl
theorem ev_abs (i : Int) : bAbs [.int i] S = .ok (.v (.int (if i < 0 then -i else i))) S := rfl
theorem ev_intI (i : Int) : bInt [.int i] S = .ok (.v (.int i)) S := rfl
theorem ev_intB (i : Bool) : bInt [.bl i] S = .ok (.v (.int (if i then 1 else 0))) S := rfl
theorem ev_max2 (i j : Int) : bMax2 [.int i, .int j] S = .ok (.v (.int (if j > i then j else i))) S := rfl
theorem ev_min2 (i j : Int) : bMin2 [.int i, .int j] S = .ok (.v (.int (if j < i then j else i))) S := rfl
/-! ### statements -/
theorem ok_dSeqS (a b : DS) : okO (dSeqS a b env S) N T K C = okO (a env S) (fun e S1 => okO (b e S1) N T K C) T K C := by
  unfold dSeqS
  cases a env S <;> rfl
theorem slOf_v (d : D) : slOf (.v d) = .va d := rfl
theorem slOf_o (x : O) : slOf (.o x) = .ow x := rfl
theorem ok_dSet (dr : DR) : okO (dSet i dr env S) N T K C = okE (dr env S) fun r S1 => N (env.set i (slOf r)) S1 := by
  unfold dSet
  cases dr env S <;> first | (rw [okE_ok]; rfl) | (rw [okE_bad]; rfl) | exact propext ⟨fun h => False.elim h, fun ⟨_, _, h, _⟩ => (nomatch h)⟩
theorem ok_dSkip : okO (dSkip env S) N T K C = N env S := rfl
theorem ok_dBreak : okO (dBreak env S) N T K C = K env S := rfl
theorem ok_dCont : okO (dCont env S) N T K C = C env S := rfl
theorem ok_dRetN : okO (dRetN env S) N T K C = T (.v .non) S := rfl
theorem ok_dNever : okO (dNever env S) N T K C = False := rfl
theorem ok_dRet (dr : DR) : okO (dRet dr env S) N T K C = okE (dr env S) T := by
  unfold dRet
  cases dr env S <;> first | (rw [okE_ok]; rfl) | (rw [okE_bad]; rfl) | exact propext ⟨fun h => False.elim h, fun ⟨_, _, h, _⟩ => (nomatch h)⟩
theorem ok_dDrop (de : DE) : okO (dDrop de env S) N T K C = okE (de env S) fun _ S1 => N env S1 := by
  unfold dDrop
  cases de env S <;> first | (rw [okE_ok]; rfl) | (rw [okE_bad]; rfl) | exact propext ⟨fun h => False.elim h, fun ⟨_, _, h, _⟩ => (nomatch h)⟩
theorem ok_dIfS (c : DT) (a b : DS) : okO (dIfS c a b env S) N T K C = okE (c env S) fun t S1 => if t = true then okO (a env S1) N T K C else okO (b env S1) N T K C := by
  unfold dIfS
  cases h : c env S with
  | ok t S1 => rw [okE_ok]; cases t <;> rfl
  | bad => rw [okE_bad]; rfl
  | xn c x S => exact propext ⟨fun h => False.elim h, fun ⟨_, _, h, _⟩ => (nomatch h)⟩
theorem ok_dFrz (d : DS) : okO (dFrz i d env S) N T K C = okO (d (frzE i env) S) N T K C := rfl
def frz1 : Option Sl → Nat → Envm → Envm := fun o i env => match o with
  | some (.ow x) => env.set i (.va x.toD)
  | _ => env
theorem ev_frzE : frzE i env = frz1 env[i]? i env := rfl
theorem frz1_o (x : O) : frz1 (some (.ow x)) i env = env.set i (.va x.toD) := rfl
theorem frz1_v (x : D) : frz1 (some (.va x)) i env = env := rfl
theorem frz1_n : frz1 (some .no) i env = env := rfl
theorem ok_dUnp (t : Tg) (de : DE) : okO (dUnp t de env S) N T K C = okE (de env S) fun d S1 => okB (bindTg t d env) fun e => N e S1 := by
  unfold dUnp
  cases de env S with
  | ok d S1 => rw [okE_ok]; cases h : bindTg t d env <;> simp only [h] <;> rfl
  | bad => rw [okE_bad]; rfl
  | xn c x S => exact propext ⟨fun h => False.elim h, fun ⟨_, _, h, _⟩ => (nomatch h)⟩
theorem bd_nm (d : D) : bindTg (.nm i) d env = some (env.set i (.va d)) := by unfold bindTg; rfl
theorem bd_tup (ts : List Tg) (ds : List D) : bindTg (.tp ts) (.tup ds) env = bindTgs ts ds env := by unfold bindTg; rfl
theorem bd_lst (ts : List Tg) (ds : List D) : bindTg (.tp ts) (.lst ds) env = bindTgs ts ds env := by unfold bindTg; rfl
theorem bds_nil : bindTgs [] [] env = some env := by unfold bindTgs; rfl
def bdC (ts : List Tg) (ds : List D) : Option Envm → Option Envm := fun o => match o with
  | some e => bindTgs ts ds e
  | none => none
theorem bdC_some (ts : List Tg) (ds : List D) : bdC ts ds (some e) = bindTgs ts ds e := rfl
theorem bds_cons (t : Tg) (ts : List Tg) (d : D) (ds : List D) : bindTgs (t :: ts) (d :: ds) env = bdC ts ds (bindTg t d env) := by
  conv => lhs; unfold bindTgs
  cases bindTg t d env <;> rfl
theorem ok_dFor (di : DA) (t : Tg) (b : DS) : okO (dFor di t b env S) N T K C = okE (di env S) fun ds S1 => okO (forL t b ds env S1) N T K C := by
  unfold dFor
  cases di env S <;> first | (rw [okE_ok]) | (rw [okE_bad]; rfl) | exact propext ⟨fun h => False.elim h, fun ⟨_, _, h, _⟩ => (nomatch h)⟩
theorem ev_rNil : rNil env S = .ok [] S := rfl
theorem ev_rCons (dr : DR) (d : DRs) : rCons dr d env S = (dr env S).bind fun r S1 => (d env S1).map fun rs => r :: rs := rfl
theorem ss_nil : setSls [] [] env = some env := rfl
theorem ss_cons (is : List Nat) (r : R) (rs : List R) : setSls (i :: is) (r :: rs) env = setSls is rs (env.set i (slOf r)) := rfl
theorem ok_dPar (is : List Nat) (d : DRs) : okO (dPar is d env S) N T K C = okE (d env S) fun rs S1 => okB (setSls is rs env) fun e => N e S1 := by
  unfold dPar
  cases d env S with
  | ok d S1 => rw [okE_ok]; cases h : setSls is d env <;> simp only [h] <;> rfl
  | bad => rw [okE_bad]; rfl
  | xn c x S => exact propext ⟨fun h => False.elim h, fun ⟨_, _, h, _⟩ => (nomatch h)⟩
theorem ok_dAug (f : D → D → Sto → Res R) (de : DE) : okO (dAug i f de env S) N T K C = okE (slV env[i]? S) fun x _ => okE (de env S) fun y S1 => okE (f x y S1) fun r S2 => N (env.set i (slOf r)) S2 := by
  unfold dAug
  cases env[i]? with
  | none => exact (okE_bad _).symm
  | some s =>
    cases s with
    | no => exact (okE_bad _).symm
    | ow x => exact (okE_bad _).symm
    | va x =>
      rw [slV_va, okE_ok, ← okE_bind]
      show okO (match (de env S).bind fun y S1 => f x y S1 with
        | .ok r S2 => .nx (env.set i (slOf r)) S2
        | .xn _ _ _ => .bad
        | .bad => .bad) N T K C = _
      cases (de env S).bind fun y S1 => f x y S1 with
      | ok d S1 => rw [okE_ok]; rfl
      | bad => rw [okE_bad]; rfl
      | xn c x S => exact propext ⟨fun h => False.elim h, fun ⟨_, _, h, _⟩ => (nomatch h)⟩
/-- a change of a slot's own list -/
def mutE : Option Sl → (List D → Option (List D)) → (List D → Prop) → Prop := fun o f P => match o with
  | some (.ow (.l ds)) => (match f ds with | some ds' => P ds' | none => False)
  | _ => False
theorem ok_mut1 {f : List D → D → Option (List D)} {de : DE} {ds : List D} (h : env[i]? = some (.ow (.l ds))) : okO (dMut1 i f de env S) N T K C = okE (de env S) fun d S1 => mutE env[i]? (f · d) fun ds' => N (env.set i (.ow (.l ds'))) S1 := by
  have hl : listSlot i env S = true := by unfold listSlot; rw [h]
  unfold dMut1
  rw [if_pos hl]
  cases de env S with
  | ok d S1 =>
    rw [okE_ok]
    show okO (mutL i (f · d) env S1) N T K C = _
    unfold mutL
    rw [h]
    show okO (match f ds d with
      | some ds' => .nx (env.set i (.ow (.l ds'))) S1
      | none => .bad) N T K C = _
    cases hf : f ds d <;> simp only [mutE, hf] <;> rfl
  | bad => rw [okE_bad]; rfl
  | xn c x S => exact propext ⟨fun h => False.elim h, fun ⟨_, _, h, _⟩ => (nomatch h)⟩
/-- as a rule for evaluation -/
def isOwnL : Option Sl → Prop := fun o => ∃ ds, o = some (.ow (.l ds))
theorem isOwnL_l (ds : List D) : isOwnL (some (.ow (.l ds))) = True := propext ⟨fun _ => trivial, fun _ => ⟨ds, rfl⟩⟩
theorem ok_dMut1 (f : List D → D → Option (List D)) (de : DE) (h : isOwnL env[i]?) : okO (dMut1 i f de env S) N T K C = okE (de env S) fun d S1 => mutE env[i]? (f · d) fun ds' => N (env.set i (.ow (.l ds'))) S1 := by
  obtain ⟨ds, h⟩ := h
  exact ok_mut1 env S i N T K C h
def okL (o : Option (List D)) (P : List D → Prop) : Prop := match o with
  | some x => P x
  | none => False
theorem mutE_l (ds : List D) (f : List D → Option (List D)) (P : List D → Prop) : mutE (some (.ow (.l ds))) f P = okL (f ds) P := rfl
theorem okL_some (x : List D) (P : List D → Prop) : okL (some x) P = P x := rfl
theorem app_ok {ds : List D} {d : D} (h : ds.length ≤ 100000) : fApp ds d = some (ds ++ [d]) := by unfold fApp; rw [if_pos h]
end
/-! ### statements that may raise, where they do not -/
section
variable {α : Type} (env : Envm) (S : Sto) (i : Nat) (N : PN) (T : PT) (K C : PN)
theorem ev_only (f : Envm → Sto → Res α) : only f env S = onlyR (f env S) := rfl
theorem onlyR_o (a : α) : onlyR (.ok a S) = .ok a S := rfl
theorem okE_only (r : Res α) (Q : α → Sto → Prop) : okE (onlyR r) Q = okE r Q := by
  cases r with
  | ok a S => rfl
  | xn c x S => exact propext ⟨fun ⟨_, _, h, _⟩ => (nomatch h), fun ⟨_, _, h, _⟩ => (nomatch h)⟩
  | bad => rfl
theorem ok_dDropX (dr : DR) : okO (dDropX dr env S) N T K C = okE (dr env S) fun _ S1 => N env S1 := by
  unfold dDropX
  cases dr env S <;> first | (rw [okE_ok]; rfl) | (rw [okE_bad]; rfl) | exact propext ⟨fun h => False.elim h, fun ⟨_, _, h, _⟩ => (nomatch h)⟩
theorem ok_dSetX (dr : DR) : okO (dSetX i dr env S) N T K C = okE (dr env S) fun r S1 => N (env.set i (slOf r)) S1 := by
  unfold dSetX
  cases dr env S <;> first | (rw [okE_ok]; rfl) | (rw [okE_bad]; rfl) | exact propext ⟨fun h => False.elim h, fun ⟨_, _, h, _⟩ => (nomatch h)⟩
theorem ok_dRetX (dr : DR) : okO (dRetX dr env S) N T K C = okE (dr env S) T := by
  unfold dRetX
  cases dr env S <;> first | (rw [okE_ok]; rfl) | (rw [okE_bad]; rfl) | exact propext ⟨fun h => False.elim h, fun ⟨_, _, h, _⟩ => (nomatch h)⟩
end
end MP

namespace MP
open PySem PySem.Spec
section
variable (p : Prop) (b : Bool)
theorem sv_at : (p ∧ True) = p := and_true p
theorem sv_ta : (True ∧ p) = p := true_and p
theorem sv_it : (p → True) = True := propext ⟨fun _ => trivial, fun _ _ => trivial⟩
theorem sv_ti : (True → p) = p := propext ⟨fun h => h trivial, fun h _ => h⟩
theorem sv_dt [Decidable p] : (decide p = true) = p := decide_eq_true_eq
theorem sv_df [Decidable p] : (decide p = false) = ¬ p := propext decide_eq_false_iff_not
theorem sv_ft : (false = true) = False := by simp
theorem sv_nt : ((!b) = true) = (b = false) := by cases b <;> simp
theorem sv_nn : ((!b) = false) = (b = true) := by cases b <;> simp
theorem sv_tt : (!true) = false := rfl
theorem sv_fn : (!false) = true := rfl
end
theorem ok_seqG {a b : DS} {env : Envm} {S : Sto} {N : PN} {T : PT} {K C : PN} (h : ∀ N' : PN, (∀ e S1, okO (b e S1) N T K C → N' e S1) → okO (a env S) N' T K C) : okO (dSeqS a b env S) N T K C := by
  rw [ok_dSeqS]
  exact h _ fun _ _ h => h
theorem start_c (k : Nat) (d : D) (ds : List D) : startE (k + 1) (d :: ds) = .va d :: startE k ds := by
  unfold startE
  rw [List.map_cons, List.cons_append, List.length_cons, Nat.add_sub_add_right]
theorem start_n (k : Nat) : startE (k + 1) [] = .no :: startE k [] := rfl
theorem start_0 : startE 0 [] = [] := rfl
theorem ok_call {B : Tb} {n f m k : Nat} {x : Str} {bd : Calls → DS} {ds : List D} {S : Sto} {Q : R → Sto → Prop} (h : B f = some ⟨x, m, k, bd⟩) (hl : ds.length = m) (q : okO (bd (callN B n) (startE k ds) S) (fun _ S1 => Q (.v .non) S1) Q no2 no2) : okE (callN B (n + 1) f ds S) Q := by
  rw [callN_eq h]
  unfold callF
  rw [if_pos hl]
  show okE (finO (bd (callN B n) (startE k ds) S)) Q
  cases ho : bd (callN B n) (startE k ds) S <;> rw [ho] at q <;> first | exact ⟨_, _, rfl, q⟩ | exact False.elim q
/-! ### slots set -/
def setL : Envm → List Nat → List Sl → Envm
  | e, i :: is, v :: vs => setL (e.set i v) is vs
  | e, _, _ => e
theorem setL_c (e : Envm) (i : Nat) (is : List Nat) (v : Sl) (vs : List Sl) : setL e (i :: is) (v :: vs) = setL (e.set i v) is vs := rfl
theorem setL_n (e : Envm) (vs : List Sl) : setL e [] vs = e := by cases vs <;> rfl
/-! ### loops -/
theorem ok_for_cons {t : Tg} {b : DS} {d : D} {ds : List D} {env : Envm} {S : Sto} {N : PN} {T : PT} {K C : PN} : okO (forL t b (d :: ds) env S) N T K C = okB (bindTg t d env) fun e => okO (b e S) (fun e2 S2 => okO (forL t b ds e2 S2) N T K C) T N (fun e2 S2 => okO (forL t b ds e2 S2) N T K C) := by
  conv => lhs; unfold forL
  cases bindTg t d env with
  | none => rfl
  | some e =>
    show okO (match b e S with
      | .nx e2 S2 => forL t b ds e2 S2
      | .ct e2 S2 => forL t b ds e2 S2
      | .bk e2 S2 => .nx e2 S2
      | .rt r S2 => .rt r S2
      | .xn c x S2 => .xn c x S2
      | .bad => .bad) N T K C = _
    rw [okB_some]
    cases b e S <;> rfl
theorem okO.imp {o : Out} {N N' : PN} {T T' : PT} {K K' C C' : PN} (h : okO o N T K C) (hN : ∀ e S, N e S → N' e S) (hT : ∀ r S, T r S → T' r S) (hK : ∀ e S, K e S → K' e S) (hC : ∀ e S, C e S → C' e S) : okO o N' T' K' C' := by
  cases o <;> first | exact hN _ _ h | exact hT _ _ h | exact hK _ _ h | exact hC _ _ h | exact False.elim h
theorem okB.imp {o : Option Envm} {P P' : Envm → Prop} (h : okB o P) (i : ∀ e, P e → P' e) : okB o P' := by
  cases o <;> first | exact i _ h | exact False.elim h
/-- a loop by an invariant over the slots that it sets -/
theorem ok_for {α : Type} {t : Tg} {b : DS} {env : Envm} {N : PN} {T : PT} {K C : PN} (is : List Nat) (f : α → D) (I : Nat → List Sl → Sto → Prop) : ∀ (xs : List α) (i : Nat) (vs : List Sl) (S : Sto), I i vs S →
    (∀ j x vs S, xs[j]? = some x → I (i + j) vs S → okB (bindTg t (f x) (setL env is vs)) fun e => okO (b e S) (fun e2 S2 => ∃ vs', e2 = setL env is vs' ∧ I (i + j + 1) vs' S2) T N (fun e2 S2 => ∃ vs', e2 = setL env is vs' ∧ I (i + j + 1) vs' S2)) →
    (∀ vs S, I (i + xs.length) vs S → N (setL env is vs) S) → okO (forL t b (xs.map f) (setL env is vs) S) N T K C
  | [], i, vs, S, h, _, e => e vs S h
  | x :: xs, i, vs, S, h, st, e => by
    rw [List.map_cons, ok_for_cons]
    have z := st 0 x vs S rfl h
    have go : ∀ (vs' : List Sl) (S2 : Sto), I (i + 1) vs' S2 → okO (forL t b (xs.map f) (setL env is vs') S2) N T K C := fun vs' S2 h2 => by
      refine ok_for is f I xs (i + 1) vs' S2 h2 (fun j y ws S3 hj hI => ?_) fun ws S3 hI => e ws S3 (by
        rw [List.length_cons, show i + (xs.length + 1) = i + 1 + xs.length by omega]
        exact hI)
      have e1 : i + 1 + j = i + (j + 1) := by omega
      rw [e1] at hI ⊢
      exact st (j + 1) y ws S3 (by simpa using hj) hI
    refine z.imp fun e1 z1 => z1.imp (fun e2 S2 ⟨vs', h1, h2⟩ => h1 ▸ go vs' S2 h2) (fun _ _ h => h) (fun _ _ h => h) fun e2 S2 ⟨vs', h1, h2⟩ => h1 ▸ go vs' S2 h2
/-- .. from the slots as they are -/
theorem ok_for0 {α : Type} {t : Tg} {b : DS} {env : Envm} {S : Sto} {N : PN} {T : PT} {K C : PN} (is : List Nat) (xs : List α) (f : α → D) (I : Nat → List Sl → Sto → Prop) (vs : List Sl) (h0 : setL env is vs = env) (hI : I 0 vs S)
    (st : ∀ (N' K' : PN) (T' : PT), (∀ e S, N e S → K' e S) → (∀ r S, T r S → T' r S) → ∀ j x vs S, xs[j]? = some x → I j vs S → (∀ vs' S2, I (j + 1) vs' S2 → N' (setL env is vs') S2) → okB (bindTg t (f x) (setL env is vs)) fun e => okO (b e S) N' T' K' N')
    (e : ∀ vs S, I xs.length vs S → N (setL env is vs) S) : okO (forL t b (xs.map f) env S) N T K C := by
  rw [← h0]
  refine ok_for is f I xs 0 vs S hI (fun j x ws S1 hj hI => ?_) fun ws S1 hI => e ws S1 (by rw [Nat.zero_add] at hI; exact hI)
  rw [Nat.zero_add] at hI ⊢
  exact st _ _ _ (fun _ _ h => h) (fun _ _ h => h) j x ws S1 hj hI fun vs' S2 h => ⟨vs', rfl, h⟩
/-- a while loop by a measure -/
theorem ok_while {c : DT} {b : DS} {env : Envm} {N : PN} {T : PT} {K C : PN} (is : List Nat) (I : Nat → List Sl → Sto → Prop)
    (st : ∀ m vs S, I m vs S → okE (c (setL env is vs) S) fun t S1 => if t = true then okO (b (setL env is vs) S1) (fun e2 S2 => ∃ k vs', k < m ∧ e2 = setL env is vs' ∧ I k vs' S2) T N (fun e2 S2 => ∃ k vs', k < m ∧ e2 = setL env is vs' ∧ I k vs' S2) else N (setL env is vs) S1) :
    ∀ (w m : Nat) (vs : List Sl) (S : Sto), m < w → I m vs S → okO (whileL c b w (setL env is vs) S) N T K C
  | 0, m, vs, S, h, _ => by omega
  | w + 1, m, vs, S, h, hI => by
    obtain ⟨t, S1, h1, h2⟩ := st m vs S hI
    have go : ∀ k vs' S2, k < m → I k vs' S2 → okO (whileL c b w (setL env is vs') S2) N T K C := fun k vs' S2 hk hI' => ok_while is I st w k vs' S2 (by omega) hI'
    unfold whileL
    rw [h1]
    cases t with
    | false => exact h2
    | true =>
      have h2 : okO (b (setL env is vs) S1) (fun e2 S2 => ∃ k vs', k < m ∧ e2 = setL env is vs' ∧ I k vs' S2) T N (fun e2 S2 => ∃ k vs', k < m ∧ e2 = setL env is vs' ∧ I k vs' S2) := h2
      show okO (match b (setL env is vs) S1 with
        | .nx e2 S2 => whileL c b w e2 S2
        | .ct e2 S2 => whileL c b w e2 S2
        | .bk e2 S2 => .nx e2 S2
        | .rt r S2 => .rt r S2
        | .xn c x S2 => .xn c x S2
        | .bad => .bad) N T K C
      revert h2
      cases b (setL env is vs) S1 with
      | nx e2 S2 => exact fun ⟨k, vs', h3, h4, h5⟩ => h4 ▸ go k vs' S2 h3 h5
      | ct e2 S2 => exact fun ⟨k, vs', h3, h4, h5⟩ => h4 ▸ go k vs' S2 h3 h5
      | bk e2 S2 => exact fun h => h
      | rt e2 S2 => exact fun h => h
      | xn c x S2 => exact fun h => False.elim h
      | bad => exact fun h => False.elim h
theorem ok_while0 {c : DT} {b : DS} {env : Envm} {S : Sto} {N : PN} {T : PT} {K C : PN} (is : List Nat) (I : Nat → List Sl → Sto → Prop) (m : Nat) (vs : List Sl) (hm : m < 100000) (h0 : setL env is vs = env) (hI : I m vs S)
    (st : ∀ (N' K' : PN) (T' : PT), (∀ e S, N e S → K' e S) → (∀ r S, T r S → T' r S) → ∀ m vs S, I m vs S → (∀ k vs' S2, k < m → I k vs' S2 → N' (setL env is vs') S2) → okE (c (setL env is vs) S) fun t S1 => if t = true then okO (b (setL env is vs) S1) N' T' K' N' else K' (setL env is vs) S1) : okO (dWhile c b env S) N T K C := by
  unfold dWhile
  rw [← h0]
  exact ok_while is I (fun m vs S hI => st _ _ _ (fun _ _ h => h) (fun _ _ h => h) m vs S hI fun k vs' S2 hk h => ⟨k, vs', hk, rfl, h⟩) fuelW m vs S (by unfold fuelW; omega) hI
/-! ### comprehensions -/
theorem ok_compL {α : Type} {R : α → D → Prop} {tg : Tg} {dc : DT} {de : DE} {env : Envm} {S : Sto} (p : α → Bool) (g : α → D) : ∀ {xs : List α} {ds : List D}, (xs.length = ds.length ∧ ∀ (i : Nat) (x : α) (d : D), xs[i]? = some x → ds[i]? = some d → R x d) →
    (∀ x d, x ∈ xs → R x d → okB (bindTg tg d env) fun e => okE (dc e S) fun t S1 => t = p x ∧ S1 = S ∧ (p x = true → okE (de e S) fun v S2 => v = g x ∧ S2 = S)) → compL tg dc de env ds S = .ok ((xs.filter p).map g) S
  | [], [], _, _ => rfl
  | x :: xs, [], h, _ => by simp at h
  | [], d :: ds, h, _ => by simp at h
  | x :: xs, d :: ds, h, st => by
    have ih := ok_compL p g (xs := xs) (ds := ds) ⟨by simpa using h.1, fun i y e h1 h2 => h.2 (i + 1) y e (by simpa using h1) (by simpa using h2)⟩ fun y e hy => st y e (List.mem_cons_of_mem _ hy)
    have z := st x d List.mem_cons_self (h.2 0 x d rfl rfl)
    unfold compL
    cases hb : bindTg tg d env with
    | none => rw [hb] at z; exact False.elim z
    | some e =>
      rw [hb] at z
      obtain ⟨t, S1, h1, rfl, rfl, h4⟩ := z
      show (dc e S1).bind _ = _
      rw [h1]
      show (if p x = true then _ else _) = _
      by_cases c : p x = true
      · obtain ⟨v, S2, h5, rfl, rfl⟩ := h4 c
        rw [if_pos c, h5]
        show (compL tg dc de env ds S2).map _ = _
        rw [ih, List.filter_cons_of_pos c]
        rfl
      · rw [if_neg c, List.filter_cons_of_neg c]
        exact ih
theorem ok_comp {α : Type} {di : DA} {own : List Nat} {tg : Tg} {dc : DT} {de : DE} {env : Envm} {S : Sto} {Q : R → Sto → Prop} (xs : List α) (f : α → D) (p : α → Bool) (g : α → D) (hi : okE (di env S) fun ds S1 => ds = xs.map f ∧ S1 = S) (hl : xs.length ≤ 100000)
    (h : ∀ x ∈ xs, okB (bindTg tg (f x) (wipeE env own)) fun e => okE (dc e S) fun t S1 => t = p x ∧ S1 = S ∧ (p x = true → okE (de e S) fun v S2 => v = g x ∧ S2 = S)) (q : Q (.o (.l ((xs.filter p).map g))) S) : okE (dComp di own tg dc de env S) Q := by
  obtain ⟨ds, S1, h1, rfl, rfl⟩ := hi
  refine ok_of_eq ?_ q
  unfold dComp
  rw [h1]
  show (if (xs.map f).length ≤ 100000 then _ else _) = _
  rw [if_pos (by rw [List.length_map]; exact hl), ok_compL (R := fun x d => d = f x) p g (xs := xs) ⟨by simp, fun i x d h1 h2 => by rw [List.getElem?_map, h1] at h2; exact (Option.some.inj h2).symm⟩ fun x d hx e => e ▸ h x hx]
  rfl
/-- without a test -/
theorem ok_compA {α : Type} {di : DA} {own : List Nat} {tg : Tg} {de : DE} {env : Envm} {S : Sto} {Q : R → Sto → Prop} (xs : List α) (f : α → D) (g : α → D) (hi : okE (di env S) fun ds S1 => ds = xs.map f ∧ S1 = S) (hl : xs.length ≤ 100000)
    (h : ∀ x ∈ xs, okB (bindTg tg (f x) (wipeE env own)) fun e => okE (de e S) fun v S2 => v = g x ∧ S2 = S) (q : Q (.o (.l (xs.map g))) S) : okE (dComp di own tg dYes de env S) Q := by
  refine ok_comp xs f (fun _ => true) g hi hl (fun x hx => (h x hx).imp fun e z => ?_) (by rw [List.filter_eq_self.mpr (fun _ _ => rfl)]; exact q)
  rw [ev_dYes, okE_ok]
  exact ⟨rfl, rfl, fun _ => z⟩
/-- elements that change the store -/
theorem ok_compLI {α : Type} {tg : Tg} {de : DE} {env : Envm} (f : α → D) (I : Nat → List D → Sto → Prop) : ∀ (xs : List α) (i : Nat) (ys : List D) (S : Sto) (Q : List D → Sto → Prop), I i ys S → (∀ j x ys S, xs[j]? = some x → I (i + j) ys S → okB (bindTg tg (f x) env) fun e => okE (de e S) fun y S1 => I (i + j + 1) (ys ++ [y]) S1) → (∀ zs S, I (i + xs.length) (ys ++ zs) S → Q zs S) →
    okE (compL tg dYes de env (xs.map f) S) Q
  | [], i, ys, S, Q, h, _, q => by
    rw [List.map_nil]
    unfold compL
    rw [okE_ok]
    exact q [] S (by rw [List.append_nil]; exact h)
  | x :: xs, i, ys, S, Q, h, st, q => by
    have z := st 0 x ys S rfl h
    rw [List.map_cons]
    unfold compL
    cases hb : bindTg tg (f x) env with
    | none => rw [hb] at z; exact False.elim z
    | some e =>
      rw [hb] at z
      obtain ⟨y, S1, h1, h2⟩ := z
      show okE ((dYes e S).bind _) Q
      rw [okE_bind, ev_dYes, okE_ok]
      show okE (if true = true then _ else _) Q
      rw [if_pos rfl, okE_bind, h1, okE_ok, okE_map]
      refine ok_compLI f I xs (i + 1) (ys ++ [y]) S1 _ h2 (fun j w ws S2 hj hI => ?_) fun zs S2 hI => q (y :: zs) S2 ?_
      · have e1 : i + 1 + j = i + (j + 1) := by omega
        rw [e1] at hI ⊢
        exact st (j + 1) w ws S2 (by simpa using hj) hI
      · rw [List.length_cons]
        have e1 : i + (xs.length + 1) = i + 1 + xs.length := by omega
        rw [e1]
        simpa using hI
theorem ok_compI {α : Type} {di : DA} {own : List Nat} {tg : Tg} {de : DE} {env : Envm} {S : Sto} {Q : R → Sto → Prop} (xs : List α) (f : α → D) (I : Nat → List D → Sto → Prop) (hi : okE (di env S) fun ds S1 => ds = xs.map f ∧ S1 = S) (hl : xs.length ≤ 100000) (h0 : I 0 [] S)
    (h : ∀ j x ys S, xs[j]? = some x → I j ys S → okB (bindTg tg (f x) (wipeE env own)) fun e => okE (de e S) fun y S1 => I (j + 1) (ys ++ [y]) S1) (q : ∀ ys S, I xs.length ys S → Q (.o (.l ys)) S) : okE (dComp di own tg dYes de env S) Q := by
  obtain ⟨ds, S1, h1, rfl, rfl⟩ := hi
  unfold dComp
  rw [h1]
  show okE (if (xs.map f).length ≤ 100000 then _ else _) Q
  rw [if_pos (by rw [List.length_map]; exact hl), okE_map]
  exact ok_compLI f I xs 0 [] S1 _ h0 (fun j x ys S hj hI => by rw [Nat.zero_add] at hI ⊢; exact h j x ys S hj hI) fun zs S hI => q zs S (by rw [Nat.zero_add] at hI; exact hI)
theorem wipe_c (e : Envm) (v : Nat) (vs : List Nat) : wipeE e (v :: vs) = (wipeE e vs).set v .no := rfl
theorem wipe_n (e : Envm) : wipeE e [] = e := rfl
end MP

namespace MP
open PySem PySem.Spec
theorem sv_c0 : ((0 : Nat) : Int) = 0 := rfl
theorem sv_c1 : ((1 : Nat) : Int) = 1 := rfl
theorem sv_c2 : ((2 : Nat) : Int) = 2 := rfl
theorem sv_c3 : ((3 : Nat) : Int) = 3 := rfl
theorem sv_c4 : ((4 : Nat) : Int) = 4 := rfl
theorem sv_c5 : ((5 : Nat) : Int) = 5 := rfl
theorem sv_c6 : ((6 : Nat) : Int) = 6 := rfl
theorem sv_dT {_ : Decidable True} : decide True = true := decide_eq_true trivial
theorem sv_dF {_ : Decidable False} : decide False = false := decide_eq_false id
theorem sv_nT : (¬ True) = False := by simp
theorem sv_nF : (¬ False) = True := by simp
theorem sv_ifT {α : Type} {_ : Decidable True} (a b : α) : (if True then a else b) = a := if_pos trivial
theorem sv_ifF {α : Type} {_ : Decidable False} (a b : α) : (if False then a else b) = b := if_neg id
theorem sv_iP {_ : Decidable True} (a b : Prop) : (if True then a else b) = a := if_pos trivial
theorem sv_iQ {_ : Decidable False} (a b : Prop) : (if False then a else b) = b := if_neg id
/-! ### locked dicts -/
section
variable (env : Envm) (S : Sto) (i : Nat)
def lkR (i : Nat) (dr : DR) (env : Envm) (S : Sto) : Option Sl → Res R := fun o => match o with
  | some (.ow (.k ks ds)) => dr (env.set i (.ow (.fk ks ds))) S
  | some (.ow (.t ks ds)) => dr (env.set i (.ow (.ft ks ds))) S
  | _ => .bad
theorem ev_dLk (dr : DR) : dLk i dr env S = lkR i dr env S env[i]? := by
  unfold dLk lockE lkR
  cases env[i]? with
  | none => rfl
  | some s =>
    cases s with
    | no => rfl
    | va d => rfl
    | ow x => cases x <;> rfl
theorem lkR_k (dr : DR) (ks : List L2.Key) (ds : List D) : lkR i dr env S (some (.ow (.k ks ds))) = dr (env.set i (.ow (.fk ks ds))) S := rfl
theorem lkR_t (dr : DR) (ks : List (List L2.Key)) (ds : List D) : lkR i dr env S (some (.ow (.t ks ds))) = dr (env.set i (.ow (.ft ks ds))) S := rfl
def kyR : D → Sto → Res (List D) := fun d S1 => match d with
  | .fk ks _ => .ok (ks.map keyD) S1
  | .ft ks _ => .ok (ks.map fun k => .tup (k.map keyD)) S1
  | _ => .bad
theorem ev_dKeys (de : DE) : dKeys de env S = (de env S).bind kyR := rfl
theorem kyR_k (ks : List L2.Key) (ds : List D) : kyR (.fk ks ds) S = .ok (ks.map keyD) S := rfl
theorem kyR_t (ks : List (List L2.Key)) (ds : List D) : kyR (.ft ks ds) S = .ok (ks.map fun k => .tup (k.map keyD)) S := rfl
theorem slB_fk (x : List L2.Key) (y : List D) : slB (some (.ow (.fk x y))) S = .ok (.fk x y) S := rfl
theorem slB_ft (x : List (List L2.Key)) (y : List D) : slB (some (.ow (.ft x y))) S = .ok (.ft x y) S := rfl
end
end MP

namespace MP
open PySem PySem.Spec
/-! ### the law's box: three ints at a place of the store -/
structure Bx (S : Sto) (b : Nat) (k : Nat) : Prop where
  ex : ∃ x y z : Int, S[b]? = some (.l [.int x, .int y, .int z]) ∧ 0 ≤ x ∧ 0 ≤ z ∧ z + k ≤ 1000000000000000
theorem Bx.mono {S : Sto} {b k j : Nat} (h : Bx S b k) (e : j ≤ k) : Bx S b j := by
  obtain ⟨x, y, z, h1, h2, h3, h4⟩ := h.ex
  exact ⟨x, y, z, h1, h2, h3, by omega⟩
theorem mulOk_small {i j : Int} (h : j.natAbs < 18446744073709551616) : mulOk i j = true := by
  unfold mulOk
  simp [h]
theorem mulOk_small1 {i j : Int} (h : i.natAbs < 18446744073709551616) : mulOk i j = true := by
  unfold mulOk
  simp [h]
theorem big_gt : (18446744073709551616 : Nat) < big := by unfold big; decide +kernel
theorem fIx_tup (xs : List D) (i : Int) (S : Sto) : fIx (.tup xs) (.int i) S = (match ixD xs i with | some z => .ok (.v z) S | none => .bad) := rfl
theorem fIx_lst (xs : List D) (i : Int) (S : Sto) : fIx (.lst xs) (.int i) S = (match ixD xs i with | some z => .ok (.v z) S | none => .bad) := rfl
theorem fIx_loc (n : Nat) (i : Int) (S : Sto) : fIx (.loc n) (.int i) S = (match S[n]? with | some (.l xs) => (match ixD xs i with | some z => .ok (.v z) S | none => .bad) | _ => .bad) := rfl
theorem fIx_scr (ns : List Int) (i : Int) (S : Sto) : fIx (.scr ns) (.int i) S = (match (if 0 ≤ i then ns[i.toNat]? else none) with | some z => .ok (.v (.int z)) S | none => .bad) := rfl
theorem deq_ii (i j : Int) : deq (.int i) (.int j) = decide (i = j) := by
  unfold deq
  by_cases c : i = j <;> simp [c]
theorem fGt_i (i j : Int) (S : Sto) : fGt (.int i) (.int j) S = .ok (.v (.bl (decide (j < i)))) S := rfl
theorem fLt_i (i j : Int) (S : Sto) : fLt (.int i) (.int j) S = .ok (.v (.bl (decide (i < j)))) S := rfl
theorem fGe_i (i j : Int) (S : Sto) : fGe (.int i) (.int j) S = .ok (.v (.bl (decide (j ≤ i)))) S := rfl
theorem fLe_i (i j : Int) (S : Sto) : fLe (.int i) (.int j) S = .ok (.v (.bl (decide (i ≤ j)))) S := rfl
theorem fSub_i (i j : Int) (S : Sto) : fSub (.int i) (.int j) S = .ok (.v (.int (i - j))) S := rfl
theorem fIAdd_i (i j : Int) (S : Sto) : pureO (gI fun i j => i + j) (.int i) (.int j) S = .ok (.v (.int (i + j))) S := rfl
def takeV (y z m : Int) : Int := (((((y + 48271 * z) * (39373 + z) % 2147483647 + z + y / 1000003) * ((y + 48271 * z) * (39373 + z) % 2147483647 % 40009 + 7) % 2147483629) * 48271 + (y + 48271 * z) * (39373 + z) % 2147483647) % 2147483587 / 64) % m
/-- _law_take, below at most ten million -/
theorem sp_take {B : Tb} {n b k : Nat} {S : Sto} {m : Int} (hB : B i__law_take = some q__law_take) (hb : Bx S b (k + 1)) (hm : 0 < m) (hm2 : m ≤ 10000000) :
    ∃ (r : Int) (S' : Sto), callN B (n + 1) i__law_take [.loc b, .int m] S = .ok (.v (.int r)) S' ∧ 0 ≤ r ∧ r < m ∧ Bx S' b k := by
  obtain ⟨x, y, z, h1, h2, h3, h4⟩ := hb.ex
  have hbl : b < S.length := (List.getElem?_eq_some_iff.mp h1).1
  have hmb : m.natAbs < big := Nat.lt_trans (by omega) big_gt
  rw [callN_eq hB]
  by_cases c : 0 < x
  · refine ⟨x % m, S.set b (.l [.int (x / m), .int y, .int z]), ?_, Int.emod_nonneg _ (by omega), Int.emod_lt_of_pos _ hm, ⟨x / m, y, z, ?_, Int.ediv_nonneg h2 (by omega), h3, by omega⟩⟩
    · simp [q__law_take, b__law_take, callF, startE, finO, dSeqS, dSet, slOf, dRet, dRetN, dIfS, dSkip, dVar, dBVar, dMv, dC, fz, rv, dOp, dUn, dNil, dCons, dTup, dLst, dB, dAndT, dOrT, dNotT, dAnd, dOr, dNot, dIf, dIfR, dCall, dBlt, dOp2, dSeq, itemsOf, dFrz, frzE, dPar, rCons, rNil, setSls, dAug, dUnp, bindTg, bindTgs, wipeE, dYes, dChain, Res.bind, Res.map, R.val, O.toD, fIx_tup, fIx_lst, fIx_loc, fIx_scr, ixD, fGt_i, fLt_i, fLe_i, fGe_i, fSub_i, fIAdd_i, fMod, fDiv, fAdd, fPow, fEq, fNe, fIsN, fNotN, isNon, bLen, bList, bTuple, bAbs, bInt, bMax2, bMin2, dPutL, listSlot, isL, mutL, fPut, dIxL, dMut1, fApp, List.getElem?_cons_zero, List.getElem?_cons_succ, List.set_cons_zero, List.set_cons_succ, List.map_cons, List.map_nil, List.cons_append, List.nil_append, List.length_cons, List.length_nil, List.replicate, if_true, if_false, ite_true, ite_false, Bool.false_eq_true, reduceIte, decide_true, decide_false, Option.map_some, Option.bind_some, h1, c, hm, hmb]
    · rw [List.getElem?_set_self hbl]
  · have c0 : x = 0 := by omega
    subst c0
    refine ⟨takeV y (z + 1) m, S.set b (.l [.int 0, .int y, .int (z + 1)]), ?_, Int.emod_nonneg _ (by omega), Int.emod_lt_of_pos _ hm, ⟨0, y, z + 1, ?_, by omega, by omega, by omega⟩⟩
    · have m1 : ∀ i, mulOk i (39373 + (z + 1)) = true := fun i => mulOk_small (by omega)
      have m2 : ∀ i j : Int, mulOk i (j % 40009 + 7) = true := fun i j => mulOk_small (by have := Int.emod_nonneg j (show (40009 : Int) ≠ 0 by decide); have := Int.emod_lt_of_pos j (show (0 : Int) < 40009 by decide); omega)
      have m3 : ∀ i : Int, mulOk i 48271 = true := fun i => mulOk_small (by decide)
      have m4 : ∀ i : Int, mulOk 48271 i = true := fun i => mulOk_small1 (by decide)
      have b1 : (1000003 : Nat) < big := Nat.lt_trans (by decide) big_gt
      have b2 : (64 : Nat) < big := Nat.lt_trans (by decide) big_gt
      have hm3 : ¬ 10000000 < m := by omega
      simp [q__law_take, b__law_take, callF, startE, finO, dSeqS, dSet, slOf, dRet, dRetN, dIfS, dSkip, dVar, dBVar, dMv, dC, fz, rv, dOp, dUn, dNil, dCons, dTup, dLst, dB, dAndT, dOrT, dNotT, dAnd, dOr, dNot, dIf, dIfR, dCall, dBlt, dOp2, dSeq, itemsOf, dFrz, frzE, dPar, rCons, rNil, setSls, dAug, dUnp, bindTg, bindTgs, wipeE, dYes, dChain, Res.bind, Res.map, R.val, O.toD, fIx_tup, fIx_lst, fIx_loc, fIx_scr, ixD, fGt_i, fLt_i, fLe_i, fGe_i, fSub_i, fIAdd_i, fMod, fDiv, fAdd, fPow, fEq, fNe, fIsN, fNotN, isNon, bLen, bList, bTuple, bAbs, bInt, bMax2, bMin2, dPutL, listSlot, isL, mutL, fPut, dIxL, dMut1, fApp, List.getElem?_cons_zero, List.getElem?_cons_succ, List.set_cons_zero, List.set_cons_succ, List.map_cons, List.map_nil, List.cons_append, List.nil_append, List.length_cons, List.length_nil, List.replicate, if_true, if_false, ite_true, ite_false, Bool.false_eq_true, reduceIte, decide_true, decide_false, Option.map_some, Option.bind_some, fMul, h1, hm, hmb, hm3, m1, m2, m3, m4, b1, b2, List.getElem?_set_self hbl, takeV]
    · rw [List.getElem?_set_self hbl]

/-! ### one statement behind another -/
section
variable {a b : DS} {env e : Envm} {S S1 : Sto} {X : Res R} {Y : Out} {r : R} {dr : DR}
end
/-! ### comprehensions and loops -/
theorem compL_pure {α : Type} {tg : Tg} {dc : DT} {de : DE} {env : Envm} {S : Sto} (f : α → D) (p : α → Bool) (g : α → D) : ∀ xs : List α, (∀ x ∈ xs, ∃ e, bindTg tg (f x) env = some e ∧ dc e S = .ok (p x) S ∧ (p x = true → de e S = .ok (g x) S)) →
    compL tg dc de env (xs.map f) S = .ok ((xs.filter p).map g) S
  | [], _ => rfl
  | x :: xs, h => by
    obtain ⟨e, h1, h2, h3⟩ := h x List.mem_cons_self
    have ih := compL_pure f p g xs fun y hy => h y (List.mem_cons_of_mem _ hy)
    rw [List.map_cons]
    unfold compL
    rw [h1]
    show (dc e S).bind _ = _
    rw [h2]
    show (if p x = true then _ else _) = _
    by_cases c : p x = true
    · rw [if_pos c, h3 c]
      show (compL tg dc de env (xs.map f) S).map _ = _
      rw [ih, List.filter_cons_of_pos c]
      rfl
    · rw [if_neg c, List.filter_cons_of_neg c]
      exact ih
theorem comp_pure {α : Type} {di : DA} {own : List Nat} {tg : Tg} {dc : DT} {de : DE} {env : Envm} {S S1 : Sto} (xs : List α) (f : α → D) (p : α → Bool) (g : α → D) (hi : di env S = .ok (xs.map f) S1) (hl : xs.length ≤ 100000)
    (h : ∀ x ∈ xs, ∃ e, bindTg tg (f x) (wipeE env own) = some e ∧ dc e S1 = .ok (p x) S1 ∧ (p x = true → de e S1 = .ok (g x) S1)) : dComp di own tg dc de env S = .ok (.o (.l ((xs.filter p).map g))) S1 := by
  unfold dComp
  rw [hi]
  show (if (xs.map f).length ≤ 100000 then _ else _) = _
  rw [if_pos (by rw [List.length_map]; exact hl), compL_pure f p g xs h]
  rfl
inductive All2 {α β : Type} (P : α → β → Prop) : List α → List β → Prop
  | nil : All2 P [] []
  | cons {a : α} {b : β} {as : List α} {bs : List β} : P a b → All2 P as bs → All2 P (a :: as) (b :: bs)
theorem All2.length {α β : Type} {P : α → β → Prop} : ∀ {as : List α} {bs : List β}, All2 P as bs → as.length = bs.length
  | _, _, .nil => rfl
  | _, _, .cons _ t => by simp [t.length]
theorem All2.imp {α β : Type} {P Q : α → β → Prop} (h : ∀ a b, P a b → Q a b) : ∀ {as : List α} {bs : List β}, All2 P as bs → All2 Q as bs
  | _, _, .nil => .nil
  | _, _, .cons p t => .cons (h _ _ p) (t.imp h)
theorem for_inv {α : Type} {t : Tg} {b : DS} (f : α → D) (I : Nat → Envm → Sto → Prop) : ∀ (xs : List α) (i : Nat) (env : Envm) (S : Sto), I i env S → (∀ j x env S, xs[j]? = some x → I (i + j) env S → ∃ e1 e2 S2, bindTg t (f x) env = some e1 ∧ b e1 S = .nx e2 S2 ∧ I (i + j + 1) e2 S2) →
    ∃ e S', forL t b (xs.map f) env S = .nx e S' ∧ I (i + xs.length) e S'
  | [], i, env, S, h, _ => ⟨env, S, rfl, h⟩
  | x :: xs, i, env, S, h, st => by
    obtain ⟨e1, e2, S2, h1, h2, h3⟩ := st 0 x env S rfl h
    obtain ⟨e, S', g1, g2⟩ := for_inv f I xs (i + 1) e2 S2 h3 fun j y env S hj hI => by
      have e : i + 1 + j = i + (j + 1) := by omega
      rw [e] at hI ⊢
      exact st (j + 1) y env S (by simpa using hj) hI
    refine ⟨e, S', ?_, ?_⟩
    · rw [List.map_cons]
      unfold forL
      rw [h1]
      show (match b e1 S with
        | .nx e2 S2 => forL t b (xs.map f) e2 S2
        | .ct e2 S2 => forL t b (xs.map f) e2 S2
        | .bk e2 S2 => .nx e2 S2
        | .rt r S2 => .rt r S2
        | .xn c x S2 => .xn c x S2
        | .bad => .bad) = _
      rw [h2]
      exact g1
    · have e : i + (xs.length + 1) = i + 1 + xs.length := by omega
      rw [List.length_cons, e]
      exact g2
theorem rangeD_nat (n : Nat) : rangeD 0 (n : Int) = (List.range n).map fun i : Nat => D.int i := by
  unfold rangeD
  have : ((n : Int) - 0).toNat = n := by omega
  rw [this]
  apply List.map_congr_left
  intro i _
  simp
/-! ### lists of ints are data -/
theorem fit_ints : ∀ (n : Nat) (xs : List Int), (xs.map D.int).all (fitN n) = true := fun n xs => by
  rw [List.all_eq_true]
  intro d hd
  obtain ⟨i, _, rfl⟩ := List.mem_map.mp hd
  cases n <;> rfl
theorem deqs_ints : ∀ xs ys : List Int, deqs (xs.map D.int) (ys.map D.int) = decide (xs = ys)
  | [], [] => by simp [deqs]
  | [], _ :: _ => by simp [deqs]
  | _ :: _, [] => by simp [deqs]
  | x :: xs, y :: ys => by
    simp only [List.map_cons, deqs, deq, deqs_ints xs ys]
    by_cases c : x = y <;> simp [c]
/-! ### _law_of, _law_strewn -/
inductive SeqD : D → List D → Prop
  | tup (xs : List D) : SeqD (.tup xs) xs
  | lst (xs : List D) : SeqD (.lst xs) xs
theorem strewn_loop {C : Calls} {b : Nat} {some0 : D} (hC : ∀ (S : Sto) (k : Nat) (m : Int), Bx S b (k + 1) → 0 < m → m ≤ 10000000 → ∃ (r : Int) (S' : Sto), C i__law_take [.loc b, .int m] S = .ok (.v (.int r)) S' ∧ 0 ≤ r ∧ r < m ∧ Bx S' b k) :
    ∀ (n : Nat) (left found : List D) (S : Sto) (k w : Nat), left.length = n → n < w → Bx S b (k + n) → n + found.length ≤ 90000 → left.all (fitN 19) = true →
      ∃ (ys : List D) (S' : Sto), whileL (dB (fz (dOp fNe (dBVar 2) (fz (dLst dNil))))) (dAppPop 3 2 (fz (dCall C 238 (dCons (dVar 0) (dCons (fz (dBlt bLen (dCons (dBVar 2) dNil))) dNil))))) w [.va (.loc b), .va some0, .ow (.l left), .ow (.l found)] S =
        .nx [.va (.loc b), .va some0, .ow (.l []), .ow (.l ys)] S' ∧ ys.Perm (found ++ left) ∧ Bx S' b k := by
  intro n
  induction n with
  | zero =>
    intro left found S k w hl hw hb _ hf
    have e : left = [] := List.eq_nil_of_length_eq_zero hl
    subst e
    obtain ⟨w, rfl⟩ : ∃ v, w = v + 1 := ⟨w - 1, by omega⟩
    refine ⟨found, S, ?_, by simp, hb⟩
    simp [whileL, callF, startE, finO, dSeqS, dSet, slOf, dRet, dRetN, dIfS, dSkip, dVar, dBVar, dMv, dC, fz, rv, dOp, dUn, dNil, dCons, dTup, dLst, dB, dAndT, dOrT, dNotT, dAnd, dOr, dNot, dIf, dIfR, dCall, dBlt, dOp2, dSeq, itemsOf, dFrz, frzE, dPar, rCons, rNil, setSls, dAug, dUnp, bindTg, bindTgs, wipeE, dYes, dChain, Res.bind, Res.map, R.val, O.toD, fIx_tup, fIx_lst, fIx_loc, fIx_scr, ixD, fGt_i, fLt_i, fLe_i, fGe_i, fSub_i, fIAdd_i, fMod, fDiv, fAdd, fPow, fEq, fNe, fIsN, fNotN, isNon, bLen, bList, bTuple, bAbs, bInt, bMax2, bMin2, dPutL, listSlot, isL, mutL, fPut, dIxL, dMut1, fApp, List.getElem?_cons_zero, List.getElem?_cons_succ, List.set_cons_zero, List.set_cons_succ, List.map_cons, List.map_nil, List.cons_append, List.nil_append, List.length_cons, List.length_nil, List.replicate, if_true, if_false, ite_true, ite_false, Bool.false_eq_true, reduceIte, decide_true, decide_false, Option.map_some, Option.bind_some, fitN, deq, deqs]
  | succ n ih =>
    intro left found S k w hl hw hb hz hf
    obtain ⟨w, rfl⟩ : ∃ v, w = v + 1 := ⟨w - 1, by omega⟩
    obtain ⟨r, S1, e1, e2, e3, e4⟩ := hC S (k + n) left.length (by rw [Nat.add_assoc]; exact hb) (by omega) (by omega)
    have e1 : C 238 [.loc b, .int left.length] S = .ok (.v (.int r)) S1 := e1
    have hr : r.toNat < left.length := by omega
    have e5 : left[r.toNat]? = some left[r.toNat] := List.getElem?_eq_getElem hr
    obtain ⟨ys, S', g1, g2, g3⟩ := ih (left.eraseIdx r.toNat) (found ++ [left[r.toNat]]) S1 k w (by rw [List.length_eraseIdx_of_lt hr]; omega) (by omega) e4 (by simp; omega) (by
      rw [List.all_eq_true] at hf ⊢
      exact fun x hx => hf x (List.mem_of_mem_eraseIdx hx))
    refine ⟨ys, S', ?_, g2.trans ?_, g3⟩
    · have hne : deq (.lst left) (.lst []) = false := by
        cases left with
        | nil => simp at hl
        | cons a l => simp [deq, deqs]
      have hfit : fitN 20 (.lst left) = true := hf
      have hfit0 : fitN 20 (.lst []) = true := rfl
      have hr2 : r ≤ 100000 := by omega
      have hfl : found.length ≤ 100000 := by omega
      unfold whileL
      simp [callF, startE, finO, dSeqS, dSet, slOf, dRet, dRetN, dIfS, dSkip, dVar, dBVar, dMv, dC, fz, rv, dOp, dUn, dNil, dCons, dTup, dLst, dB, dAndT, dOrT, dNotT, dAnd, dOr, dNot, dIf, dIfR, dCall, dBlt, dOp2, dSeq, itemsOf, dFrz, frzE, dPar, rCons, rNil, setSls, dAug, dUnp, bindTg, bindTgs, wipeE, dYes, dChain, Res.bind, Res.map, R.val, O.toD, fIx_tup, fIx_lst, fIx_loc, fIx_scr, ixD, fGt_i, fLt_i, fLe_i, fGe_i, fSub_i, fIAdd_i, fMod, fDiv, fAdd, fPow, fEq, fNe, fIsN, fNotN, isNon, bLen, bList, bTuple, bAbs, bInt, bMax2, bMin2, dPutL, listSlot, isL, mutL, fPut, dIxL, dMut1, fApp, List.getElem?_cons_zero, List.getElem?_cons_succ, List.set_cons_zero, List.set_cons_succ, List.map_cons, List.map_nil, List.cons_append, List.nil_append, List.length_cons, List.length_nil, List.replicate, if_true, if_false, ite_true, ite_false, Bool.false_eq_true, reduceIte, decide_true, decide_false, Option.map_some, Option.bind_some, hne, hfit, hfit0, dAppPop, e1, e2, e5, hr2, hfl, g1]
    · rw [List.append_assoc]
      refine List.Perm.append_left _ ?_
      exact (L2.erase_perm left r.toNat _ e5)
theorem sp_strewn {B : Tb} {n b k : Nat} {S : Sto} {d : D} {xs : List D} (hT : B i__law_take = some q__law_take) (hO : B i__law_strewn = some q__law_strewn) (hb : Bx S b (k + xs.length)) (hd : SeqD d xs) (h1 : xs.length ≤ 90000) (hf : xs.all (fitN 19) = true) :
    ∃ (ys : List D) (S' : Sto), callN B (n + 2) i__law_strewn [.loc b, d] S = .ok (.o (.l ys)) S' ∧ ys.Perm xs ∧ Bx S' b k := by
  obtain ⟨ys, S', e1, e2, e3⟩ := strewn_loop (C := callN B (n + 1)) (some0 := d) (b := b) (fun S k m h1 h2 h3 => sp_take hT h1 h2 h3) xs.length xs [] S k fuelW rfl (by unfold fuelW; omega) hb (by simpa using h1) hf
  refine ⟨ys, S', ?_, by simpa using e2, e3⟩
  rw [callN_eq hO]
  cases hd <;> simp [q__law_strewn, b__law_strewn, callF, startE, finO, dSeqS, dSet, slOf, dRet, dRetN, dIfS, dSkip, dVar, dBVar, dMv, dC, fz, rv, dOp, dUn, dNil, dCons, dTup, dLst, dB, dAndT, dOrT, dNotT, dAnd, dOr, dNot, dIf, dIfR, dCall, dBlt, dOp2, dSeq, itemsOf, dFrz, frzE, dPar, rCons, rNil, setSls, dAug, dUnp, bindTg, bindTgs, wipeE, dYes, dChain, Res.bind, Res.map, R.val, O.toD, fIx_tup, fIx_lst, fIx_loc, fIx_scr, ixD, fGt_i, fLt_i, fLe_i, fGe_i, fSub_i, fIAdd_i, fMod, fDiv, fAdd, fPow, fEq, fNe, fIsN, fNotN, isNon, bLen, bList, bTuple, bAbs, bInt, bMax2, bMin2, dPutL, listSlot, isL, mutL, fPut, dIxL, dMut1, fApp, List.getElem?_cons_zero, List.getElem?_cons_succ, List.set_cons_zero, List.set_cons_succ, List.map_cons, List.map_nil, List.cons_append, List.nil_append, List.length_cons, List.length_nil, List.replicate, if_true, if_false, ite_true, ite_false, Bool.false_eq_true, reduceIte, decide_true, decide_false, Option.map_some, Option.bind_some, dWhile, e1]
end MP

namespace MP
open PySem PySem.Spec
/-! ### links and mates -/
abbrev Lk := Int × Int
def lkD (l : Lk) : D := .tup [.int l.1, .int l.2]
def touch (p : Int) (l : Lk) : Bool := l.1 == p || l.2 == p
def other (p : Int) (l : Lk) : Int := if l.1 = p then l.2 else l.1
def mates (L : List Lk) (p : Int) : List Int := (L.filter (touch p)).map (other p)
theorem sp_mates {B : Tb} {n : Nat} {S : Sto} {d : D} {L : List Lk} {p : Int} (hM : B i__law_mates = some q__law_mates) (hd : SeqD d (L.map lkD)) (hl : L.length ≤ 100000) :
    callN B (n + 1) i__law_mates [d, .int p] S = .ok (.o (.l ((mates L p).map D.int))) S := by
  have key : ∀ S, dComp (dSeq (dBVar 0)) [2, 3] (.tp [(.nm 2), (.nm 3)]) (dB (fz (dOp fIn (dBVar 1) (dTup (dCons (dVar 2) (dCons (dVar 3) dNil)))))) (dIf (dB (fz (dOp fEq (dBVar 2) (dBVar 1)))) (dVar 3) (dVar 2)) [.va d, .va (.int p), .no, .no] S
      = .ok (.o (.l ((L.filter (touch p)).map fun l => .int (other p l)))) S := fun S => by
    refine comp_pure L lkD (touch p) (fun l => .int (other p l)) ?_ hl fun l hl => ⟨[.va d, .va (.int p), .va (.int l.1), .va (.int l.2)], ?_, ?_, ?_⟩
    · cases hd <;> simp [callF, startE, finO, dSeqS, dSet, slOf, dRet, dRetN, dIfS, dSkip, dVar, dBVar, dMv, dC, fz, rv, dOp, dUn, dNil, dCons, dTup, dLst, dB, dAndT, dOrT, dNotT, dAnd, dOr, dNot, dIf, dIfR, dCall, dBlt, dOp2, dSeq, itemsOf, dFrz, frzE, dPar, rCons, rNil, setSls, dAug, dUnp, bindTg, bindTgs, wipeE, dYes, dChain, Res.bind, Res.map, R.val, O.toD, fIx_tup, fIx_lst, fIx_loc, fIx_scr, ixD, fGt_i, fLt_i, fLe_i, fGe_i, fSub_i, fIAdd_i, fMod, fDiv, fAdd, fPow, fEq, fNe, fIsN, fNotN, isNon, bLen, bList, bTuple, bAbs, bInt, bMax2, bMin2, dPutL, listSlot, isL, mutL, fPut, dIxL, dMut1, fApp, List.getElem?_cons_zero, List.getElem?_cons_succ, List.set_cons_zero, List.set_cons_succ, List.map_cons, List.map_nil, List.cons_append, List.nil_append, List.length_cons, List.length_nil, List.replicate, if_true, if_false, ite_true, ite_false, Bool.false_eq_true, reduceIte, decide_true, decide_false, Option.map_some, Option.bind_some]
    · simp [lkD, callF, startE, finO, dSeqS, dSet, slOf, dRet, dRetN, dIfS, dSkip, dVar, dBVar, dMv, dC, fz, rv, dOp, dUn, dNil, dCons, dTup, dLst, dB, dAndT, dOrT, dNotT, dAnd, dOr, dNot, dIf, dIfR, dCall, dBlt, dOp2, dSeq, itemsOf, dFrz, frzE, dPar, rCons, rNil, setSls, dAug, dUnp, bindTg, bindTgs, wipeE, dYes, dChain, Res.bind, Res.map, R.val, O.toD, fIx_tup, fIx_lst, fIx_loc, fIx_scr, ixD, fGt_i, fLt_i, fLe_i, fGe_i, fSub_i, fIAdd_i, fMod, fDiv, fAdd, fPow, fEq, fNe, fIsN, fNotN, isNon, bLen, bList, bTuple, bAbs, bInt, bMax2, bMin2, dPutL, listSlot, isL, mutL, fPut, dIxL, dMut1, fApp, List.getElem?_cons_zero, List.getElem?_cons_succ, List.set_cons_zero, List.set_cons_succ, List.map_cons, List.map_nil, List.cons_append, List.nil_append, List.length_cons, List.length_nil, List.replicate, if_true, if_false, ite_true, ite_false, Bool.false_eq_true, reduceIte, decide_true, decide_false, Option.map_some, Option.bind_some]
    · simp [callF, startE, finO, dSeqS, dSet, slOf, dRet, dRetN, dIfS, dSkip, dVar, dBVar, dMv, dC, fz, rv, dOp, dUn, dNil, dCons, dTup, dLst, dB, dAndT, dOrT, dNotT, dAnd, dOr, dNot, dIf, dIfR, dCall, dBlt, dOp2, dSeq, itemsOf, dFrz, frzE, dPar, rCons, rNil, setSls, dAug, dUnp, bindTg, bindTgs, wipeE, dYes, dChain, Res.bind, Res.map, R.val, O.toD, fIx_tup, fIx_lst, fIx_loc, fIx_scr, ixD, fGt_i, fLt_i, fLe_i, fGe_i, fSub_i, fIAdd_i, fMod, fDiv, fAdd, fPow, fEq, fNe, fIsN, fNotN, isNon, bLen, bList, bTuple, bAbs, bInt, bMax2, bMin2, dPutL, listSlot, isL, mutL, fPut, dIxL, dMut1, fApp, List.getElem?_cons_zero, List.getElem?_cons_succ, List.set_cons_zero, List.set_cons_succ, List.map_cons, List.map_nil, List.cons_append, List.nil_append, List.length_cons, List.length_nil, List.replicate, if_true, if_false, ite_true, ite_false, Bool.false_eq_true, reduceIte, decide_true, decide_false, Option.map_some, Option.bind_some, fIn, din, fitN, deq, touch]
    · intro _
      by_cases c : l.1 = p <;> simp [callF, startE, finO, dSeqS, dSet, slOf, dRet, dRetN, dIfS, dSkip, dVar, dBVar, dMv, dC, fz, rv, dOp, dUn, dNil, dCons, dTup, dLst, dB, dAndT, dOrT, dNotT, dAnd, dOr, dNot, dIf, dIfR, dCall, dBlt, dOp2, dSeq, itemsOf, dFrz, frzE, dPar, rCons, rNil, setSls, dAug, dUnp, bindTg, bindTgs, wipeE, dYes, dChain, Res.bind, Res.map, R.val, O.toD, fIx_tup, fIx_lst, fIx_loc, fIx_scr, ixD, fGt_i, fLt_i, fLe_i, fGe_i, fSub_i, fIAdd_i, fMod, fDiv, fAdd, fPow, fEq, fNe, fIsN, fNotN, isNon, bLen, bList, bTuple, bAbs, bInt, bMax2, bMin2, dPutL, listSlot, isL, mutL, fPut, dIxL, dMut1, fApp, List.getElem?_cons_zero, List.getElem?_cons_succ, List.set_cons_zero, List.set_cons_succ, List.map_cons, List.map_nil, List.cons_append, List.nil_append, List.length_cons, List.length_nil, List.replicate, if_true, if_false, ite_true, ite_false, Bool.false_eq_true, reduceIte, decide_true, decide_false, Option.map_some, Option.bind_some, fitN, deq, other, c]
  rw [callN_eq hM]
  simp [q__law_mates, b__law_mates, callF, startE, finO, dRet, List.replicate, key, mates, List.map_map]
/-! ### woods: each link has its own child by some rank -/
structure Wood (c : Int) (L : List Lk) : Prop where
  inr : ∀ l ∈ L, 0 ≤ l.1 ∧ l.1 < l.2 ∧ l.2 < c
  rk : ∃ rk : Int → Nat, (∀ l ∈ L, rk l.1 ≠ rk l.2) ∧ (L.map fun l => if rk l.1 < rk l.2 then l.2 else l.1).Nodup
theorem Wood.sub {c : Int} {L L' : List Lk} (h : Wood c L) (s : L'.Sublist L) : Wood c L' := by
  obtain ⟨rk, h1, h2⟩ := h.rk
  exact ⟨fun l hl => h.inr l (s.subset hl), rk, fun l hl => h1 l (s.subset hl), h2.sublist (s.map _)⟩
theorem Wood.perm {c : Int} {L L' : List Lk} (h : Wood c L) (s : L'.Perm L) : Wood c L' := by
  obtain ⟨rk, h1, h2⟩ := h.rk
  exact ⟨fun l hl => h.inr l (s.subset hl), rk, fun l hl => h1 l (s.subset hl), ((s.map _).nodup_iff).mpr h2⟩
theorem max_of {α : Type} (f : α → Nat) : ∀ (l : List α), l ≠ [] → ∃ x ∈ l, ∀ y ∈ l, f y ≤ f x
  | [x], _ => ⟨x, by simp, by simp⟩
  | x :: y :: r, _ => by
    obtain ⟨z, hz, h⟩ := max_of f (y :: r) (by simp)
    by_cases c : f z ≤ f x
    · refine ⟨x, by simp, fun w hw => ?_⟩
      rcases List.mem_cons.mp hw with rfl | hw
      · exact Nat.le_refl _
      · exact Nat.le_trans (h w hw) c
    · refine ⟨z, List.mem_cons_of_mem _ hz, fun w hw => ?_⟩
      rcases List.mem_cons.mp hw with rfl | hw
      · omega
      · exact h w hw
/-- at most one item passes if the images of those that pass are one and the same, and images are all different -/
theorem filter_one {α : Type} (f : α → Int) (p : α → Bool) (v : Int) : ∀ l : List α, (l.map f).Nodup → (∀ x ∈ l, p x = true → f x = v) → (∃ x ∈ l, p x = true) → (l.filter p).length = 1
  | [], _, _, h => by obtain ⟨x, hx, _⟩ := h; cases hx
  | x :: l, nd, h, hex => by
    rw [List.map_cons, List.nodup_cons] at nd
    by_cases c : p x = true
    · rw [List.filter_cons_of_pos c, List.length_cons]
      have : l.filter p = [] := by
        rw [List.filter_eq_nil_iff]
        intro y hy cy
        exact nd.1 (by
          rw [h x List.mem_cons_self c, ← h y (List.mem_cons_of_mem _ hy) cy]
          exact List.mem_map_of_mem hy)
      rw [this]
      rfl
    · rw [List.filter_cons_of_neg c]
      obtain ⟨y, hy, cy⟩ := hex
      rcases List.mem_cons.mp hy with rfl | hy
      · exact absurd cy c
      · exact filter_one f p v l nd.2 (fun z hz => h z (List.mem_cons_of_mem _ hz)) ⟨y, hy, cy⟩
theorem Wood.leaf {c : Int} {L : List Lk} (h : Wood c L) (hne : L ≠ []) : ∃ v : Int, 0 ≤ v ∧ v < c ∧ (mates L v).length = 1 := by
  obtain ⟨rk, h1, h2⟩ := h.rk
  obtain ⟨l, hl, hmax⟩ := max_of (fun l : Lk => rk (if rk l.1 < rk l.2 then l.2 else l.1)) L hne
  have hr := h.inr l hl
  refine ⟨if rk l.1 < rk l.2 then l.2 else l.1, by split <;> omega, by split <;> omega, ?_⟩
  unfold mates
  rw [List.length_map]
  refine filter_one (fun l : Lk => if rk l.1 < rk l.2 then l.2 else l.1) _ (if rk l.1 < rk l.2 then l.2 else l.1) L h2 (fun m hm ht => ?_) ⟨l, hl, ?_⟩
  · have hm1 := h1 m hm
    have hmm := hmax m hm
    generalize (if rk l.1 < rk l.2 then l.2 else l.1) = v at ht hmm
    unfold touch at ht
    simp only [Bool.or_eq_true, beq_iff_eq] at ht
    by_cases c1 : rk m.1 < rk m.2
    · simp only [if_pos c1] at hmm ⊢
      rcases ht with z | z
      · rw [← z] at hmm; omega
      · exact z
    · simp only [if_neg c1] at hmm ⊢
      rcases ht with z | z
      · exact z
      · rw [← z] at hmm; omega
  · unfold touch
    simp only [Bool.or_eq_true, beq_iff_eq]
    split
    · exact .inr rfl
    · exact .inl rfl

/-! ### sorting -/
theorem dle_int (a b : Int) : dle (.int a) (.int b) = decide (a ≤ b) := by
  unfold dle PySem.W.dataLe PySem.W.sortLe
  by_cases h : a ≤ b
  · simp [toPy, PySem.W.keyToks, PyProof.Rows.lexLt, PyProof.Rows.itemLt, h]
  · simp [toPy, PySem.W.keyToks, PyProof.Rows.lexLt, PyProof.Rows.itemLt, h]
    omega
theorem dSort2 (a b : D) : dSort [a, b] = if dle a b = true then [a, b] else [b, a] := by
  unfold dSort
  simp [List.mergeSort, List.merge, List.MergeSort.Internal.splitInTwo]
theorem dSort_perm (ds : List D) : (dSort ds).Perm ds := List.mergeSort_perm _ _
theorem sortOk_int2 (a b : Int) : sortOk [.int a, .int b] = true := by
  simp [sortOk, fitN, plainD, nonEmptyTup, toPy, PySem.W.alike]
theorem sortOk_lks {L : List Lk} (h : L.length ≤ 100000) : sortOk (L.map lkD) = true := by
  unfold sortOk
  simp only [Bool.and_eq_true, Bool.or_eq_true, decide_eq_true_eq, List.all_eq_true, List.length_map]
  refine ⟨⟨⟨fun d hd => ?_, .inl fun d hd => ?_⟩, fun d hd e he => ?_⟩, h⟩
  · obtain ⟨l, _, rfl⟩ := List.mem_map.mp hd
    simp [lkD, fitN]
  · obtain ⟨l, _, rfl⟩ := List.mem_map.mp hd
    rfl
  · obtain ⟨l, _, rfl⟩ := List.mem_map.mp hd
    obtain ⟨m, _, rfl⟩ := List.mem_map.mp he
    simp [lkD, toPy, toPys, PySem.W.alike, PySem.W.alikeAll]
def lkOf (x y : Int) : Lk := if x ≤ y then (x, y) else (y, x)
theorem sorted2 (x y : Int) (S : Sto) : bSorted [.lst [.int x, .int y]] S = .ok (.o (.l [.int (lkOf x y).1, .int (lkOf x y).2])) S := by
  unfold bSorted
  simp only [sortOk_int2, if_true, dSort2, dle_int]
  unfold lkOf
  by_cases c : x ≤ y <;> simp [c]
theorem perm_lks {L : List Lk} {ds : List D} (h : ds.Perm (L.map lkD)) : ∃ L' : List Lk, L'.Perm L ∧ ds = L'.map lkD := by
  obtain ⟨L', h1, h2⟩ := L2.perm_lift lkD h L rfl
  exact ⟨L', h1, h2.symm⟩
theorem perm_ints {L : List Int} {ds : List D} (h : ds.Perm (L.map D.int)) : ∃ L' : List Int, L'.Perm L ∧ ds = L'.map D.int := by
  obtain ⟨L', h1, h2⟩ := L2.perm_lift D.int h L rfl
  exact ⟨L', h1, h2.symm⟩
/-! ### _law_wood -/
def rng (n : Nat) : List Int := (List.range n).map fun i : Nat => (i : Int)
theorem mem_rng {n : Nat} {x : Int} : x ∈ rng n ↔ 0 ≤ x ∧ x < n := by
  unfold rng
  simp only [List.mem_map, List.mem_range]
  constructor
  · rintro ⟨i, hi, rfl⟩
    omega
  · rintro ⟨h1, h2⟩
    exact ⟨x.toNat, by omega, by omega⟩
theorem rng_nodup (n : Nat) : (rng n).Nodup := by
  unfold rng List.Nodup
  rw [List.pairwise_map]
  exact List.nodup_range.imp fun h e => h (by omega)
theorem rng_len (n : Nat) : (rng n).length = n := by simp [rng]
theorem rangeD_rng (n : Nat) : rangeD 0 (n : Int) = (rng n).map D.int := by
  rw [rangeD_nat, rng, List.map_map]
  rfl
/-- the links laid so far: link i joins tag i + 1 to an earlier one -/
structure Laid (tags : List Int) (L : List Lk) (i : Nat) : Prop where
  len : L.length = i
  at_ : ∀ (j : Nat) (l : Lk), L[j]? = some l → ∃ (b : Nat) (x y : Int), b ≤ j ∧ tags[j + 1]? = some x ∧ tags[b]? = some y ∧ l = lkOf x y
theorem Laid.wood {tags : List Int} {L : List Lk} {c : Nat} (h : Laid tags L (c - 1)) (hp : tags.Perm (rng c)) : Wood c L := by
  have nd : tags.Nodup := hp.nodup_iff.mpr (rng_nodup c)
  have hl : tags.length = c := by rw [hp.length_eq, rng_len]
  have idx : ∀ (j : Nat) (x : Int), tags[j]? = some x → tags.idxOf x = j := fun j x e => by
    obtain ⟨hj, e⟩ := List.getElem?_eq_some_iff.mp e
    rw [← e]
    exact nd.idxOf_getElem j hj
  have inr : ∀ (j : Nat) (x : Int), tags[j]? = some x → 0 ≤ x ∧ x < c := fun j x e => mem_rng.mp (hp.mem_iff.mp (List.mem_of_getElem? e))
  have key : ∀ (j : Nat) (l : Lk), L[j]? = some l → (0 ≤ l.1 ∧ l.1 < l.2 ∧ l.2 < c) ∧ tags.idxOf l.1 ≠ tags.idxOf l.2 ∧ tags[j + 1]? = some (if tags.idxOf l.1 < tags.idxOf l.2 then l.2 else l.1) := fun j l e => by
    obtain ⟨b, x, y, hb, hx, hy, rfl⟩ := h.at_ j l e
    have ix := idx _ _ hx
    have iy := idx _ _ hy
    have rx := inr _ _ hx
    have ry := inr _ _ hy
    have hxy : x ≠ y := fun z => by
      rw [z, iy] at ix
      omega
    unfold lkOf
    by_cases c1 : x ≤ y
    · rw [if_pos c1]
      refine ⟨⟨rx.1, by show x < y; omega, ry.2⟩, by show tags.idxOf x ≠ tags.idxOf y; omega, ?_⟩
      show _ = some (if tags.idxOf x < tags.idxOf y then y else x)
      rw [if_neg (by omega)]
      exact hx
    · rw [if_neg c1]
      refine ⟨⟨ry.1, by show y < x; omega, rx.2⟩, by show tags.idxOf y ≠ tags.idxOf x; omega, ?_⟩
      show _ = some (if tags.idxOf y < tags.idxOf x then x else y)
      rw [if_pos (by omega)]
      exact hx
  refine ⟨fun l hl => ?_, tags.idxOf, fun l hl => ?_, ?_⟩
  · obtain ⟨j, hj⟩ := List.mem_iff_getElem?.mp hl
    exact (key j l hj).1
  · obtain ⟨j, hj⟩ := List.mem_iff_getElem?.mp hl
    exact (key j l hj).2.1
  · have e : (L.map fun l => if tags.idxOf l.1 < tags.idxOf l.2 then l.2 else l.1) = tags.drop 1 := by
      apply List.ext_getElem?
      intro j
      rw [List.getElem?_map, List.getElem?_drop]
      cases hj : L[j]? with
      | some l =>
        rw [Nat.add_comm 1 j, (key j l hj).2.2]
        rfl
      | none =>
        have := List.getElem?_eq_none_iff.mp hj
        have hL := h.len
        rw [List.getElem?_eq_none (by omega)]
        rfl
    rw [e]
    exact nd.sublist (List.drop_sublist _ _)
end MP

namespace MP
open PySem PySem.Spec
theorem Laid.snoc {tags : List Int} {L : List Lk} {i : Nat} (h : Laid tags L i) {b : Nat} {x y : Int} (hb : b ≤ i) (hx : tags[i + 1]? = some x) (hy : tags[b]? = some y) : Laid tags (L ++ [lkOf x y]) (i + 1) := by
  refine ⟨by simp [h.len], fun j l e => ?_⟩
  by_cases c : j < L.length
  · rw [List.getElem?_append_left c] at e
    exact h.at_ j l e
  · rw [List.getElem?_append_right (by omega)] at e
    have hl := h.len
    have e0 : j - L.length = 0 := by
      cases k : j - L.length with
      | zero => rfl
      | succ k' => rw [k] at e; simp at e
    rw [e0] at e
    have ej : j = i := by omega
    subst ej
    simp at e
    exact ⟨b, x, y, hb, hx, hy, e.symm⟩
theorem rangeD_from (m : Nat) (lo : Int) : rangeD lo (lo + m) = (List.range m).map fun i : Nat => D.int (lo + i) := by
  unfold rangeD
  have : (lo + m - lo).toNat = m := by omega
  rw [this]
theorem sp_wood {B : Tb} {n b k c : Nat} {S : Sto} (hT : B i__law_take = some q__law_take) (hS : B i__law_strewn = some q__law_strewn) (hW : B i__law_wood_v0 = some q__law_wood_v0) (h1 : 1 ≤ c) (h2 : c ≤ 1000) (hb : Bx S b (k + 2 * c + c + 1)) :
    ∃ (L : List Lk) (S' : Sto), callN B (n + 3) i__law_wood_v0 [.loc b, .int c] S = .ok (.v (.tup [.int c, .tup (L.map lkD)])) S' ∧ Wood c L ∧ L.length = c - 1 ∧ Bx S' b k := by
  obtain ⟨ys, S1, a1, a2, a3⟩ := sp_strewn (n := n) (d := .lst (rangeD 0 c)) (xs := rangeD 0 c) (k := k + 2 * c + 1) hT hS (hb.mono (by rw [rangeD_nat, List.length_map, List.length_range]; omega)) (.lst _) (by rw [rangeD_nat, List.length_map, List.length_range]; omega) (by rw [rangeD_rng]; exact fit_ints _ _)
  rw [rangeD_rng] at a2
  obtain ⟨tags, hp, rfl⟩ := perm_ints a2
  have htl : tags.length = c := by rw [hp.length_eq, rng_len]
  obtain ⟨near, S2, b1, b2, b3, b4⟩ := sp_take (n := n + 1) (m := 3) (k := k + 2 * c) hT a3 (by decide) (by decide)
  have a1 : callN B (n + 2) 230 [.loc b, .lst (rangeD 0 c)] S = .ok (.o (.l (tags.map D.int))) S1 := a1
  have b1 : callN B (n + 2) 238 [.loc b, .int 3] S1 = .ok (.v (.int near)) S2 := b1
  have loop := for_inv (t := .nm 2) (b := (dSeqS
  (dSet 6 (dIfR (dB (fz (dOp fGt (dBVar 5) (dC (.int 0))))) (dCall (callN B (n + 2)) 238 (dCons (dVar 0) (dCons (dVar 2) dNil))) (dBlt bMax2 (dCons (dC (.int 0)) (dCons (fz (dOp fSub (fz (dOp fSub (dBVar 2) (dC (.int 1)))) (fz (dCall (callN B (n + 2)) 238 (dCons (dVar 0) (dCons (dC (.int 2)) dNil)))))) dNil)))))
  (dMut1 4 fApp (fz (dBlt bTuple (dCons (fz (dBlt bSorted (dCons (fz (dLst (dCons (fz (dOp fIx (dBVar 3) (dBVar 2))) (dCons (fz (dOp fIx (dBVar 3) (dBVar 6))) dNil)))) dNil))) dNil))))))
    (fun i : Nat => D.int (1 + i)) (fun i env S => ∃ (L : List Lk) (pc bk : Sl), env = [.va (.loc b), .va (.int c), pc, .ow (.l (tags.map D.int)), .ow (.l (L.map lkD)), .va (.int near), bk] ∧ Laid tags L i ∧ Bx S b (k + 2 * (c - i))) (List.range (c - 1)) 0
    [.va (.loc b), .va (.int c), .no, .ow (.l (tags.map D.int)), .ow (.l []), .va (.int near), .no] S2 ⟨[], .no, .no, rfl, ⟨rfl, fun j l e => by simp at e⟩, by simpa using b4⟩ ?_
  · obtain ⟨e, S3, g1, L, pc, bk, rfl, g2, g3⟩ := loop
    rw [List.length_range, Nat.zero_add] at g2 g3
    obtain ⟨L', p1, p2⟩ := perm_lks (dSort_perm (L.map lkD))
    have hlen : L.length = c - 1 := g2.len
    refine ⟨L', S3, ?_, (g2.wood hp).perm p1, by rw [p1.length_eq, hlen], g3.mono (by omega)⟩
    have hr : rangeD 1 (c : Int) = (List.range (c - 1)).map fun i : Nat => D.int (1 + i) := by
      rw [← rangeD_from]
      congr 1
      omega
    have so := sortOk_lks (L := L) (by omega)
    have b0 : (c : Int) ≤ 100000 ∧ -100000 ≤ (c : Int) := by omega
    rw [callN_eq hW]
    simp [q__law_wood_v0, b__law_wood_v0, callF, startE, finO, dSeqS, dSet, slOf, dRet, dRetN, dIfS, dSkip, dVar, dBVar, dMv, dC, fz, rv, dOp, dUn, dNil, dCons, dTup, dLst, dB, dAndT, dOrT, dNotT, dAnd, dOr, dNot, dIf, dIfR, dCall, dBlt, dOp2, dSeq, itemsOf, dFrz, frzE, dPar, rCons, rNil, setSls, dAug, dUnp, bindTg, bindTgs, wipeE, dYes, dChain, Res.bind, Res.map, R.val, O.toD, fIx_tup, fIx_lst, fIx_loc, fIx_scr, ixD, fGt_i, fLt_i, fLe_i, fGe_i, fSub_i, fIAdd_i, fMod, fDiv, fAdd, fPow, fEq, fNe, fIsN, fNotN, isNon, bLen, bList, bTuple, bAbs, bInt, bMax2, bMin2, dPutL, listSlot, isL, mutL, fPut, dIxL, dMut1, fApp, List.getElem?_cons_zero, List.getElem?_cons_succ, List.set_cons_zero, List.set_cons_succ, List.map_cons, List.map_nil, List.cons_append, List.nil_append, List.length_cons, List.length_nil, List.replicate, if_true, if_false, ite_true, ite_false, Bool.false_eq_true, reduceIte, decide_true, decide_false, Option.map_some, Option.bind_some, dMkL, dRange1, dRange2, dFor, b0, a1, b1, hr, g1, bSorted, so, p2]
  · rintro j x env S hj ⟨L, pc, bk, rfl, g2, g3⟩
    rw [Nat.zero_add] at g2 g3
    have hjl : j < c - 1 := by
      have := (List.getElem?_eq_some_iff.mp hj).1
      simpa using this
    have ex : x = j := by
      rw [List.getElem?_range hjl] at hj
      exact (Option.some.inj hj).symm
    subst ex
    -- the earlier piece
    have back : ∃ (r : Nat) (S' : Sto), dIfR (dB (fz (dOp fGt (dBVar 5) (dC (.int 0))))) (dCall (callN B (n + 2)) 238 (dCons (dVar 0) (dCons (dVar 2) dNil))) (dBlt bMax2 (dCons (dC (.int 0)) (dCons (fz (dOp fSub (fz (dOp fSub (dBVar 2) (dC (.int 1)))) (fz (dCall (callN B (n + 2)) 238 (dCons (dVar 0) (dCons (dC (.int 2)) dNil)))))) dNil)))
        [.va (.loc b), .va (.int c), .va (.int (1 + x)), .ow (.l (tags.map D.int)), .ow (.l (L.map lkD)), .va (.int near), bk] S = .ok (.v (.int r)) S' ∧ r ≤ x ∧ Bx S' b (k + 2 * (c - (x + 1))) := by
      by_cases cn : 0 < near
      · obtain ⟨r, S', e1, e2, e3, e4⟩ := sp_take (n := n + 1) (m := 1 + x) (k := k + 2 * (c - (x + 1)) + 1) hT (g3.mono (by omega)) (by omega) (by omega)
        have e1 : callN B (n + 2) 238 [.loc b, .int (1 + x)] S = .ok (.v (.int r)) S' := e1
        refine ⟨r.toNat, S', ?_, by omega, e4.mono (by omega)⟩
        have er : (r.toNat : Int) = r := by omega
        rw [er]
        simp [callF, startE, finO, dSeqS, dSet, slOf, dRet, dRetN, dIfS, dSkip, dVar, dBVar, dMv, dC, fz, rv, dOp, dUn, dNil, dCons, dTup, dLst, dB, dAndT, dOrT, dNotT, dAnd, dOr, dNot, dIf, dIfR, dCall, dBlt, dOp2, dSeq, itemsOf, dFrz, frzE, dPar, rCons, rNil, setSls, dAug, dUnp, bindTg, bindTgs, wipeE, dYes, dChain, Res.bind, Res.map, R.val, O.toD, fIx_tup, fIx_lst, fIx_loc, fIx_scr, ixD, fGt_i, fLt_i, fLe_i, fGe_i, fSub_i, fIAdd_i, fMod, fDiv, fAdd, fPow, fEq, fNe, fIsN, fNotN, isNon, bLen, bList, bTuple, bAbs, bInt, bMax2, bMin2, dPutL, listSlot, isL, mutL, fPut, dIxL, dMut1, fApp, List.getElem?_cons_zero, List.getElem?_cons_succ, List.set_cons_zero, List.set_cons_succ, List.map_cons, List.map_nil, List.cons_append, List.nil_append, List.length_cons, List.length_nil, List.replicate, if_true, if_false, ite_true, ite_false, Bool.false_eq_true, reduceIte, decide_true, decide_false, Option.map_some, Option.bind_some, cn, e1]
      · obtain ⟨r, S', e1, e2, e3, e4⟩ := sp_take (n := n + 1) (m := 2) (k := k + 2 * (c - (x + 1)) + 1) hT (g3.mono (by omega)) (by decide) (by decide)
        have e1 : callN B (n + 2) 238 [.loc b, .int 2] S = .ok (.v (.int r)) S' := e1
        refine ⟨((x : Int) - r).toNat, S', ?_, by omega, e4.mono (by omega)⟩
        have ex : (1 + (x : Int) - 1 - r) = x - r := by omega
        simp [callF, startE, finO, dSeqS, dSet, slOf, dRet, dRetN, dIfS, dSkip, dVar, dBVar, dMv, dC, fz, rv, dOp, dUn, dNil, dCons, dTup, dLst, dB, dAndT, dOrT, dNotT, dAnd, dOr, dNot, dIf, dIfR, dCall, dBlt, dOp2, dSeq, itemsOf, dFrz, frzE, dPar, rCons, rNil, setSls, dAug, dUnp, bindTg, bindTgs, wipeE, dYes, dChain, Res.bind, Res.map, R.val, O.toD, fIx_tup, fIx_lst, fIx_loc, fIx_scr, ixD, fGt_i, fLt_i, fLe_i, fGe_i, fSub_i, fIAdd_i, fMod, fDiv, fAdd, fPow, fEq, fNe, fIsN, fNotN, isNon, bLen, bList, bTuple, bAbs, bInt, bMax2, bMin2, dPutL, listSlot, isL, mutL, fPut, dIxL, dMut1, fApp, List.getElem?_cons_zero, List.getElem?_cons_succ, List.set_cons_zero, List.set_cons_succ, List.map_cons, List.map_nil, List.cons_append, List.nil_append, List.length_cons, List.length_nil, List.replicate, if_true, if_false, ite_true, ite_false, Bool.false_eq_true, reduceIte, decide_true, decide_false, Option.map_some, Option.bind_some, cn, e1, ex]
        split <;> omega
    obtain ⟨r, S', e1, e2, e3⟩ := back
    have hx : tags[x + 1]? = some (tags[x + 1]'(by omega)) := List.getElem?_eq_getElem _
    have hy : tags[r]? = some (tags[r]'(by omega)) := List.getElem?_eq_getElem _
    generalize tags[x + 1]'(by omega) = vx at hx
    generalize tags[r]'(by omega) = vy at hy
    refine ⟨[.va (.loc b), .va (.int c), .va (.int (1 + x)), .ow (.l (tags.map D.int)), .ow (.l (L.map lkD)), .va (.int near), bk], [.va (.loc b), .va (.int c), .va (.int (1 + x)), .ow (.l (tags.map D.int)), .ow (.l ((L ++ [lkOf vx vy]).map lkD)), .va (.int near), .va (.int r)], S', ?_, ?_, L ++ [lkOf vx vy], .va (.int (1 + x)), .va (.int r), rfl, ?_, ?_⟩
    · simp [bindTg]
    · have i1 : (1 + (x : Int)).toNat = x + 1 := by omega
      have i2 : 0 ≤ 1 + (x : Int) := by omega
      have hl : L.length ≤ 100000 := by have := g2.len; omega
      simp only [dSeqS, dSet, e1]
      simp [callF, startE, finO, dSeqS, dSet, slOf, dRet, dRetN, dIfS, dSkip, dVar, dBVar, dMv, dC, fz, rv, dOp, dUn, dNil, dCons, dTup, dLst, dB, dAndT, dOrT, dNotT, dAnd, dOr, dNot, dIf, dIfR, dCall, dBlt, dOp2, dSeq, itemsOf, dFrz, frzE, dPar, rCons, rNil, setSls, dAug, dUnp, bindTg, bindTgs, wipeE, dYes, dChain, Res.bind, Res.map, R.val, O.toD, fIx_tup, fIx_lst, fIx_loc, fIx_scr, ixD, fGt_i, fLt_i, fLe_i, fGe_i, fSub_i, fIAdd_i, fMod, fDiv, fAdd, fPow, fEq, fNe, fIsN, fNotN, isNon, bLen, bList, bTuple, bAbs, bInt, bMax2, bMin2, dPutL, listSlot, isL, mutL, fPut, dIxL, dMut1, fApp, List.getElem?_cons_zero, List.getElem?_cons_succ, List.set_cons_zero, List.set_cons_succ, List.map_cons, List.map_nil, List.cons_append, List.nil_append, List.length_cons, List.length_nil, List.replicate, if_true, if_false, ite_true, ite_false, Bool.false_eq_true, reduceIte, decide_true, decide_false, Option.map_some, Option.bind_some, i1, i2, hx, hy, sorted2, hl, lkD]
    · rw [Nat.zero_add]
      exact g2.snoc e2 hx hy
    · rw [Nat.zero_add]
      exact e3
end MP

namespace MP
open PySem PySem.Spec
/-! ### closings -/
def cutL (L : List Lk) (q : Int) : List Lk := L.filter fun l => !touch q l
def rest (L : List Lk) (Q : List Int) : List Lk := Q.foldl cutL L
inductive Shut : List Lk → List Int → List Int → Prop
  | nil (L : List Lk) : Shut L [] []
  | cons {L : List Lk} {q e : Int} {Q E : List Int} : mates L q = [e] → Shut (cutL L q) Q E → Shut L (q :: Q) (e :: E)
theorem Shut.snoc {q e : Int} : ∀ {Q E : List Int} {L : List Lk}, Shut L Q E → mates (rest L Q) q = [e] → Shut L (Q ++ [q]) (E ++ [e])
  | _, _, _, .nil L, h => .cons h (.nil _)
  | _, _, _, .cons a b, h => .cons a (b.snoc h)
theorem Shut.length : ∀ {Q E : List Int} {L : List Lk}, Shut L Q E → Q.length = E.length
  | _, _, _, .nil L => rfl
  | _, _, _, .cons a b => by simp [b.length]
theorem len_split {α : Type} (p : α → Bool) : ∀ l : List α, (l.filter p).length + (l.filter fun x => !p x).length = l.length
  | [] => rfl
  | x :: l => by
    have := len_split p l
    cases c : p x <;> simp [c] <;> omega
theorem cut_len {L : List Lk} {q : Int} (h : (mates L q).length = 1) : (cutL L q).length + 1 = L.length := by
  unfold mates at h
  rw [List.length_map] at h
  have := len_split (touch q) L
  unfold cutL
  omega
theorem one_of {α : Type} {l : List α} (h : l.length = 1) : ∃ x, l = [x] := by
  match l, h with
  | [x], _ => exact ⟨x, rfl⟩
theorem fit_lk (n : Nat) (l : Lk) : fitN (n + 1) (lkD l) = true := by simp [lkD, fitN]
theorem all_lks (n : Nat) (L : List Lk) : (L.map lkD).all (fitN (n + 1)) = true := by
  rw [List.all_eq_true]
  intro d hd
  obtain ⟨l, _, rfl⟩ := List.mem_map.mp hd
  exact fit_lk n l
end MP

namespace MP
open PySem PySem.Spec
/-! ### notes -/
structure Note where
  t : Int
  k : Bool
  v : Int
deriving DecidableEq
def kd (k : Bool) : Str := if k = true then "closed" else "end"
def noteD (x : Note) : D := .tup [.int x.t, .str (kd x.k), .int x.v]
structure Told (Q E : List Int) (s : Nat) (N : List Note) : Prop where
  tr : ∀ x ∈ N, 0 ≤ x.t ∧ x.t < s ∧ (x.k = true → Q[x.t.toNat]? = some x.v) ∧ (x.k = false → E[x.t.toNat]? = some x.v)
  so : N.Pairwise fun x y => x.t < y.t ∨ (x.t = y.t ∧ x.k = true ∧ y.k = false)
  len : N.length ≤ 2 * s
theorem Told.nil (Q E : List Int) (s : Nat) : Told Q E s [] := ⟨fun x hx => (by cases hx), .nil, by simp⟩
/-! ### _law_story -/
structure Story (c s : Nat) (L : List Lk) (Q E : List Int) (N : List Note) : Prop where
  wood : Wood c L
  len : L.length = c - 1
  c1 : 1 ≤ c
  sc : s ≤ c - 1
  shut : Shut L Q E
  ql : Q.length = s
  qr : ∀ q ∈ Q, 0 ≤ q ∧ q < c
  told : Told Q E s N
end MP

namespace MP
open PySem PySem.Spec
/-! ### journals -/
structure J where
  n : Int
  m : Int
  N : List Note
/-- the journal's notes are of its towns and times, at most one of a kind at a time -/
structure JW (j : J) : Prop where
  n0 : 0 ≤ j.n
  n1 : j.n ≤ 60
  m0 : 0 ≤ j.m
  m1 : j.m ≤ 60
  inr : ∀ x ∈ j.N, 0 ≤ x.t ∧ x.t < j.m ∧ 0 ≤ x.v ∧ x.v < j.n
  so : j.N.Pairwise fun x y => ¬ (x.t = y.t ∧ x.k = y.k)
def NoteR (x : Note) (d : D) : Prop := SeqD d [.int x.t, .str (kd x.k), .int x.v]
structure JR (d : D) (j : J) : Prop where
  w : JW j
  len : j.N.length ≤ 10000
  ex : ∃ d3 ds, SeqD d [.int j.n, .int j.m, d3] ∧ SeqD d3 ds ∧ All2 NoteR j.N ds
def notedL (j : J) (k : Bool) : List Lk := (j.N.filter fun x => x.k == k).map fun x => (x.t, x.v)
/-! ### span -/
def maxO (l : List Int) (z : Int) : Int := match l with
  | [] => z
  | x :: xs => maxL x xs
def minO (l : List Int) (z : Int) : Int := match l with
  | [] => z
  | x :: xs => minL x xs
def cameL (j : J) (p : Int) : List Int := ((notedL j true).filter fun l => l.2 == p).map (·.1)
def endL (j : J) (p : Int) : List Int := ((notedL j false).filter fun l => l.2 == p).map fun l => l.1 + 1
def spanF (j : J) (p : Int) : Lk := (maxO (endL j p ++ cameL j p) 0, minO (cameL j p) (j.m - 1))
end MP

namespace MP
open PySem PySem.Spec
/-! ### in -/
theorem any_ints (p : Int) : ∀ l : List Int, ((l.map D.int).any fun z => deq z (.int p)) = decide (p ∈ l)
  | [] => by simp
  | x :: l => by
    rw [List.map_cons, List.any_cons, any_ints p l, deq_ii]
    by_cases c : x = p
    · simp [c]
    · have c' : ¬ p = x := fun z => c z.symm
      simp [c, c']
theorem din_lst (p : Int) (l : List Int) : din (.int p) (.lst (l.map D.int)) = some (decide (p ∈ l)) := by
  unfold din
  simp only [any_ints]
  rw [if_pos ⟨rfl, fit_ints _ _⟩]
theorem fNotIn_lst (p : Int) (l : List Int) (S : Sto) : fNotIn (.int p) (.lst (l.map D.int)) S = .ok (.v (.bl (!decide (p ∈ l)))) S := by
  unfold fNotIn
  rw [din_lst]
theorem fIn_lst (p : Int) (l : List Int) (S : Sto) : fIn (.int p) (.lst (l.map D.int)) S = .ok (.v (.bl (decide (p ∈ l)))) S := by
  unfold fIn
  rw [din_lst]
/-! ### dicts of ints -/
def keysI (l : List Int) : List L2.Key := l.map Sum.inl
theorem notedL_nodup {j : J} (h : JW j) (k : Bool) : ((notedL j k).map (·.1)).Nodup := by
  unfold notedL List.Nodup
  rw [List.map_map, List.pairwise_map]
  have := h.so.sublist (List.filter_sublist (p := fun x => x.k == k) (l := j.N))
  rw [List.pairwise_iff_forall_sublist] at this ⊢
  intro a b hab
  have e1 : a ∈ j.N.filter fun x => x.k == k := hab.subset (by simp)
  have e2 : b ∈ j.N.filter fun x => x.k == k := hab.subset (by simp)
  have h1 := (List.mem_filter.mp e1).2
  have h2 := (List.mem_filter.mp e2).2
  simp at h1 h2
  intro e
  exact this hab ⟨e, h1.trans h2.symm⟩
/-! ### is_sound -/
def soundF (j : J) : Bool := (notedL j true).all fun x => decide (spanF j x.2 = (x.1, x.1))
theorem deq_lk (a b : Lk) : deq (lkD a) (lkD b) = decide (a = b) := by
  obtain ⟨a1, a2⟩ := a
  obtain ⟨b1, b2⟩ := b
  simp only [lkD, deq, deqs, Bool.and_true]
  by_cases c1 : a1 = b1 <;> by_cases c2 : a2 = b2 <;> simp [c1, c2]
theorem bls_map : ∀ l : List Bool, blsOf (l.map D.bl) = some l
  | [] => rfl
  | x :: l => by simp [blsOf, bls_map l]
theorem bAll_map {α : Type} (l : List α) (p : α → Bool) (S : Sto) : bAll [.lst (l.map fun x => D.bl (p x))] S = .ok (.v (.bl (l.all p))) S := by
  have e : (l.map fun x => D.bl (p x)) = (l.map p).map D.bl := by simp
  unfold bAll
  simp only [e, bls_map]
  simp
end MP

namespace MP
open PySem PySem.Spec
/-! ### count_orders -/
def timesF (j : J) (k : Bool) : List Int := (notedL j k).map (·.1)
def townsF (j : J) : List Int := (notedL j true).map (·.2)
def startsF (j : J) : List Int := ((rng j.n.toNat).filter fun p => !decide (p ∈ townsF j)).map fun p => (spanF j p).1
def pos0 (x : Int) : Int := if x > 0 then x else 0
def cntStep (tk st : List Int) (a : Int × Int) (t : Int) : Int × Int := if t ∈ tk then a else (a.1 * pos0 (((st.filter fun x => decide (x ≤ t)).length : Int) - a.2), a.2 + 1)
def countF (j : J) : Int := if soundF j = true then ((rng j.m.toNat).foldl (cntStep (timesF j true) (startsF j)) (1, 0)).1 else 0
theorem rng_succ_get {n i : Nat} {x : Int} (h : (rng n)[i]? = some x) : i < n ∧ x = i := by
  have hi := (List.getElem?_eq_some_iff.mp h).1
  rw [rng_len] at hi
  unfold rng at h
  rw [List.getElem?_map, List.getElem?_range hi] at h
  exact ⟨hi, (Option.some.inj h).symm⟩
end MP

namespace MP
open PySem PySem.Spec
/-! ### lost_ways, count_stories -/
def lostF (j : J) : Int := (rng j.m.toNat).foldl (fun a t => if t ∈ timesF j false then a else a * (j.n - 1 - t)) 1
/-! ### windows, evidence -/
def windF (j : J) : List Lk := (rng j.n.toNat).map (spanF j)
def lostT (j : J) : List Int := usort (((notedL j true).filter fun x => decide ((spanF j x.2).2 < (spanF j x.2).1)).map (·.2))
def fewF (j : J) (t : Int) : Bool := decide ((((windF j).filter fun x => decide (x.1 ≤ x.2) && decide (x.1 ≤ t)).length : Int) ≤ t)
def evidF (j : J) : D := if 0 < (lostT j).length then .tup [.str "never", .int ((lostT j).getD 0 0)] else
  if 0 < ((rng j.m.toNat).filter (fewF j)).length then .tup [.str "few", .int (((rng j.m.toNat).filter (fewF j)).getD 0 0)] else .non

theorem nodup_sub_len : ∀ {l m : List Int}, l.Nodup → (∀ x ∈ l, x ∈ m) → l.length ≤ m.length
  | [], _, _, _ => by simp
  | x :: l, m, nd, h => by
    obtain ⟨h1, h2⟩ := List.nodup_cons.mp nd
    have ih := nodup_sub_len (l := l) (m := m.erase x) h2 fun y hy => (List.mem_erase_of_ne (fun e => h1 (by rw [← e]; exact hy))).mpr (h y (List.mem_cons_of_mem _ hy))
    have hx := h x List.mem_cons_self
    rw [List.length_erase_of_mem hx] at ih
    have := List.length_pos_of_mem hx
    rw [List.length_cons]
    omega
/-! ### is_number, are_towns, is_order -/
theorem sp_number {B : Tb} {n : Nat} {S : Sto} {i : Int} (hB : B i_is_number = some q_is_number) : callN B (n + 1) i_is_number [.int i] S = .ok (.v (.bl true)) S := by
  rw [callN_eq hB]
  simp [q_is_number, b_is_number, callF, startE, finO, dSeqS, dSet, slOf, dRet, dRetN, dIfS, dSkip, dVar, dBVar, dMv, dC, fz, rv, dOp, dUn, dNil, dCons, dTup, dLst, dB, dAndT, dOrT, dNotT, dAnd, dOr, dNot, dIf, dIfR, dCall, dBlt, dOp2, dSeq, itemsOf, dFrz, frzE, dPar, rCons, rNil, setSls, dAug, dUnp, bindTg, bindTgs, wipeE, dYes, dChain, Res.bind, Res.map, R.val, O.toD, fIx_tup, fIx_lst, fIx_loc, fIx_scr, ixD, fGt_i, fLt_i, fLe_i, fGe_i, fSub_i, fIAdd_i, fMod, fDiv, fAdd, fPow, fEq, fNe, fIsN, fNotN, isNon, bLen, bList, bTuple, bAbs, bInt, bMax2, bMin2, dPutL, listSlot, isL, mutL, fPut, dIxL, dMut1, fApp, List.getElem?_cons_zero, List.getElem?_cons_succ, List.set_cons_zero, List.set_cons_succ, List.map_cons, List.map_nil, List.cons_append, List.nil_append, List.length_cons, List.length_nil, List.replicate, if_true, if_false, ite_true, ite_false, Bool.false_eq_true, reduceIte, decide_true, decide_false, Option.map_some, Option.bind_some, bIsi, isi1, tyName, tyKnown, subTy]
def orderF (j : J) (l : List Int) : Bool := (decide ((l.length : Int) = j.m) && l.all fun p => decide (0 ≤ p) && decide (p < j.n)) && decide (((usort l).length : Int) = j.m) && ((notedL j true).all fun x => decide (l[x.1.toNat]? = some x.2)) && ((notedL j false).all fun x => !decide (x.2 ∈ l.take (x.1.toNat + 1)))
end MP

namespace MP
open PySem PySem.Spec
/-! ### what a closing of a wood is like -/
theorem mem_mates {L : List Lk} {p e : Int} (h : e ∈ mates L p) : ∃ l ∈ L, touch p l = true ∧ e = other p l := by
  unfold mates at h
  obtain ⟨l, hl, rfl⟩ := List.mem_map.mp h
  obtain ⟨h1, h2⟩ := List.mem_filter.mp hl
  exact ⟨l, h1, h2, rfl⟩
theorem touch_other {p : Int} {l : Lk} (h : touch p l = true) : touch (other p l) l = true := by
  unfold touch other at *
  simp only [Bool.or_eq_true, beq_iff_eq] at *
  split
  · exact .inr rfl
  · exact .inl rfl
theorem other_ne {p : Int} {l : Lk} (h : touch p l = true) (hl : l.1 ≠ l.2) : other p l ≠ p := by
  unfold touch other at *
  simp only [Bool.or_eq_true, beq_iff_eq] at h
  split
  · rename_i c
    exact fun z => hl (c.trans z.symm)
  · rename_i c
    exact c
theorem cut_mem {L : List Lk} {q : Int} {l : Lk} (h : l ∈ cutL L q) : l ∈ L ∧ touch q l = false := by
  unfold cutL at h
  obtain ⟨h1, h2⟩ := List.mem_filter.mp h
  exact ⟨h1, by simpa using h2⟩
theorem Shut.q_touch : ∀ {Q E : List Int} {L : List Lk}, Shut L Q E → ∀ q ∈ Q, ∃ l ∈ L, touch q l = true
  | _, _, _, .nil _, q, h => by cases h
  | _, _, L, .cons a b, q, h => by
    rcases List.mem_cons.mp h with rfl | h
    · obtain ⟨l, h1, h2, _⟩ := mem_mates (L := L) (p := q) (by rw [a]; exact List.mem_cons_self)
      exact ⟨l, h1, h2⟩
    · obtain ⟨l, h1, h2⟩ := b.q_touch q h
      exact ⟨l, (cut_mem h1).1, h2⟩
theorem Shut.e_touch : ∀ {Q E : List Int} {L : List Lk}, Shut L Q E → ∀ e ∈ E, ∃ l ∈ L, touch e l = true
  | _, _, _, .nil _, q, h => by cases h
  | _, _, L, @Shut.cons _ q0 e0 _ _ a b, e, h => by
    rcases List.mem_cons.mp h with rfl | h
    · obtain ⟨l, h1, h2, h3⟩ := mem_mates (L := L) (p := q0) (e := e) (by rw [a]; exact List.mem_cons_self)
      exact ⟨l, h1, by rw [h3]; exact touch_other h2⟩
    · obtain ⟨l, h1, h2⟩ := b.e_touch e h
      exact ⟨l, (cut_mem h1).1, h2⟩
theorem Shut.nodup : ∀ {Q E : List Int} {L : List Lk}, Shut L Q E → Q.Nodup
  | _, _, _, .nil _ => List.nodup_nil
  | _, _, L, .cons a b => by
    refine List.nodup_cons.mpr ⟨fun h => ?_, b.nodup⟩
    obtain ⟨l, h1, h2⟩ := b.q_touch _ h
    rw [(cut_mem h1).2] at h2
    cases h2
theorem Shut.open_ : ∀ {Q E : List Int} {L : List Lk}, Shut L Q E → (∀ l ∈ L, l.1 ≠ l.2) → ∀ (i : Nat) (e : Int), E[i]? = some e → e ∉ Q.take (i + 1)
  | _, _, _, .nil _, _, i, e, h => by simp at h
  | _, _, L, @Shut.cons _ q0 e0 Q E a b, hne, i, e, h => by
    obtain ⟨l, h1, h2, h3⟩ := mem_mates (L := L) (p := q0) (e := e0) (by rw [a]; exact List.mem_cons_self)
    rw [List.take_succ_cons]
    intro z
    cases i with
    | zero =>
      simp at h z
      exact other_ne h2 (hne l h1) (by rw [← h3, h, z])
    | succ i =>
      have h : E[i]? = some e := by simpa using h
      rcases List.mem_cons.mp z with z | z
      · obtain ⟨m, m1, m2⟩ := b.e_touch e (List.mem_of_getElem? h)
        rw [z, (cut_mem m1).2] at m2
        cases m2
      · exact b.open_ (fun l hl => hne l (cut_mem hl).1) i e h z
/-! ### a tale: an order and ends that fit -/
structure Tale (c s : Nat) (Q E : List Int) (N : List Note) : Prop where
  sc : s + 1 ≤ c
  ql : Q.length = s
  el : E.length = s
  qr : ∀ q ∈ Q, 0 ≤ q ∧ q < c
  er : ∀ e ∈ E, 0 ≤ e ∧ e < c
  nd : Q.Nodup
  op : ∀ (i : Nat) (e : Int), E[i]? = some e → e ∉ Q.take (i + 1)
  told : Told Q E s N
theorem Story.tale {c s : Nat} {L : List Lk} {Q E : List Int} {N : List Note} (h : Story c s L Q E N) : Tale c s Q E N := by
  have c1 := h.c1
  have sc := h.sc
  refine ⟨by omega, h.ql, by rw [← h.shut.length]; exact h.ql, h.qr, fun e he => ?_, h.shut.nodup, h.shut.open_ (fun l hl => ?_), h.told⟩
  · obtain ⟨l, h1, h2⟩ := h.shut.e_touch e he
    have r := h.wood.inr l h1
    unfold touch at h2
    simp only [Bool.or_eq_true, beq_iff_eq] at h2
    rcases h2 with z | z <;> omega
  · have := (h.wood.inr l hl).2.1
    omega
/-- the journal of a tale, with k towns more -/
def jk (c s : Nat) (N : List Note) (k : Nat) : J := ⟨(c : Int) + k, s, N⟩
section
variable {c s : Nat} {Q E : List Int} {N : List Note}
theorem Tale.jw (h : Tale c s Q E N) (hc : c ≤ 50) {k : Nat} (hk : k ≤ 10) : JW (jk c s N k) := by
  have sc := h.sc
  refine ⟨by show (0 : Int) ≤ c + k; omega, by show (c : Int) + k ≤ 60; omega, by show (0 : Int) ≤ s; omega, by show (s : Int) ≤ 60; omega, fun x hx => ?_, ?_⟩
  · obtain ⟨h1, h2, h3, h4⟩ := h.told.tr x hx
    have : 0 ≤ x.v ∧ x.v < c := by
      cases hxk : x.k with
      | true => exact h.qr _ (List.mem_of_getElem? (h3 hxk))
      | false => exact h.er _ (List.mem_of_getElem? (h4 hxk))
    exact ⟨h1, h2, this.1, by show x.v < (c : Int) + k; omega⟩
  · refine h.told.so.imp fun {x y} hxy => ?_
    rintro ⟨e1, e2⟩
    rcases hxy with z | ⟨_, z1, z2⟩
    · omega
    · rw [z1, z2] at e2
      cases e2
theorem mem_noted {j : J} {k : Bool} {l : Lk} : l ∈ notedL j k ↔ ∃ x ∈ j.N, x.k = k ∧ l = (x.t, x.v) := by
  unfold notedL
  simp only [List.mem_map, List.mem_filter, beq_iff_eq]
  constructor
  · rintro ⟨x, ⟨h1, h2⟩, rfl⟩
    exact ⟨x, h1, h2, rfl⟩
  · rintro ⟨x, h1, h2, rfl⟩
    exact ⟨x, ⟨h1, h2⟩, rfl⟩
/-- what the notes tell -/
theorem Tale.closed (h : Tale c s Q E N) {k : Nat} {l : Lk} (hl : l ∈ notedL (jk c s N k) true) : 0 ≤ l.1 ∧ l.1 < s ∧ Q[l.1.toNat]? = some l.2 := by
  obtain ⟨x, hx, hk, rfl⟩ := mem_noted.mp hl
  obtain ⟨h1, h2, h3, h4⟩ := h.told.tr x hx
  exact ⟨h1, h2, h3 hk⟩
theorem Tale.ended (h : Tale c s Q E N) {k : Nat} {l : Lk} (hl : l ∈ notedL (jk c s N k) false) : 0 ≤ l.1 ∧ l.1 < s ∧ E[l.1.toNat]? = some l.2 := by
  obtain ⟨x, hx, hk, rfl⟩ := mem_noted.mp hl
  obtain ⟨h1, h2, h3, h4⟩ := h.told.tr x hx
  exact ⟨h1, h2, h4 hk⟩
theorem mem_came {j : J} {p t : Int} : t ∈ cameL j p ↔ (t, p) ∈ notedL j true := by
  unfold cameL
  simp only [List.mem_map, List.mem_filter, beq_iff_eq]
  constructor
  · rintro ⟨l, ⟨h1, h2⟩, rfl⟩
    rw [← h2]
    exact h1
  · intro h
    exact ⟨(t, p), ⟨h, rfl⟩, rfl⟩
theorem mem_endL {j : J} {p t : Int} : t ∈ endL j p ↔ (t - 1, p) ∈ notedL j false := by
  unfold endL
  simp only [List.mem_map, List.mem_filter, beq_iff_eq]
  constructor
  · rintro ⟨l, ⟨h1, h2⟩, rfl⟩
    have : (l.1 + 1 - 1, p) = l := by rw [← h2]; ext <;> simp <;> omega
    rw [this]
    exact h1
  · intro h
    exact ⟨(t - 1, p), ⟨h, rfl⟩, by show t - 1 + 1 = t; omega⟩
theorem maxO_mem {l : List Int} {z : Int} : (l = [] ∧ maxO l z = z) ∨ (maxO l z ∈ l ∧ ∀ y ∈ l, y ≤ maxO l z) := by
  cases l with
  | nil => exact .inl ⟨rfl, rfl⟩
  | cons x l =>
    right
    obtain ⟨h1, h2, h3⟩ := maxL_spec l x
    refine ⟨?_, fun y hy => ?_⟩
    · show maxL x l ∈ _
      rcases h1 with h | h
      · rw [h]; exact List.mem_cons_self
      · exact List.mem_cons_of_mem _ h
    · rcases List.mem_cons.mp hy with rfl | hy
      · exact h2
      · exact h3 y hy
theorem minO_mem {l : List Int} {z : Int} : (l = [] ∧ minO l z = z) ∨ (minO l z ∈ l ∧ ∀ y ∈ l, minO l z ≤ y) := by
  cases l with
  | nil => exact .inl ⟨rfl, rfl⟩
  | cons x l =>
    right
    obtain ⟨h1, h2, h3⟩ := minL_spec l x
    refine ⟨?_, fun y hy => ?_⟩
    · show minL x l ∈ _
      rcases h1 with h | h
      · rw [h]; exact List.mem_cons_self
      · exact List.mem_cons_of_mem _ h
    · rcases List.mem_cons.mp hy with rfl | hy
      · exact h2
      · exact h3 y hy
/-- a town that the order closes at i: its window holds i; if that is noted, it is (i, i) -/
theorem Tale.span (h : Tale c s Q E N) {k i : Nat} {p : Int} (hp : Q[i]? = some p) : 0 ≤ (spanF (jk c s N k) p).1 ∧ (spanF (jk c s N k) p).1 ≤ i ∧ (i : Int) ≤ (spanF (jk c s N k) p).2 ∧ (((i : Int), p) ∈ notedL (jk c s N k) true → spanF (jk c s N k) p = ((i : Int), (i : Int))) := by
  have his : i < s := by
    have := (List.getElem?_eq_some_iff.mp hp).1
    rw [h.ql] at this
    exact this
  have uniq : ∀ t ∈ cameL (jk c s N k) p, t = i := fun t ht => by
    obtain ⟨h1, h2, h3⟩ := h.closed (mem_came.mp ht)
    have e : t.toNat = i := by
      obtain ⟨l1, g1⟩ := List.getElem?_eq_some_iff.mp h3
      obtain ⟨l2, g2⟩ := List.getElem?_eq_some_iff.mp hp
      exact (List.getElem_inj h.nd).mp (g1.trans g2.symm)
    have h1 : 0 ≤ t := h1
    omega
  have below : ∀ t ∈ endL (jk c s N k) p, 1 ≤ t ∧ t ≤ i := fun t ht => by
    obtain ⟨h1, h2, h3⟩ := h.ended (mem_endL.mp ht)
    have h1 : 0 ≤ t - 1 := h1
    have op := h.op _ _ h3
    have h3' : (t - 1).toNat + 1 ≤ i := by
      rcases Nat.lt_or_ge i ((t - 1).toNat + 1) with c | c
      · exact absurd (List.mem_of_getElem? (by rw [List.getElem?_take_of_lt c]; exact hp)) op
      · exact c
    omega
  have all : ∀ t ∈ endL (jk c s N k) p ++ cameL (jk c s N k) p, 0 ≤ t ∧ t ≤ i := fun t ht => by
    rcases List.mem_append.mp ht with ht | ht
    · have := below t ht
      omega
    · have := uniq t ht
      omega
  have f1 : 0 ≤ (spanF (jk c s N k) p).1 ∧ (spanF (jk c s N k) p).1 ≤ i := by
    rcases maxO_mem (l := endL (jk c s N k) p ++ cameL (jk c s N k) p) (z := 0) with ⟨_, e⟩ | ⟨e, _⟩
    · show 0 ≤ maxO _ 0 ∧ maxO _ 0 ≤ _
      rw [e]
      omega
    · exact all _ e
  have f2 : (i : Int) ≤ (spanF (jk c s N k) p).2 := by
    rcases minO_mem (l := cameL (jk c s N k) p) (z := (s : Int) - 1) with ⟨_, e⟩ | ⟨e, _⟩
    · show _ ≤ minO _ ((s : Int) - 1)
      rw [e]
      omega
    · have := uniq _ e
      show _ ≤ minO _ ((s : Int) - 1)
      omega
  refine ⟨f1.1, f1.2, f2, fun hm => ?_⟩
  have hc : (i : Int) ∈ cameL (jk c s N k) p := mem_came.mpr hm
  have g1 : (i : Int) ≤ (spanF (jk c s N k) p).1 := by
    rcases maxO_mem (l := endL (jk c s N k) p ++ cameL (jk c s N k) p) (z := 0) with ⟨e, _⟩ | ⟨_, e⟩
    · have : (i : Int) ∈ endL (jk c s N k) p ++ cameL (jk c s N k) p := List.mem_append_right _ hc
      rw [e] at this
      cases this
    · exact e _ (List.mem_append_right _ hc)
  have g2 : (spanF (jk c s N k) p).2 ≤ i := by
    rcases minO_mem (l := cameL (jk c s N k) p) (z := (s : Int) - 1) with ⟨e, _⟩ | ⟨_, e⟩
    · rw [e] at hc
      cases hc
    · exact e _ hc
  ext
  · show (spanF (jk c s N k) p).1 = i
    omega
  · show (spanF (jk c s N k) p).2 = i
    omega
/-- a town without notes may be closed at any time -/
theorem span_free {j : J} {p : Int} (h : ∀ x ∈ j.N, x.v ≠ p) : spanF j p = (0, j.m - 1) := by
  have e1 : cameL j p = [] := List.eq_nil_iff_forall_not_mem.mpr fun t ht => by
    obtain ⟨x, hx, _, e⟩ := mem_noted.mp (mem_came.mp ht)
    exact h x hx (congrArg (·.2) e).symm
  have e2 : endL j p = [] := List.eq_nil_iff_forall_not_mem.mpr fun t ht => by
    obtain ⟨x, hx, _, e⟩ := mem_noted.mp (mem_endL.mp ht)
    exact h x hx (congrArg (·.2) e).symm
  unfold spanF
  rw [e1, e2]
  rfl
theorem Tale.sound (h : Tale c s Q E N) (k : Nat) : soundF (jk c s N k) = true := by
  unfold soundF
  rw [List.all_eq_true]
  intro l hl
  obtain ⟨h1, h2, h3⟩ := h.closed hl
  have e : ((l.1.toNat : Nat) : Int) = l.1 := by omega
  have := (h.span (k := k) h3).2.2.2 (by rw [e]; exact hl)
  rw [e] at this
  simpa using this
end
end MP

namespace MP
open PySem PySem.Spec
/-! ### the count as a product -/
def cntLe (st : List Int) (t : Int) : Int := ((st.filter fun x => decide (x ≤ t)).length : Int)
/-- k towns more, u times before -/
def prodK (st : List Int) (k : Int) : Int → List Int → Int
  | _, [] => 1
  | u, t :: ts => pos0 (cntLe st t + k - u) * prodK st k (u + 1) ts
theorem fold_prod (tk st : List Int) : ∀ (l : List Int) (a : Int × Int), (l.foldl (cntStep tk st) a).1 = a.1 * prodK st 0 a.2 (l.filter fun t => !decide (t ∈ tk))
  | [], a => by simp [prodK]
  | t :: l, a => by
    rw [List.foldl_cons, fold_prod tk st l]
    by_cases c : t ∈ tk
    · have e : cntStep tk st a t = a := by unfold cntStep; rw [if_pos c]
      rw [e, List.filter_cons_of_neg (by simp [c])]
    · have e : cntStep tk st a t = (a.1 * pos0 (cntLe st t - a.2), a.2 + 1) := by unfold cntStep; rw [if_neg c]; rfl
      rw [e, List.filter_cons_of_pos (by simp [c])]
      show a.1 * pos0 (cntLe st t - a.2) * prodK st 0 (a.2 + 1) _ = a.1 * (pos0 (cntLe st t + 0 - a.2) * prodK st 0 (a.2 + 1) _)
      rw [Int.add_zero, Int.mul_assoc]
theorem prod_shift {st st' : List Int} {k k' : Int} : ∀ (ts : List Int) (u : Int), (∀ t ∈ ts, cntLe st t + k = cntLe st' t + k') → prodK st k u ts = prodK st' k' u ts
  | [], _, _ => rfl
  | t :: ts, u, h => by
    unfold prodK
    rw [h t List.mem_cons_self, prod_shift ts (u + 1) fun x hx => h x (List.mem_cons_of_mem _ hx)]
theorem pos0_pos {x : Int} (h : 1 ≤ x) : pos0 x = x := by unfold pos0; rw [if_pos (by omega)]
/-- growth by towns more -/
theorem prod_conv (st : List Int) : ∀ (ts : List Int) (u : Int), (∀ (i : Nat) (t : Int), ts[i]? = some t → u + i + 1 ≤ cntLe st t) →
    1 ≤ prodK st 0 u ts ∧ prodK st 0 u ts ≤ prodK st 1 u ts ∧ prodK st 1 u ts ≤ prodK st 2 u ts ∧ 0 ≤ prodK st 2 u ts - 2 * prodK st 1 u ts + prodK st 0 u ts ∧ (prodK st 1 u ts = prodK st 0 u ts → prodK st 2 u ts - 2 * prodK st 1 u ts + prodK st 0 u ts = 0)
  | [], u, _ => by simp [prodK]
  | t :: ts, u, h => by
    have h0 := h 0 t rfl
    obtain ⟨a1, a2, a3, a4, a5⟩ := prod_conv st ts (u + 1) fun i t' e => by
      have := h (i + 1) t' (by simpa using e)
      have e : ((i + 1 : Nat) : Int) = i + 1 := by omega
      rw [e] at this
      omega
    have hb : 1 ≤ cntLe st t - u := by
      have : ((0 : Nat) : Int) = 0 := rfl
      rw [this] at h0
      omega
    unfold prodK
    rw [pos0_pos (by omega), pos0_pos (by omega), pos0_pos (by omega)]
    generalize cntLe st t = q at hb
    obtain ⟨b, rfl⟩ : ∃ b, q = b + u := ⟨q - u, by omega⟩
    have hb : 1 ≤ b := by omega
    have e0 : b + u + 0 - u = b := by omega
    have e1 : b + u + 1 - u = b + 1 := by omega
    have e2 : b + u + 2 - u = b + 2 := by omega
    rw [e0, e1, e2]
    generalize prodK st 0 (u + 1) ts = p0 at *
    generalize prodK st 1 (u + 1) ts = p1 at *
    generalize prodK st 2 (u + 1) ts = p2 at *
    have m0 : b * p0 ≤ b * p1 := Int.mul_le_mul_of_nonneg_left a2 (by omega)
    have m1 : b * p1 ≤ b * p2 := Int.mul_le_mul_of_nonneg_left a3 (by omega)
    have m2 : 1 ≤ b * p0 := by
      have := Int.mul_le_mul hb a1 (by decide) (by omega)
      simpa using this
    have x1 : (b + 1) * p1 = b * p1 + p1 := by rw [Int.add_mul, Int.one_mul]
    have x2 : (b + 2) * p2 = b * p2 + 2 * p2 := by rw [Int.add_mul]
    have x3 : 0 ≤ b * (p2 - 2 * p1 + p0) := Int.mul_nonneg (by omega) a4
    have x4 : b * (p2 - 2 * p1 + p0) = b * p2 - 2 * (b * p1) + b * p0 := by
      rw [Int.mul_add, Int.mul_sub, Int.mul_left_comm]
    rw [x1, x2]
    refine ⟨m2, by omega, by omega, by omega, fun z => ?_⟩
    omega
/-! ### bounds -/
/-! ### the counts of a tale -/
theorem rng_succ (n : Nat) : rng (n + 1) = rng n ++ [(n : Int)] := by
  unfold rng
  rw [List.range_succ, List.map_append]
  rfl
section
variable {c s : Nat} {Q E : List Int} {N : List Note}
theorem Tale.town (h : Tale c s Q E N) {k : Nat} {p : Int} (hp : p ∈ townsF (jk c s N k)) : ∃ t : Nat, (t : Int) ∈ timesF (jk c s N k) true ∧ Q[t]? = some p := by
  unfold townsF at hp
  obtain ⟨l, hl, rfl⟩ := List.mem_map.mp hp
  obtain ⟨h1, h2, h3⟩ := h.closed hl
  refine ⟨l.1.toNat, ?_, h3⟩
  have e : ((l.1.toNat : Nat) : Int) = l.1 := by omega
  rw [e]
  exact List.mem_map_of_mem hl
theorem Tale.note_lt (h : Tale c s Q E N) {x : Note} (hx : x ∈ N) : 0 ≤ x.v ∧ x.v < c := by
  obtain ⟨h1, h2, h3, h4⟩ := h.told.tr x hx
  cases hxk : x.k with
  | true => exact h.qr _ (List.mem_of_getElem? (h3 hxk))
  | false => exact h.er _ (List.mem_of_getElem? (h4 hxk))
theorem Tale.span_more (h : Tale c s Q E N) {k : Nat} {p : Int} (hp : (c : Int) ≤ p) : spanF (jk c s N k) p = (0, (s : Int) - 1) :=
  span_free (j := jk c s N k) fun x hx e => by
    have := (h.note_lt hx).2
    omega
theorem Tale.starts_succ (h : Tale c s Q E N) (k : Nat) : startsF (jk c s N (k + 1)) = startsF (jk c s N k) ++ [0] := by
  have e1 : (jk c s N (k + 1)).n.toNat = (jk c s N k).n.toNat + 1 := by
    show ((c : Int) + (k + 1 : Nat)).toNat = ((c : Int) + k).toNat + 1
    omega
  have e2 : (((jk c s N k).n.toNat : Nat) : Int) = (c : Int) + k := by
    show ((((c : Int) + k).toNat : Nat) : Int) = _
    omega
  unfold startsF
  rw [e1, rng_succ, List.filter_append, List.map_append]
  congr 1
  rw [e2]
  have nt : ¬ ((c : Int) + k) ∈ townsF (jk c s N (k + 1)) := fun z => by
    obtain ⟨t, _, ht⟩ := h.town z
    have := (h.qr _ (List.mem_of_getElem? ht)).2
    omega
  rw [List.filter_cons_of_pos (by simp [nt])]
  simp [h.span_more (k := k + 1) (p := (c : Int) + k) (by omega)]
theorem Tale.cnt_more (h : Tale c s Q E N) {t : Int} (ht : 0 ≤ t) : ∀ k : Nat, cntLe (startsF (jk c s N k)) t = cntLe (startsF (jk c s N 0)) t + k
  | 0 => by simp
  | k + 1 => by
    rw [h.starts_succ k]
    have ih := h.cnt_more ht k
    unfold cntLe at ih ⊢
    rw [List.filter_append, List.length_append]
    have : ([(0 : Int)].filter fun x => decide (x ≤ t)) = [0] := by simp [ht]
    rw [this]
    simp only [List.length_cons, List.length_nil]
    omega
/-- the times that no note of a closing holds -/
def frT (s : Nat) (tk : List Int) : List Int := (rng s).filter fun t => !decide (t ∈ tk)
theorem Tale.room (h : Tale c s Q E N) (i : Nat) (t : Int) (ht : (frT s (timesF (jk c s N 0) true))[i]? = some t) : 0 ≤ t ∧ (i : Int) + 1 ≤ cntLe (startsF (jk c s N 0)) t := by
  have hs : ∀ x ∈ frT s (timesF (jk c s N 0) true), 0 ≤ x ∧ x < s ∧ x ∉ timesF (jk c s N 0) true := fun x hx => by
    unfold frT at hx
    obtain ⟨h1, h2⟩ := List.mem_filter.mp hx
    have := mem_rng.mp h1
    exact ⟨this.1, this.2, by simpa using h2⟩
  have inc : (frT s (timesF (jk c s N 0) true)).Pairwise (· < ·) := by
    unfold frT
    refine List.Pairwise.sublist List.filter_sublist ?_
    unfold rng
    rw [List.pairwise_map]
    exact List.pairwise_lt_range.imp fun h => by omega
  have h0 := hs t (List.mem_of_getElem? ht)
  refine ⟨h0.1, ?_⟩
  have hi := (List.getElem?_eq_some_iff.mp ht).1
  generalize hfr : frT s (timesF (jk c s N 0) true) = fr at *
  -- the towns that the order closes at these times
  have qAt : ∀ x ∈ fr, ∃ p, Q[x.toNat]? = some p := fun x hx => by
    have := hs x hx
    exact ⟨_, List.getElem?_eq_getElem (by rw [h.ql]; omega)⟩
  have lenA : ((fr.take (i + 1)).map fun x => Q.getD x.toNat 0).length = i + 1 := by
    rw [List.length_map, List.length_take]
    omega
  have ndA : ((fr.take (i + 1)).map fun x => Q.getD x.toNat 0).Nodup := by
    unfold List.Nodup
    rw [List.pairwise_map]
    have sub : (fr.take (i + 1)).Sublist fr := List.take_sublist _ _
    rw [List.pairwise_iff_forall_sublist]
    intro a b hab
    have lt := List.pairwise_iff_forall_sublist.mp (inc.sublist sub) hab
    have ha := sub.subset (hab.subset (show a ∈ [a, b] by simp))
    have hb := sub.subset (hab.subset (show b ∈ [a, b] by simp))
    obtain ⟨p, hp⟩ := qAt a ha
    obtain ⟨q, hq⟩ := qAt b hb
    have ra := hs a ha
    have rb := hs b hb
    intro e
    rw [List.getD_eq_getElem?_getD, List.getD_eq_getElem?_getD, hp, hq] at e
    have e : p = q := e
    subst e
    obtain ⟨l1, g1⟩ := List.getElem?_eq_some_iff.mp hp
    obtain ⟨l2, g2⟩ := List.getElem?_eq_some_iff.mp hq
    have := (List.getElem_inj h.nd).mp (g1.trans g2.symm)
    omega
  have subB : ∀ p ∈ (fr.take (i + 1)).map fun x => Q.getD x.toNat 0, p ∈ ((rng (jk c s N 0).n.toNat).filter fun p => !decide (p ∈ townsF (jk c s N 0))).filter fun p => decide ((spanF (jk c s N 0) p).1 ≤ t) := fun p hp => by
    obtain ⟨x, hx, rfl⟩ := List.mem_map.mp hp
    obtain ⟨m, hm⟩ := List.mem_iff_getElem?.mp hx
    have hxfr : x ∈ fr := (List.take_sublist _ _).subset hx
    have rx := hs x hxfr
    obtain ⟨p, hp⟩ := qAt x hxfr
    rw [List.getD_eq_getElem?_getD, hp]
    show p ∈ _
    have hpr := h.qr _ (List.mem_of_getElem? hp)
    have sp := h.span (k := 0) hp
    have hxt : x ≤ t := by
      have hml : m < (fr.take (i + 1)).length := (List.getElem?_eq_some_iff.mp hm).1
      rw [List.length_take] at hml
      have hm2 : fr[m]? = some x := by rw [← hm, List.getElem?_take_of_lt (by omega)]
      rcases Nat.lt_or_ge m i with c1 | c1
      · obtain ⟨l1, g1⟩ := List.getElem?_eq_some_iff.mp hm2
        obtain ⟨l2, g2⟩ := List.getElem?_eq_some_iff.mp ht
        have := List.pairwise_iff_getElem.mp inc m i l1 l2 c1
        rw [g1, g2] at this
        omega
      · have : m = i := by omega
        subst this
        rw [hm2] at ht
        cases ht
        exact Int.le_refl _
    refine List.mem_filter.mpr ⟨List.mem_filter.mpr ⟨mem_rng.mpr ⟨hpr.1, ?_⟩, ?_⟩, ?_⟩
    · show p < ((((c : Int) + (0 : Nat)).toNat : Nat) : Int)
      omega
    · simp only [Bool.not_eq_true', decide_eq_false_iff_not]
      intro z
      obtain ⟨t', h1, h2⟩ := h.town z
      obtain ⟨l1, g1⟩ := List.getElem?_eq_some_iff.mp hp
      obtain ⟨l2, g2⟩ := List.getElem?_eq_some_iff.mp h2
      have := (List.getElem_inj h.nd).mp (g1.trans g2.symm)
      have e : (t' : Int) = x := by omega
      rw [e] at h1
      exact rx.2.2 h1
    · simp only [decide_eq_true_eq]
      omega
  have := nodup_sub_len ndA subB
  rw [lenA] at this
  unfold cntLe startsF
  rw [List.filter_map, List.length_map]
  have e : (List.filter ((fun x => decide (x ≤ t)) ∘ fun p => (spanF (jk c s N 0) p).1) ((rng (jk c s N 0).n.toNat).filter fun p => !decide (p ∈ townsF (jk c s N 0)))) = ((rng (jk c s N 0).n.toNat).filter fun p => !decide (p ∈ townsF (jk c s N 0))).filter fun p => decide ((spanF (jk c s N 0) p).1 ≤ t) := rfl
  rw [e]
  omega
/-- the count of a tale's journal with k towns more -/
theorem Tale.count (h : Tale c s Q E N) (k : Nat) : countF (jk c s N k) = prodK (startsF (jk c s N 0)) k 0 (frT s (timesF (jk c s N 0) true)) := by
  unfold countF
  rw [if_pos (h.sound k), fold_prod]
  have e : (jk c s N k).m.toNat = s := by show ((s : Int)).toNat = s; omega
  rw [e]
  show 1 * prodK _ 0 0 (frT s (timesF (jk c s N 0) true)) = _
  rw [Int.one_mul]
  refine prod_shift _ _ fun t ht => ?_
  obtain ⟨i, hi⟩ := List.mem_iff_getElem?.mp ht
  rw [h.cnt_more (h.room i t hi).1 k]
  omega
theorem Tale.counts (h : Tale c s Q E N) : 1 ≤ countF (jk c s N 0) ∧ countF (jk c s N 0) ≤ countF (jk c s N 1) ∧ 0 ≤ countF (jk c s N 2) - 2 * countF (jk c s N 1) + countF (jk c s N 0) ∧ (countF (jk c s N 1) = countF (jk c s N 0) → countF (jk c s N 2) - 2 * countF (jk c s N 1) + countF (jk c s N 0) = 0) := by
  rw [h.count 0, h.count 1, h.count 2]
  obtain ⟨a1, a2, a3, a4, a5⟩ := prod_conv (startsF (jk c s N 0)) (frT s (timesF (jk c s N 0) true)) 0 fun i t e => by
    have := (h.room i t e).2
    omega
  exact ⟨a1, a2, a4, a5⟩
/-! ### the lost ways of a tale -/
theorem lost_mono (tk : List Int) (f g : Int → Int) : ∀ (l : List Int) (a b : Int), 1 ≤ a → a ≤ b → (∀ t ∈ l, 1 ≤ f t ∧ f t ≤ g t) → 1 ≤ l.foldl (fun a t => if t ∈ tk then a else a * f t) a ∧ l.foldl (fun a t => if t ∈ tk then a else a * f t) a ≤ l.foldl (fun a t => if t ∈ tk then a else a * g t) b
  | [], a, b, h1, h2, _ => ⟨h1, h2⟩
  | t :: l, a, b, h1, h2, h => by
    rw [List.foldl_cons, List.foldl_cons]
    have hl : ∀ t ∈ l, 1 ≤ f t ∧ f t ≤ g t := fun x hx => h x (List.mem_cons_of_mem _ hx)
    by_cases c : t ∈ tk
    · rw [if_pos c, if_pos c]
      exact lost_mono tk f g l a b h1 h2 hl
    · rw [if_neg c, if_neg c]
      obtain ⟨f1, f2⟩ := h t List.mem_cons_self
      refine lost_mono tk f g l _ _ ?_ ?_ hl
      · have := Int.mul_le_mul h1 f1 (by decide) (by omega)
        simpa using this
      · exact Int.mul_le_mul h2 f2 (by omega) (by omega)
theorem Tale.lost (h : Tale c s Q E N) : 1 ≤ lostF (jk c s N 0) ∧ lostF (jk c s N 0) ≤ lostF (jk c s N 1) := by
  have sc := h.sc
  refine lost_mono (timesF (jk c s N 0) false) (fun t => (jk c s N 0).n - 1 - t) (fun t => (jk c s N 1).n - 1 - t) (rng (jk c s N 0).m.toNat) 1 1 (by decide) (by decide) fun t ht => ?_
  have := mem_rng.mp ht
  have e : (jk c s N 0).m.toNat = s := by show ((s : Int)).toNat = s; omega
  rw [e] at this
  show 1 ≤ (c : Int) + (0 : Nat) - 1 - t ∧ (c : Int) + (0 : Nat) - 1 - t ≤ (c : Int) + (1 : Nat) - 1 - t
  omega
end
end MP

namespace MP
open PySem PySem.Spec
theorem usort_len {l : List Int} (h : l.Nodup) : (usort l).length = l.length :=
  ((List.perm_ext_iff_of_nodup ((usort_lt l).imp fun h => by omega) h).mpr fun k => mem_usort).length_eq
section
variable {c s : Nat} {Q E : List Int} {N : List Note}
/-- a row that is an order by the notes -/
theorem orderF_of {j : J} {l : List Int} (hl : (l.length : Int) = j.m) (hr : ∀ p ∈ l, 0 ≤ p ∧ p < j.n) (nd : l.Nodup) (hc : ∀ x ∈ notedL j true, l[x.1.toNat]? = some x.2) (he : ∀ x ∈ notedL j false, x.2 ∉ l.take (x.1.toNat + 1)) : orderF j l = true := by
  unfold orderF
  simp only [Bool.and_eq_true, decide_eq_true_eq, List.all_eq_true, Bool.not_eq_true', decide_eq_false_iff_not]
  exact ⟨⟨⟨⟨hl, hr⟩, by rw [usort_len nd]; exact hl⟩, hc⟩, he⟩
theorem Tale.order (h : Tale c s Q E N) (k : Nat) : orderF (jk c s N k) Q = true := by
  refine orderF_of (by rw [h.ql]; rfl) (fun p hp => ?_) h.nd (fun x hx => (h.closed hx).2.2) fun x hx => h.op _ _ (h.ended hx).2.2
  have := h.qr p hp
  exact ⟨this.1, by show p < (c : Int) + k; omega⟩
theorem Tale.evid (h : Tale c s Q E N) (k : Nat) : evidF (jk c s N k) = .non := by
  have e1 : lostT (jk c s N k) = [] := by
    unfold lostT
    have : (notedL (jk c s N k) true).filter (fun x => decide ((spanF (jk c s N k) x.2).2 < (spanF (jk c s N k) x.2).1)) = [] := by
      rw [List.filter_eq_nil_iff]
      intro x hx
      obtain ⟨h1, h2, h3⟩ := h.closed hx
      obtain ⟨a1, a2, a3, _⟩ := h.span (k := k) h3
      simp only [decide_eq_true_eq]
      omega
    rw [this]
    rfl
  have e2 : (rng (jk c s N k).m.toNat).filter (fewF (jk c s N k)) = [] := by
    rw [List.filter_eq_nil_iff]
    intro t ht
    have e : (jk c s N k).m.toNat = s := by show ((s : Int)).toNat = s; omega
    rw [e] at ht
    have ht := mem_rng.mp ht
    unfold fewF
    simp only [decide_eq_true_eq]
    have sub : ∀ p ∈ Q.take (t.toNat + 1), p ∈ (rng (jk c s N k).n.toNat).filter fun p => decide ((spanF (jk c s N k) p).1 ≤ (spanF (jk c s N k) p).2) && decide ((spanF (jk c s N k) p).1 ≤ t) := fun p hp => by
      obtain ⟨i, hi⟩ := List.mem_iff_getElem?.mp hp
      have hil : i < (Q.take (t.toNat + 1)).length := (List.getElem?_eq_some_iff.mp hi).1
      rw [List.length_take] at hil
      rw [List.getElem?_take_of_lt (by omega)] at hi
      obtain ⟨a1, a2, a3, _⟩ := h.span (k := k) hi
      have hpr := h.qr _ (List.mem_of_getElem? hi)
      refine List.mem_filter.mpr ⟨mem_rng.mpr ⟨hpr.1, ?_⟩, ?_⟩
      · show p < ((((c : Int) + k).toNat : Nat) : Int)
        omega
      · simp only [Bool.and_eq_true, decide_eq_true_eq]
        omega
    have := nodup_sub_len (h.nd.sublist (List.take_sublist _ _)) sub
    rw [List.length_take, h.ql] at this
    unfold windF
    rw [List.filter_map, List.length_map]
    have e : (List.filter ((fun x : Lk => decide (x.1 ≤ x.2) && decide (x.1 ≤ t)) ∘ spanF (jk c s N k)) (rng (jk c s N k).n.toNat)) = (rng (jk c s N k).n.toNat).filter fun p => decide ((spanF (jk c s N k) p).1 ≤ (spanF (jk c s N k) p).2) && decide ((spanF (jk c s N k) p).1 ≤ t) := rfl
    rw [e]
    omega
  unfold evidF
  rw [e1, e2]
  rfl
theorem Tale.wind (h : Tale c s Q E N) (k : Nat) : windF (jk c s N (k + 1)) = windF (jk c s N k) ++ [(0, (s : Int) - 1)] := by
  have e1 : (jk c s N (k + 1)).n.toNat = (jk c s N k).n.toNat + 1 := by
    show ((c : Int) + (k + 1 : Nat)).toNat = ((c : Int) + k).toNat + 1
    omega
  have e2 : (((jk c s N k).n.toNat : Nat) : Int) = (c : Int) + k := by
    show ((((c : Int) + k).toNat : Nat) : Int) = _
    omega
  unfold windF
  rw [e1, rng_succ, List.map_append, e2]
  congr 1
  simp [h.span_more (k := k + 1) (p := (c : Int) + k) (by omega)]
/-! ### towns exchanged that no note names -/
/-- where a dict sends a town, itself if it does not hold it -/
def sendF (fr ys : List Int) (p : Int) : Int := (fr.zip ys).lookup p |>.getD p
/-- the towns without a note -/
def freeF (c : Nat) (N : List Note) : List Int := (rng c).filter fun p => !decide (p ∈ N.map (·.v))
end
end MP

namespace MP
open PySem PySem.Spec
/-! ### the box of a script -/
theorem sp_cell {B : Tb} {n : Nat} {S : Sto} {ns : List Int} {k : Nat} (hB : B i__law_cell_at = some q__law_cell_at) : ∃ v : Int, callN B (n + 1) i__law_cell_at [.scr ns, .int k] S = .ok (.v (.int v)) S := by
  rw [callN_eq hB]
  by_cases c : k < ns.length
  · have e : ns[k]? = some ns[k] := List.getElem?_eq_getElem c
    exact ⟨ns[k], by simp [q__law_cell_at, b__law_cell_at, callF, startE, finO, dSeqS, dSet, slOf, dRet, dRetN, dIfS, dSkip, dVar, dBVar, dMv, dC, fz, rv, dOp, dUn, dNil, dCons, dTup, dLst, dB, dAndT, dOrT, dNotT, dAnd, dOr, dNot, dIf, dIfR, dCall, dBlt, dOp2, dSeq, itemsOf, dFrz, frzE, dPar, rCons, rNil, setSls, dAug, dUnp, bindTg, bindTgs, wipeE, dYes, dChain, Res.bind, Res.map, R.val, O.toD, fIx_tup, fIx_lst, fIx_loc, fIx_scr, ixD, fGt_i, fLt_i, fLe_i, fGe_i, fSub_i, fIAdd_i, fMod, fDiv, fAdd, fPow, fEq, fNe, fIsN, fNotN, isNon, bLen, bList, bTuple, bAbs, bInt, bMax2, bMin2, dPutL, listSlot, isL, mutL, fPut, dIxL, dMut1, fApp, List.getElem?_cons_zero, List.getElem?_cons_succ, List.set_cons_zero, List.set_cons_succ, List.map_cons, List.map_nil, List.cons_append, List.nil_append, List.length_cons, List.length_nil, List.replicate, if_true, if_false, ite_true, ite_false, Bool.false_eq_true, reduceIte, decide_true, decide_false, Option.map_some, Option.bind_some, c, e]⟩
  · have c2 : ¬ ((k : Int) < ns.length) := by omega
    exact ⟨0, by simp [q__law_cell_at, b__law_cell_at, callF, startE, finO, dSeqS, dSet, slOf, dRet, dRetN, dIfS, dSkip, dVar, dBVar, dMv, dC, fz, rv, dOp, dUn, dNil, dCons, dTup, dLst, dB, dAndT, dOrT, dNotT, dAnd, dOr, dNot, dIf, dIfR, dCall, dBlt, dOp2, dSeq, itemsOf, dFrz, frzE, dPar, rCons, rNil, setSls, dAug, dUnp, bindTg, bindTgs, wipeE, dYes, dChain, Res.bind, Res.map, R.val, O.toD, fIx_tup, fIx_lst, fIx_loc, fIx_scr, ixD, fGt_i, fLt_i, fLe_i, fGe_i, fSub_i, fIAdd_i, fMod, fDiv, fAdd, fPow, fEq, fNe, fIsN, fNotN, isNon, bLen, bList, bTuple, bAbs, bInt, bMax2, bMin2, dPutL, listSlot, isL, mutL, fPut, dIxL, dMut1, fApp, List.getElem?_cons_zero, List.getElem?_cons_succ, List.set_cons_zero, List.set_cons_succ, List.map_cons, List.map_nil, List.cons_append, List.nil_append, List.length_cons, List.length_nil, List.replicate, if_true, if_false, ite_true, ite_false, Bool.false_eq_true, reduceIte, decide_true, decide_false, Option.map_some, Option.bind_some, c]⟩
theorem sp_box {B : Tb} {n : Nat} {S : Sto} {ns : List Int} {k : Nat} (hB : B i__law_cell_at = some q__law_cell_at) (hX : B i__law_box = some q__law_box) : ∃ x y : Int, 0 ≤ x ∧ callN B (n + 2) i__law_box [.scr ns, .int k] S = .ok (.o (.l [.int x, .int y, .int 0])) S := by
  obtain ⟨v, hv⟩ := sp_cell (B := B) (n := n) (S := S) (ns := ns) (k := k) hB
  have hv : callN B (n + 1) 28 [.scr ns, .int k] S = .ok (.v (.int v)) S := hv
  have m1 : ∀ i : Int, mulOk i 0 = true := fun i => mulOk_small (by decide)
  have m2 : ∀ i : Int, mulOk i 1 = true := fun i => mulOk_small (by decide)
  have m3 : ∀ i : Int, mulOk 39373 i = true := fun i => mulOk_small1 (by decide)
  rw [callN_eq hX]
  by_cases c : (1000000000000000000 : Int) ≤ (if v < 0 then -v else v)
  · refine ⟨_, _, ?_, by simp [q__law_box, b__law_box, callF, startE, finO, dSeqS, dSet, slOf, dRet, dRetN, dIfS, dSkip, dVar, dBVar, dMv, dC, fz, rv, dOp, dUn, dNil, dCons, dTup, dLst, dB, dAndT, dOrT, dNotT, dAnd, dOr, dNot, dIf, dIfR, dCall, dBlt, dOp2, dSeq, itemsOf, dFrz, frzE, dPar, rCons, rNil, setSls, dAug, dUnp, bindTg, bindTgs, wipeE, dYes, dChain, Res.bind, Res.map, R.val, O.toD, fIx_tup, fIx_lst, fIx_loc, fIx_scr, ixD, fGt_i, fLt_i, fLe_i, fGe_i, fSub_i, fIAdd_i, fMod, fDiv, fAdd, fPow, fEq, fNe, fIsN, fNotN, isNon, bLen, bList, bTuple, bAbs, bInt, bMax2, bMin2, dPutL, listSlot, isL, mutL, fPut, dIxL, dMut1, fApp, List.getElem?_cons_zero, List.getElem?_cons_succ, List.set_cons_zero, List.set_cons_succ, List.map_cons, List.map_nil, List.cons_append, List.nil_append, List.length_cons, List.length_nil, List.replicate, if_true, if_false, ite_true, ite_false, Bool.false_eq_true, reduceIte, decide_true, decide_false, Option.map_some, Option.bind_some, hv, fMul, m1, m2, m3, c]; exact ⟨rfl, rfl⟩⟩
    split <;> omega
  · exact ⟨0, _, by decide, by simp [q__law_box, b__law_box, callF, startE, finO, dSeqS, dSet, slOf, dRet, dRetN, dIfS, dSkip, dVar, dBVar, dMv, dC, fz, rv, dOp, dUn, dNil, dCons, dTup, dLst, dB, dAndT, dOrT, dNotT, dAnd, dOr, dNot, dIf, dIfR, dCall, dBlt, dOp2, dSeq, itemsOf, dFrz, frzE, dPar, rCons, rNil, setSls, dAug, dUnp, bindTg, bindTgs, wipeE, dYes, dChain, Res.bind, Res.map, R.val, O.toD, fIx_tup, fIx_lst, fIx_loc, fIx_scr, ixD, fGt_i, fLt_i, fLe_i, fGe_i, fSub_i, fIAdd_i, fMod, fDiv, fAdd, fPow, fEq, fNe, fIsN, fNotN, isNon, bLen, bList, bTuple, bAbs, bInt, bMax2, bMin2, dPutL, listSlot, isL, mutL, fPut, dIxL, dMut1, fApp, List.getElem?_cons_zero, List.getElem?_cons_succ, List.set_cons_zero, List.set_cons_succ, List.map_cons, List.map_nil, List.cons_append, List.nil_append, List.length_cons, List.length_nil, List.replicate, if_true, if_false, ite_true, ite_false, Bool.false_eq_true, reduceIte, decide_true, decide_false, Option.map_some, Option.bind_some, hv, fMul, m1, m2, m3, c]; rfl⟩
/-! ### journals as tuples -/
def jD (j : J) : D := .tup [.int j.n, .int j.m, .tup (j.N.map noteD)]
theorem jr_jD {j : J} (w : JW j) (hl : j.N.length ≤ 10000) : JR (jD j) j := by
  refine ⟨w, hl, .tup (j.N.map noteD), j.N.map noteD, .tup _, .tup _, ?_⟩
  generalize j.N = l
  induction l with
  | nil => exact .nil
  | cons x l ih => exact .cons (.tup _) ih
/-! ### dict(zip()) of ints, and get -/
theorem fit_lks (L : List Lk) : fitN 20 (.lst (L.map lkD)) = true := all_lks 18 L
theorem deqs_lks : ∀ a b : List Lk, deqs (a.map lkD) (b.map lkD) = decide (a = b)
  | [], [] => by simp [deqs]
  | [], _ :: _ => by simp [deqs]
  | _ :: _, [] => by simp [deqs]
  | x :: a, y :: b => by
    simp only [List.map_cons, deqs, deq_lk, deqs_lks a b]
    by_cases c : x = y <;> simp [c]
theorem fNe_lks (a b : List Lk) (S : Sto) : fNe (.lst (a.map lkD)) (.lst (b.map lkD)) S = .ok (.v (.bl (!decide (a = b)))) S := by
  unfold fNe
  rw [if_pos ⟨fit_lks a, fit_lks b⟩]
  show Res.ok (R.v (D.bl (!deqs (a.map lkD) (b.map lkD)))) S = _
  rw [deqs_lks]
end MP

namespace MP
open PySem PySem.Spec
/-! ### orders as a proposition -/
structure Ord (j : J) (l : List Int) : Prop where
  len : (l.length : Int) = j.m
  inr : ∀ p ∈ l, 0 ≤ p ∧ p < j.n
  nd : l.Nodup
  cl : ∀ x ∈ notedL j true, l[x.1.toNat]? = some x.2
  en : ∀ x ∈ notedL j false, x.2 ∉ l.take (x.1.toNat + 1)
theorem insU_len (x : Int) : ∀ l : List Int, (insU x l).length ≤ l.length + 1
  | [] => by simp [insU]
  | y :: l => by
    unfold insU
    split
    · simp
    · split
      · simp
      · have := insU_len x l
        simp only [List.length_cons]
        omega
theorem usort_le : ∀ l : List Int, (usort l).length ≤ l.length
  | [] => by simp [usort]
  | x :: l => by
    have := usort_le l
    have := insU_len x (usort l)
    show (insU x (usort l)).length ≤ _
    simp only [List.length_cons]
    omega
theorem usort_nodup {l : List Int} (h : (usort l).length = l.length) : l.Nodup := by
  have nu : (usort l).Nodup := (usort_lt l).imp fun h => by omega
  induction l with
  | nil => exact List.nodup_nil
  | cons x l ih =>
    have e1 := insU_len x (usort l)
    have e2 := usort_le l
    have h' : (insU x (usort l)).length = l.length + 1 := h
    have e3 : (usort l).length = l.length := by omega
    have nu' : (usort l).Nodup := (usort_lt l).imp fun h => by omega
    refine List.nodup_cons.mpr ⟨fun hx => ?_, ih e3 nu'⟩
    have sub : ∀ y ∈ usort (x :: l), y ∈ usort l := fun y hy => by
      rw [mem_usort] at hy ⊢
      rcases List.mem_cons.mp hy with rfl | hy
      · exact hx
      · exact hy
    have := nodup_sub_len nu sub
    rw [h, List.length_cons] at this
    omega
theorem orderF_iff {j : J} {l : List Int} : orderF j l = true ↔ Ord j l := by
  constructor
  · intro h
    unfold orderF at h
    simp only [Bool.and_eq_true, decide_eq_true_eq, List.all_eq_true, Bool.not_eq_true', decide_eq_false_iff_not] at h
    obtain ⟨⟨⟨⟨h1, h2⟩, h3⟩, h4⟩, h5⟩ := h
    exact ⟨h1, h2, usort_nodup (by omega), h4, h5⟩
  · intro h
    exact orderF_of h.len h.inr h.nd h.cl h.en
theorem nd_at {l : List Int} (nd : l.Nodup) {a b : Nat} {p : Int} (h1 : l[a]? = some p) (h2 : l[b]? = some p) : a = b := by
  obtain ⟨l1, g1⟩ := List.getElem?_eq_some_iff.mp h1
  obtain ⟨l2, g2⟩ := List.getElem?_eq_some_iff.mp h2
  exact (List.getElem_inj nd).mp (g1.trans g2.symm)
theorem noted_inr {j : J} (w : JW j) {k : Bool} {x : Lk} (h : x ∈ notedL j k) : 0 ≤ x.1 ∧ x.1 < j.m ∧ 0 ≤ x.2 ∧ x.2 < j.n := by
  obtain ⟨y, hy, _, rfl⟩ := mem_noted.mp h
  exact w.inr y hy
theorem noted_fun {j : J} (w : JW j) {k : Bool} {t p q : Int} (h1 : (t, p) ∈ notedL j k) (h2 : (t, q) ∈ notedL j k) : p = q := by
  have nd := notedL_nodup w k
  obtain ⟨a, ha⟩ := List.mem_iff_getElem?.mp h1
  obtain ⟨b, hb⟩ := List.mem_iff_getElem?.mp h2
  have e : a = b := by
    obtain ⟨l1, g1⟩ := List.getElem?_eq_some_iff.mp ha
    obtain ⟨l2, g2⟩ := List.getElem?_eq_some_iff.mp hb
    refine (List.getElem_inj (h₀ := by rw [List.length_map]; exact l1) (h₁ := by rw [List.length_map]; exact l2) nd).mp ?_
    rw [List.getElem_map, List.getElem_map, g1, g2]
  subst e
  rw [ha] at hb
  cases hb
  rfl
/-- the window of a town by its notes -/
theorem start_le {j : J} {p : Int} {i : Int} (h0 : 0 ≤ i) (h1 : ∀ t, (t, p) ∈ notedL j true → t ≤ i) (h2 : ∀ t, (t, p) ∈ notedL j false → t < i) : (spanF j p).1 ≤ i := by
  show maxO _ 0 ≤ i
  rcases maxO_mem (l := endL j p ++ cameL j p) (z := 0) with ⟨_, e⟩ | ⟨e, _⟩
  · omega
  · rcases List.mem_append.mp e with e | e
    · have := h2 _ (mem_endL.mp e)
      omega
    · exact h1 _ (mem_came.mp e)
theorem le_start {j : J} {p t : Int} : ((t, p) ∈ notedL j true → t ≤ (spanF j p).1) ∧ ((t, p) ∈ notedL j false → t < (spanF j p).1) := by
  have key : ∀ y ∈ endL j p ++ cameL j p, y ≤ (spanF j p).1 := fun y hy => by
    rcases maxO_mem (l := endL j p ++ cameL j p) (z := 0) with ⟨e, _⟩ | ⟨_, e⟩
    · rw [e] at hy; cases hy
    · exact e y hy
  refine ⟨fun h => key _ (List.mem_append_right _ (mem_came.mpr h)), fun h => ?_⟩
  have := key (t + 1) (List.mem_append_left _ (mem_endL.mpr (by rw [Int.add_sub_cancel]; exact h)))
  omega
theorem last_ge {j : J} {p : Int} {i : Int} (h0 : i ≤ j.m - 1) (h1 : ∀ t, (t, p) ∈ notedL j true → i ≤ t) : i ≤ (spanF j p).2 := by
  show i ≤ minO _ (j.m - 1)
  rcases minO_mem (l := cameL j p) (z := j.m - 1) with ⟨_, e⟩ | ⟨e, _⟩
  · omega
  · exact h1 _ (mem_came.mp e)
theorem last_le {j : J} {p t : Int} (h : (t, p) ∈ notedL j true) : (spanF j p).2 ≤ t := by
  show minO _ (j.m - 1) ≤ t
  rcases minO_mem (l := cameL j p) (z := j.m - 1) with ⟨e, _⟩ | ⟨_, e⟩
  · have := mem_came.mpr h
    rw [e] at this; cases this
  · exact e _ (mem_came.mpr h)
theorem start_nn {j : J} (w : JW j) {p : Int} : 0 ≤ (spanF j p).1 := by
  show 0 ≤ maxO _ 0
  rcases maxO_mem (l := endL j p ++ cameL j p) (z := 0) with ⟨_, e⟩ | ⟨e, _⟩
  · omega
  · rcases List.mem_append.mp e with e | e
    · have := (noted_inr w (mem_endL.mp e)).1
      have : (0 : Int) ≤ maxO (endL j p ++ cameL j p) 0 - 1 := this
      omega
    · exact (noted_inr w (mem_came.mp e)).1
/-- an order closes each town within its window -/
theorem Ord.within {j : J} {l : List Int} (w : JW j) (h : Ord j l) {i : Nat} {p : Int} (hp : l[i]? = some p) : (spanF j p).1 ≤ i ∧ (i : Int) ≤ (spanF j p).2 := by
  have hi : i < l.length := (List.getElem?_eq_some_iff.mp hp).1
  have hl := h.len
  have c : ∀ t, (t, p) ∈ notedL j true → t = i := fun t ht => by
    have := nd_at h.nd (h.cl _ ht) hp
    have := (noted_inr w ht).1
    have : (0 : Int) ≤ t := this
    have : t.toNat = i := by assumption
    omega
  refine ⟨start_le (by omega) (fun t ht => by have := c t ht; omega) fun t ht => ?_, last_ge (by omega) fun t ht => by have := c t ht; omega⟩
  have := (noted_inr w ht).1
  have h0 : (0 : Int) ≤ t := this
  have := h.en _ ht
  rcases Nat.lt_or_ge i (t.toNat + 1) with c | c
  · exact absurd (List.mem_of_getElem? (by rw [List.getElem?_take_of_lt c]; exact hp)) this
  · omega
theorem Ord.of {j : J} {l : List Int} (w : JW j) (hl : (l.length : Int) = j.m) (hr : ∀ p ∈ l, 0 ≤ p ∧ p < j.n) (nd : l.Nodup) (hc : ∀ x ∈ notedL j true, l[x.1.toNat]? = some x.2) (hs : ∀ (i : Nat) (p : Int), l[i]? = some p → (spanF j p).1 ≤ i) : Ord j l := by
  refine ⟨hl, hr, nd, hc, fun x hx => ?_⟩
  intro hm
  obtain ⟨i, hi⟩ := List.mem_iff_getElem?.mp hm
  have hil : i < (l.take (x.1.toNat + 1)).length := (List.getElem?_eq_some_iff.mp hi).1
  rw [List.length_take] at hil
  rw [List.getElem?_take_of_lt (by omega)] at hi
  have h1 := hs i _ hi
  have h2 := (le_start (j := j) (p := x.2) (t := x.1)).2 hx
  have := (noted_inr w hx).1
  omega
theorem Ord.sound {j : J} {l : List Int} (w : JW j) (h : Ord j l) : soundF j = true := by
  unfold soundF
  rw [List.all_eq_true]
  intro x hx
  have h1 := h.cl x hx
  obtain ⟨a, b⟩ := h.within w h1
  have c := (le_start (j := j) (p := x.2) (t := x.1)).1 hx
  have d := last_le (j := j) (p := x.2) (t := x.1) hx
  have := (noted_inr w hx).1
  simp only [decide_eq_true_eq]
  ext
  · show (spanF j x.2).1 = x.1
    omega
  · show (spanF j x.2).2 = x.1
    omega
/-! ### all rows that begin so -/
def freeT (n : Nat) (pre : List Int) : List Int := (rng n).filter fun p => !decide (p ∈ pre)
theorem mem_freeT {n : Nat} {pre : List Int} {p : Int} : p ∈ freeT n pre ↔ (0 ≤ p ∧ p < n) ∧ p ∉ pre := by
  unfold freeT
  rw [List.mem_filter, mem_rng]
  simp
def ext (n : Nat) : Nat → List Int → List (List Int)
  | 0, pre => [pre]
  | k + 1, pre => (freeT n pre).flatMap fun p => ext n k (pre ++ [p])
theorem mem_ext {n : Nat} : ∀ {k : Nat} {pre l : List Int}, pre.Nodup → (∀ p ∈ pre, 0 ≤ p ∧ p < (n : Int)) → (l ∈ ext n k pre ↔ pre <+: l ∧ l.length = pre.length + k ∧ l.Nodup ∧ ∀ p ∈ l, 0 ≤ p ∧ p < (n : Int))
  | 0, pre, l, nd, hr => by
    unfold ext
    rw [List.mem_singleton]
    constructor
    · rintro rfl
      exact ⟨List.prefix_refl _, rfl, nd, hr⟩
    · rintro ⟨h1, h2, _, _⟩
      exact (h1.eq_of_length (by omega)).symm
  | k + 1, pre, l, nd, hr => by
    unfold ext
    rw [List.mem_flatMap]
    constructor
    · rintro ⟨p, hp, hl⟩
      have hp := mem_freeT.mp hp
      have nd' : (pre ++ [p]).Nodup := by
        rw [List.nodup_append]
        exact ⟨nd, by simp, fun a ha b hb => by
          have : b = p := by simpa using hb
          intro e
          exact hp.2 (by rw [← this, ← e]; exact ha)⟩
      have hr' : ∀ q ∈ pre ++ [p], 0 ≤ q ∧ q < (n : Int) := fun q hq => by
        rcases List.mem_append.mp hq with hq | hq
        · exact hr q hq
        · have : q = p := by simpa using hq
          rw [this]
          exact hp.1
      obtain ⟨h1, h2, h3, h4⟩ := (mem_ext nd' hr').mp hl
      exact ⟨(List.prefix_append _ _).trans h1, by rw [h2, List.length_append]; simp; omega, h3, h4⟩
    · rintro ⟨⟨t, rfl⟩, h2, h3, h4⟩
      cases t with
      | nil => simp at h2
      | cons p t =>
        have hp : p ∈ freeT n pre := mem_freeT.mpr ⟨h4 p (by simp), fun z => (List.nodup_append.mp h3).2.2 p z p (by simp) rfl⟩
        refine ⟨p, hp, ?_⟩
        have e : pre ++ p :: t = pre ++ [p] ++ t := by simp
        have nd' : (pre ++ [p]).Nodup := (e ▸ h3 : (pre ++ [p] ++ t).Nodup).sublist (List.sublist_append_left _ _)
        have hr' : ∀ q ∈ pre ++ [p], 0 ≤ q ∧ q < (n : Int) := fun q hq => h4 q (by rw [e]; exact List.mem_append_left _ hq)
        refine (mem_ext nd' hr').mpr ⟨⟨t, e.symm⟩, ?_, h3, h4⟩
        rw [h2, List.length_append]
        simp
        omega
/-- the orders that begin so, ascending -/
def blk (j : J) (pre : List Int) : List (List Int) := (ext j.n.toNat (j.m.toNat - pre.length) pre).filter (orderF j)
theorem blk_step {j : J} {pre : List Int} (h : pre.length < j.m.toNat) : blk j pre = (freeT j.n.toNat pre).flatMap fun p => blk j (pre ++ [p]) := by
  unfold blk
  have e : j.m.toNat - pre.length = (j.m.toNat - (pre.length + 1)) + 1 := by omega
  rw [e]
  conv => lhs; unfold ext
  rw [List.filter_flatMap]
  congr 1
  funext p
  rw [List.length_append]
  rfl
theorem mem_blk {j : J} (w : JW j) {pre l : List Int} (nd : pre.Nodup) (hr : ∀ p ∈ pre, 0 ≤ p ∧ p < j.n) (hl : pre.length ≤ j.m.toNat) : l ∈ blk j pre ↔ pre <+: l ∧ Ord j l := by
  have wn := w.n0
  have wm := w.m0
  have e : ((j.n.toNat : Nat) : Int) = j.n := by omega
  unfold blk
  rw [List.mem_filter, mem_ext nd (by rw [e]; exact hr), orderF_iff, e]
  constructor
  · rintro ⟨⟨h1, _⟩, h2⟩
    exact ⟨h1, h2⟩
  · rintro ⟨h1, h2⟩
    have := h2.len
    exact ⟨⟨h1, by omega, h2.nd, h2.inr⟩, h2⟩
/-! ### a fine beginning -/
structure Fine (j : J) (pre : List Int) : Prop where
  len : pre.length ≤ j.m.toNat
  inr : ∀ p ∈ pre, 0 ≤ p ∧ p < j.n
  nd : pre.Nodup
  cl : ∀ x ∈ notedL j true, x.1 < pre.length → pre[x.1.toNat]? = some x.2
  st : ∀ (i : Nat) (p : Int), pre[i]? = some p → (spanF j p).1 ≤ i
theorem pre_at {pre l : List Int} (h : pre <+: l) {i : Nat} (hi : i < pre.length) : l[i]? = pre[i]? := by
  obtain ⟨t, rfl⟩ := h
  rw [List.getElem?_append_left hi]
theorem Ord.fine {j : J} (w : JW j) {pre l : List Int} (h : Ord j l) (hp : pre <+: l) : Fine j pre := by
  have hl := hp.length_le
  have := h.len
  refine ⟨by omega, fun p hm => h.inr p (hp.subset hm), h.nd.sublist hp.sublist, fun x hx hlt => ?_, fun i p hi => ?_⟩
  · have := (noted_inr w hx).1
    rw [← pre_at hp (by omega)]
    exact h.cl x hx
  · have : i < pre.length := (List.getElem?_eq_some_iff.mp hi).1
    rw [← pre_at hp this] at hi
    exact (h.within w hi).1
theorem Fine.ord {j : J} (w : JW j) {l : List Int} (h : Fine j l) (hl : l.length = j.m.toNat) : Ord j l := by
  have := w.m0
  refine Ord.of w (by omega) h.inr h.nd (fun x hx => h.cl x hx ?_) h.st
  have := (noted_inr w hx).2.1
  omega
end MP

namespace MP
open PySem PySem.Spec
theorem sound_at {j : J} (s : soundF j = true) {t p : Int} (h : (t, p) ∈ notedL j true) : spanF j p = (t, t) := by
  unfold soundF at s
  rw [List.all_eq_true] at s
  simpa using s _ h
theorem mem_times {j : J} {k : Bool} {t : Int} : t ∈ timesF j k ↔ ∃ p, (t, p) ∈ notedL j k := by
  unfold timesF
  rw [List.mem_map]
  constructor
  · rintro ⟨x, hx, rfl⟩
    exact ⟨x.2, hx⟩
  · rintro ⟨p, hp⟩
    exact ⟨_, hp, rfl⟩
theorem mem_towns {j : J} {p : Int} : p ∈ townsF j ↔ ∃ t, (t, p) ∈ notedL j true := by
  unfold townsF
  rw [List.mem_map]
  constructor
  · rintro ⟨x, hx, rfl⟩
    exact ⟨x.1, hx⟩
  · rintro ⟨t, ht⟩
    exact ⟨_, ht, rfl⟩
theorem len_part {α : Type} (p : α → Bool) : ∀ l : List α, l.length = (l.filter p).length + (l.filter fun x => !p x).length
  | [] => rfl
  | x :: l => by
    have ih := len_part p l
    cases h : p x with
    | true =>
      rw [List.filter_cons_of_pos h, List.filter_cons_of_neg (by simp [h]), List.length_cons, List.length_cons]
      omega
    | false =>
      rw [List.filter_cons_of_neg (by simp [h]), List.filter_cons_of_pos (by simp [h]), List.length_cons, List.length_cons]
      omega
theorem perm_len {a b : List Int} (ha : a.Nodup) (hb : b.Nodup) (h : ∀ x, x ∈ a ↔ x ∈ b) : a.length = b.length := ((List.perm_ext_iff_of_nodup ha hb).mpr h).length_eq
theorem sum_ind {α : Type} (f : α → Nat) (q : α → Bool) (c : Nat) : ∀ l : List α, (∀ x ∈ l, f x = if q x = true then c else 0) → (l.map f).sum = (l.filter q).length * c
  | [], _ => by simp
  | x :: l, h => by
    have ih := sum_ind f q c l fun y hy => h y (List.mem_cons_of_mem _ hy)
    have hx := h x List.mem_cons_self
    rw [List.map_cons, List.sum_cons, ih, hx]
    cases hq : q x with
    | true => rw [List.filter_cons_of_pos hq, List.length_cons, if_pos rfl, Nat.add_mul, Nat.one_mul, Nat.add_comm]
    | false => rw [List.filter_cons_of_neg (by simp [hq])]; simp
section
variable {j : J}
/-- a town may come next -/
theorem Fine.snoc_iff {pre : List Int} (w : JW j) (s : soundF j = true) (f : Fine j pre) (hl : pre.length < j.m.toNat) {p : Int} (hp : p ∈ freeT j.n.toNat pre) :
    Fine j (pre ++ [p]) ↔ (∀ q, ((pre.length : Int), q) ∈ notedL j true → q = p) ∧ (spanF j p).1 ≤ pre.length := by
  have wn := w.n0
  obtain ⟨hp1, hp2⟩ := mem_freeT.mp hp
  constructor
  · intro h
    refine ⟨fun q hq => ?_, h.st pre.length p (by simp)⟩
    have := h.cl _ hq (by simp; omega)
    simpa using this.symm
  · rintro ⟨h1, h2⟩
    refine ⟨by simp; omega, fun q hq => ?_, ?_, fun x hx hlt => ?_, fun i q hi => ?_⟩
    · rcases List.mem_append.mp hq with hq | hq
      · exact f.inr q hq
      · have : q = p := by simpa using hq
        omega
    · rw [List.nodup_append]
      exact ⟨f.nd, by simp, fun a ha b hb => by
        have : b = p := by simpa using hb
        intro e
        exact hp2 (by rw [← this, ← e]; exact ha)⟩
    · have h0 := (noted_inr w hx).1
      rw [List.length_append] at hlt
      simp at hlt
      rcases Nat.lt_or_ge x.1.toNat pre.length with c | c
      · rw [List.getElem?_append_left c]
        exact f.cl x hx (by omega)
      · have e : x.1.toNat = pre.length := by omega
        rw [e, List.getElem?_append_right (Nat.le_refl _)]
        have e2 : x = ((pre.length : Int), x.2) := by ext <;> simp; omega
        rw [h1 x.2 (e2 ▸ hx)]
        simp
    · rcases Nat.lt_or_ge i pre.length with c | c
      · rw [List.getElem?_append_left c] at hi
        exact f.st i q hi
      · have hil := (List.getElem?_eq_some_iff.mp hi).1
        rw [List.length_append] at hil
        simp at hil
        have e : i = pre.length := by omega
        subst e
        rw [List.getElem?_append_right (Nat.le_refl _)] at hi
        have hi : p = q := by simpa using hi
        rw [← hi]
        exact h2
theorem blk_nil {pre : List Int} (w : JW j) (nd : pre.Nodup) (hr : ∀ p ∈ pre, 0 ≤ p ∧ p < j.n) (hl : pre.length ≤ j.m.toNat) (h : ¬ Fine j pre) : blk j pre = [] := by
  rw [List.eq_nil_iff_forall_not_mem]
  intro l hm
  obtain ⟨h1, h2⟩ := (mem_blk w nd hr hl).mp hm
  exact h (h2.fine w h1)
/-- the free towns that a fine beginning has closed are as many as its free times -/
theorem Fine.used {pre : List Int} (w : JW j) (s : soundF j = true) (f : Fine j pre) : (pre.filter fun p => !decide (p ∈ townsF j)).length = (frT pre.length (timesF j true)).length := by
  have e : pre = (rng pre.length).map fun t => pre.getD t.toNat 0 := by
    refine List.ext_getElem (by rw [List.length_map, rng_len]) fun i h1 h2 => ?_
    rw [List.getElem_map]
    have hi : i < (rng pre.length).length := by rw [rng_len]; exact h1
    obtain ⟨_, e⟩ := rng_succ_get (List.getElem?_eq_getElem hi)
    rw [e]
    simp [List.getD_eq_getElem?_getD, List.getElem?_eq_getElem h1]
  conv => lhs; rw [e]
  rw [List.filter_map, List.length_map]
  unfold frT
  congr 1
  refine List.filter_congr fun t ht => ?_
  have ht := mem_rng.mp ht
  have hp : pre[t.toNat]? = some (pre.getD t.toNat 0) := by
    rw [List.getD_eq_getElem?_getD, List.getElem?_eq_getElem (by omega)]
    rfl
  show (!decide (pre.getD t.toNat 0 ∈ townsF j)) = !decide (t ∈ timesF j true)
  generalize pre.getD t.toNat 0 = p at hp
  have iff : p ∈ townsF j ↔ t ∈ timesF j true := by
    rw [mem_towns, mem_times]
    constructor
    · rintro ⟨t', h⟩
      have h0 := (noted_inr w h).1
      have h0 : (0 : Int) ≤ t' := h0
      rcases Int.lt_or_le t' pre.length with c | c
      · have := nd_at f.nd (f.cl _ h c) hp
        have : t'.toNat = t.toNat := this
        have : t' = t := by omega
        exact ⟨p, this ▸ h⟩
      · have h1 := f.st _ _ hp
        rw [sound_at s h] at h1
        have : t' ≤ (t.toNat : Int) := h1
        omega
    · rintro ⟨q, h⟩
      have := f.cl _ h (by show t < _; omega)
      have : pre[t.toNat]? = some q := this
      rw [hp] at this
      cases this
      exact ⟨t, h⟩
  by_cases c : t ∈ timesF j true
  · rw [decide_eq_true c, decide_eq_true (iff.mpr c)]
  · rw [decide_eq_false c, decide_eq_false fun z => c (iff.mp z)]
theorem frT_succ (n : Nat) (tk : List Int) : frT (n + 1) tk = frT n tk ++ (if (n : Int) ∈ tk then [] else [(n : Int)]) := by
  unfold frT
  rw [rng_succ, List.filter_append]
  congr 1
  by_cases c : (n : Int) ∈ tk
  · simp [c]
  · simp [c]
/-- how many towns may come next -/
theorem Fine.next {pre : List Int} (w : JW j) (s : soundF j = true) (f : Fine j pre) (hl : pre.length < j.m.toNat) [DecidablePred (Fine j)] :
    (((freeT j.n.toNat pre).filter fun p => decide (Fine j (pre ++ [p]))).length : Int) = if (pre.length : Int) ∈ timesF j true then 1 else cntLe (startsF j) pre.length - (frT pre.length (timesF j true)).length := by
  have wn := w.n0
  split
  · rename_i c
    obtain ⟨v, hv⟩ := mem_times.mp c
    have sv := sound_at s hv
    have rv := noted_inr w hv
    have hvp : v ∉ pre := fun z => by
      obtain ⟨i, hi⟩ := List.mem_iff_getElem?.mp z
      have h1 := f.st i v hi
      rw [sv] at h1
      have hi := (List.getElem?_eq_some_iff.mp hi).1
      have : (pre.length : Int) ≤ i := h1
      omega
    have := perm_len (a := (freeT j.n.toNat pre).filter fun p => decide (Fine j (pre ++ [p]))) (b := [v]) (((rng_nodup _).sublist List.filter_sublist).sublist List.filter_sublist) (by simp) fun p => by
      rw [List.mem_filter, List.mem_singleton, decide_eq_true_eq]
      constructor
      · rintro ⟨h1, h2⟩
        exact (((f.snoc_iff w s hl h1).mp h2).1 v hv).symm
      · rintro rfl
        have hm : p ∈ freeT j.n.toNat pre := mem_freeT.mpr ⟨⟨rv.2.2.1, by have := rv.2.2.2; simp at this; omega⟩, hvp⟩
        refine ⟨hm, (f.snoc_iff w s hl hm).mpr ⟨fun q hq => noted_fun w hq hv, ?_⟩⟩
        rw [sv]
        exact Int.le_refl _
    rw [this]
    rfl
  · rename_i c
    have nt : ∀ q, ((pre.length : Int), q) ∉ notedL j true := fun q hq => c (mem_times.mpr ⟨q, hq⟩)
    have e1 : cntLe (startsF j) pre.length = (((rng j.n.toNat).filter fun p => !decide (p ∈ townsF j) && decide ((spanF j p).1 ≤ pre.length)).length : Int) := by
      unfold cntLe startsF
      rw [List.filter_map, List.length_map, List.filter_filter]
      congr 3
      funext p
      exact Bool.and_comm _ _
    have e2 := len_part (fun p => !decide (p ∈ pre)) ((rng j.n.toNat).filter fun p => !decide (p ∈ townsF j) && decide ((spanF j p).1 ≤ pre.length))
    have e3 := perm_len (a := (freeT j.n.toNat pre).filter fun p => decide (Fine j (pre ++ [p]))) (b := ((rng j.n.toNat).filter fun p => !decide (p ∈ townsF j) && decide ((spanF j p).1 ≤ pre.length)).filter fun p => !decide (p ∈ pre)) (((rng_nodup _).sublist List.filter_sublist).sublist List.filter_sublist) (((rng_nodup _).sublist List.filter_sublist).sublist List.filter_sublist) fun p => by
      simp only [List.mem_filter, mem_freeT, mem_rng, decide_eq_true_eq, Bool.and_eq_true, Bool.not_eq_true', decide_eq_false_iff_not]
      constructor
      · rintro ⟨⟨h1, h2⟩, h3⟩
        obtain ⟨h4, h5⟩ := (f.snoc_iff w s hl (mem_freeT.mpr ⟨h1, h2⟩)).mp h3
        refine ⟨⟨h1, fun z => ?_, h5⟩, h2⟩
        obtain ⟨t, ht⟩ := mem_towns.mp z
        have st := sound_at s ht
        have h0 := (noted_inr w ht).1
        have h0 : (0 : Int) ≤ t := h0
        rw [st] at h5
        have h5 : t ≤ pre.length := h5
        rcases Int.lt_or_le t pre.length with k | k
        · exact h2 (List.mem_of_getElem? (f.cl _ ht k))
        · have : t = pre.length := by omega
          exact nt p (this ▸ ht)
      · rintro ⟨⟨h1, h2, h3⟩, h4⟩
        exact ⟨⟨h1, h4⟩, (f.snoc_iff w s hl (mem_freeT.mpr ⟨h1, h4⟩)).mpr ⟨fun q hq => absurd hq (nt q), h3⟩⟩
    have e4 := perm_len (a := ((rng j.n.toNat).filter fun p => !decide (p ∈ townsF j) && decide ((spanF j p).1 ≤ pre.length)).filter fun p => !!decide (p ∈ pre)) (b := pre.filter fun p => !decide (p ∈ townsF j)) (((rng_nodup _).sublist List.filter_sublist).sublist List.filter_sublist) (f.nd.sublist List.filter_sublist) fun p => by
      simp only [List.mem_filter, mem_rng, decide_eq_true_eq, Bool.and_eq_true, Bool.not_eq_true', decide_eq_false_iff_not, Bool.not_not]
      constructor
      · rintro ⟨⟨h1, h2, h3⟩, h4⟩
        exact ⟨h4, h2⟩
      · rintro ⟨h1, h2⟩
        have := f.inr p h1
        obtain ⟨i, hi⟩ := List.mem_iff_getElem?.mp h1
        have h3 := f.st i p hi
        have hi := (List.getElem?_eq_some_iff.mp hi).1
        exact ⟨⟨by omega, h2, by omega⟩, h1⟩
    rw [f.used w s] at e4
    rw [e4] at e2
    rw [e3, e1]
    omega
/-- free times from i on, k of them looked at -/
def frF (tk : List Int) : Nat → Nat → List Int
  | _, 0 => []
  | i, k + 1 => if (i : Int) ∈ tk then frF tk (i + 1) k else (i : Int) :: frF tk (i + 1) k
theorem frF_succ (tk : List Int) (i k : Nat) : frF tk i (k + 1) = if (i : Int) ∈ tk then frF tk (i + 1) k else (i : Int) :: frF tk (i + 1) k := rfl
theorem frF_eq (tk : List Int) : ∀ (k i : Nat), frT (i + k) tk = frT i tk ++ frF tk i k
  | 0, i => by simp [frF]
  | k + 1, i => by
    have := frF_eq tk k (i + 1)
    rw [show i + (k + 1) = i + 1 + k by omega, this, frT_succ, List.append_assoc]
    congr 1
    rw [frF_succ]
    split <;> simp
open Classical in
theorem count_fine (w : JW j) (s : soundF j = true) : ∀ (k : Nat) (pre : List Int), Fine j pre → pre.length + k = j.m.toNat → ((blk j pre).length : Int) = prodK (startsF j) 0 ((frT pre.length (timesF j true)).length : Int) (frF (timesF j true) pre.length k)
  | 0, pre, f, hl => by
    have : blk j pre = [pre] := by
      unfold blk
      rw [show j.m.toNat - pre.length = 0 by omega]
      unfold ext
      rw [List.filter_cons_of_pos (orderF_iff.mpr (f.ord w (by omega)))]
      rfl
    rw [this]
    rfl
  | k + 1, pre, f, hl => by
    have wn := w.n0
    rw [blk_step (by omega), List.length_flatMap]
    have key : ∀ p ∈ freeT j.n.toNat pre, (blk j (pre ++ [p])).length = if decide (Fine j (pre ++ [p])) = true then (prodK (startsF j) 0 ((frT (pre.length + 1) (timesF j true)).length : Int) (frF (timesF j true) (pre.length + 1) k)).toNat else 0 := fun p hp => by
      obtain ⟨hp1, hp2⟩ := mem_freeT.mp hp
      by_cases c : Fine j (pre ++ [p])
      · rw [if_pos (by simpa using c)]
        have := count_fine w s k (pre ++ [p]) c (by simp; omega)
        rw [List.length_append] at this
        have this : ((blk j (pre ++ [p])).length : Int) = prodK (startsF j) 0 ((frT (pre.length + 1) (timesF j true)).length : Int) (frF (timesF j true) (pre.length + 1) k) := this
        omega
      · rw [if_neg (by simpa using c), blk_nil w ?_ ?_ (by simp; omega) c]
        · rfl
        · rw [List.nodup_append]
          exact ⟨f.nd, by simp, fun a ha b hb => by
            have : b = p := by simpa using hb
            intro e
            exact hp2 (by rw [← this, ← e]; exact ha)⟩
        · intro q hq
          rcases List.mem_append.mp hq with hq | hq
          · exact f.inr q hq
          · have : q = p := by simpa using hq
            omega
    rw [sum_ind _ _ _ _ key]
    have nx := f.next w s (by omega)
    generalize hfl : (List.filter (fun p => decide (Fine j (pre ++ [p]))) (freeT j.n.toNat pre)) = fl at nx ⊢
    have hpos : 0 ≤ prodK (startsF j) 0 ((frT (pre.length + 1) (timesF j true)).length : Int) (frF (timesF j true) (pre.length + 1) k) ∨ fl = [] := by
      cases fl with
      | nil => exact .inr rfl
      | cons p t =>
        left
        have hm : p ∈ List.filter (fun p => decide (Fine j (pre ++ [p]))) (freeT j.n.toNat pre) := by rw [hfl]; exact List.mem_cons_self
        obtain ⟨h1, h2⟩ := List.mem_filter.mp hm
        have h2 : Fine j (pre ++ [p]) := by simpa using h2
        have := count_fine w s k (pre ++ [p]) h2 (by simp; omega)
        rw [List.length_append] at this
        have this : ((blk j (pre ++ [p])).length : Int) = prodK (startsF j) 0 ((frT (pre.length + 1) (timesF j true)).length : Int) (frF (timesF j true) (pre.length + 1) k) := this
        omega
    have eq : ((fl.length * (prodK (startsF j) 0 ((frT (pre.length + 1) (timesF j true)).length : Int) (frF (timesF j true) (pre.length + 1) k)).toNat : Nat) : Int) = (fl.length : Int) * prodK (startsF j) 0 ((frT (pre.length + 1) (timesF j true)).length : Int) (frF (timesF j true) (pre.length + 1) k) := by
      rcases hpos with h | h
      · rw [Int.natCast_mul]
        congr 1
        omega
      · rw [h]
        simp
    rw [eq, nx, frF_succ, frT_succ]
    split
    · rw [List.append_nil, Int.one_mul]
    · rename_i c
      rw [List.length_append]
      show _ = pos0 (cntLe (startsF j) pre.length + 0 - (frT pre.length (timesF j true)).length) * prodK (startsF j) 0 ((frT pre.length (timesF j true)).length + 1) _
      rw [if_neg c] at nx
      congr 1
      unfold pos0
      split <;> omega
theorem count_eq (w : JW j) : countF j = ((blk j []).length : Int) := by
  have wm := w.m0
  unfold countF
  split
  · rename_i s
    have f0 : Fine j [] := ⟨by simp, fun p hp => (by cases hp), List.nodup_nil, fun x hx hlt => by have := (noted_inr w hx).1; simp at hlt; omega, fun i p hi => by simp at hi⟩
    rw [count_fine w s j.m.toNat [] f0 (by simp), fold_prod]
    show 1 * prodK _ 0 0 (frT j.m.toNat (timesF j true)) = _
    rw [Int.one_mul]
    have := frF_eq (timesF j true) j.m.toNat 0
    rw [Nat.zero_add] at this
    rw [this]
    rfl
  · rename_i s
    have : blk j [] = [] := by
      rw [List.eq_nil_iff_forall_not_mem]
      intro l hm
      obtain ⟨_, h2⟩ := (mem_blk w List.nodup_nil (fun p hp => by cases hp) (by simp)).mp hm
      exact s (h2.sound w)
    rw [this]
    rfl
end
end MP

namespace MP
open PySem PySem.Spec
/-! ### rows ascend -/
def lexLt : List Int → List Int → Bool
  | [], [] => false
  | [], _ :: _ => true
  | _ :: _, [] => false
  | a :: as, b :: bs => if a = b then lexLt as bs else decide (a < b)
theorem lexLt_irr : ∀ l : List Int, lexLt l l = false
  | [] => rfl
  | a :: l => by simp [lexLt, lexLt_irr l]
theorem lexLt_app {a b : Int} (h : a < b) : ∀ (pre x y : List Int), lexLt (pre ++ a :: x) (pre ++ b :: y) = true
  | [], x, y => by simp [lexLt, Int.ne_of_lt h, h]
  | c :: pre, x, y => by simp [lexLt, lexLt_app h pre x y]
theorem ext_pre {n : Nat} : ∀ {k : Nat} {pre l : List Int}, l ∈ ext n k pre → pre <+: l
  | 0, pre, l, h => by
    unfold ext at h
    rw [List.mem_singleton] at h
    rw [h]
    exact List.prefix_refl _
  | k + 1, pre, l, h => by
    unfold ext at h
    obtain ⟨p, _, hl⟩ := List.mem_flatMap.mp h
    exact (List.prefix_append _ _).trans (ext_pre hl)
theorem rng_lt (n : Nat) : (rng n).Pairwise (· < ·) := by
  unfold rng
  rw [List.pairwise_map]
  exact List.pairwise_lt_range.imp fun h => by omega
theorem ext_lt {n : Nat} : ∀ (k : Nat) (pre : List Int), (ext n k pre).Pairwise fun a b => lexLt a b = true
  | 0, pre => by unfold ext; simp
  | k + 1, pre => by
    unfold ext
    rw [List.pairwise_flatMap]
    refine ⟨fun p _ => ext_lt k _, ?_⟩
    refine ((rng_lt n).sublist List.filter_sublist).imp fun {a b} hab x hx y hy => ?_
    obtain ⟨t, rfl⟩ := ext_pre hx
    obtain ⟨u, rfl⟩ := ext_pre hy
    rw [List.append_assoc, List.append_assoc]
    exact lexLt_app hab pre t u
theorem blk_lt (j : J) (pre : List Int) : (blk j pre).Pairwise fun a b => lexLt a b = true := (ext_lt _ _).sublist List.filter_sublist
theorem blk_nodup (j : J) (pre : List Int) : (blk j pre).Nodup := (blk_lt j pre).imp fun {a b} h e => by
  rw [e, lexLt_irr] at h
  cases h
theorem perm_lenL {α : Type} [DecidableEq α] {a b : List α} (ha : a.Nodup) (hb : b.Nodup) (h : ∀ x, x ∈ a ↔ x ∈ b) : a.length = b.length := ((List.perm_ext_iff_of_nodup ha hb).mpr h).length_eq
/-! ### other journals with the same notes -/
/-- a journal whose orders are told -/
theorem count_of {j : J} (w : JW j) {ls : List (List Int)} (nd : ls.Nodup) (h : ∀ l, l ∈ ls ↔ Ord j l) : countF j = (ls.length : Int) := by
  rw [count_eq w, perm_lenL (blk_nodup j []) nd fun l => by
    rw [h, mem_blk w List.nodup_nil (fun p hp => by cases hp) (by simp)]
    exact ⟨fun z => z.2, fun z => ⟨List.nil_prefix, z⟩⟩]
/-! ### notes of a beginning -/
def enumN : Nat → List Int → List Note
  | _, [] => []
  | i, p :: l => ⟨i, true, p⟩ :: enumN (i + 1) l
theorem mem_enumN : ∀ {l : List Int} {i : Nat} {x : Note}, x ∈ enumN i l ↔ x.k = true ∧ (i : Int) ≤ x.t ∧ l[(x.t - i).toNat]? = some x.v
  | [], i, x => by simp [enumN]
  | p :: l, i, x => by
    unfold enumN
    rw [List.mem_cons, mem_enumN (l := l) (i := i + 1) (x := x)]
    constructor
    · rintro (rfl | ⟨h1, h2, h3⟩)
      · simp
      · refine ⟨h1, by omega, ?_⟩
        rw [show (x.t - i).toNat = (x.t - (i + 1 : Nat)).toNat + 1 by omega]
        exact h3
    · rintro ⟨h1, h2, h3⟩
      by_cases c : x.t = i
      · left
        rw [c] at h3
        simp at h3
        cases x
        simp_all
      · right
        refine ⟨h1, by omega, ?_⟩
        rw [show (x.t - i).toNat = (x.t - (i + 1 : Nat)).toNat + 1 by omega] at h3
        exact h3
theorem enumN_so : ∀ (l : List Int) (i : Nat), (enumN i l).Pairwise fun x y => x.t < y.t
  | [], i => .nil
  | p :: l, i => by
    refine .cons (fun y hy => ?_) (enumN_so l (i + 1))
    have := (mem_enumN.mp hy).2.1
    show (i : Int) < y.t
    omega
/-- the journal that also notes a beginning -/
structure Begun (j : J) (pre : List Int) (b : J) : Prop where
  n : b.n = j.n
  m : b.m = j.m
  N : b.N.Perm ((j.N.filter fun x => x.k == false || decide ((pre.length : Int) ≤ x.t)) ++ enumN 0 pre)
theorem Begun.mem {j b : J} {pre : List Int} (h : Begun j pre b) {x : Note} : x ∈ b.N ↔ (x ∈ j.N ∧ (x.k = false ∨ (pre.length : Int) ≤ x.t)) ∨ (x.k = true ∧ 0 ≤ x.t ∧ pre[x.t.toNat]? = some x.v) := by
  rw [h.N.mem_iff, List.mem_append, List.mem_filter, mem_enumN]
  simp
theorem Begun.jw {j b : J} {pre : List Int} (h : Begun j pre b) (w : JW j) (hr : ∀ p ∈ pre, 0 ≤ p ∧ p < j.n) (hl : pre.length ≤ j.m.toNat) : JW b := by
  have := w.m0
  refine ⟨by rw [h.n]; exact w.n0, by rw [h.n]; exact w.n1, by rw [h.m]; exact w.m0, by rw [h.m]; exact w.m1, fun x hx => ?_, ?_⟩
  · rw [h.n, h.m]
    rcases h.mem.mp hx with ⟨h1, _⟩ | ⟨h1, h2, h3⟩
    · exact w.inr x h1
    · have := (List.getElem?_eq_some_iff.mp h3).1
      have := hr _ (List.mem_of_getElem? h3)
      exact ⟨h2, by omega, this.1, this.2⟩
  · refine (h.N.pairwise_iff fun {x y} z => ?_).mpr ?_
    · rintro ⟨e1, e2⟩
      exact z ⟨e1.symm, e2.symm⟩
    · rw [List.pairwise_append]
      refine ⟨w.so.sublist List.filter_sublist, (enumN_so pre 0).imp fun {x y} z e => by omega, fun x hx y hy => ?_⟩
      rintro ⟨e1, e2⟩
      obtain ⟨h1, h2, h3⟩ := mem_enumN.mp hy
      have h4 := (List.mem_filter.mp hx).2
      rw [e2, h1] at h4
      simp at h4
      have := (List.getElem?_eq_some_iff.mp h3).1
      simp at this
      omega
theorem Begun.ord {j b : J} {pre l : List Int} (h : Begun j pre b) (w : JW j) (ag : ∀ x ∈ notedL j true, x.1 < pre.length → pre[x.1.toNat]? = some x.2) : Ord b l ↔ pre.length ≤ l.length ∧ pre <+: l ∧ Ord j l := by
  have cn : ∀ x : Lk, x ∈ notedL b true ↔ (x ∈ notedL j true ∧ (pre.length : Int) ≤ x.1) ∨ (0 ≤ x.1 ∧ pre[x.1.toNat]? = some x.2) := fun x => by
    rw [mem_noted, mem_noted]
    constructor
    · rintro ⟨y, h1, h2, rfl⟩
      rcases h.mem.mp h1 with ⟨h3, h4⟩ | ⟨_, h4, h5⟩
      · rcases h4 with h4 | h4
        · rw [h2] at h4; cases h4
        · exact .inl ⟨⟨y, h3, h2, rfl⟩, h4⟩
      · exact .inr ⟨h4, h5⟩
    · rintro (⟨⟨y, h1, h2, rfl⟩, h3⟩ | ⟨h1, h2⟩)
      · exact ⟨y, h.mem.mpr (.inl ⟨h1, .inr h3⟩), h2, rfl⟩
      · exact ⟨⟨x.1, true, x.2⟩, h.mem.mpr (.inr ⟨rfl, h1, h2⟩), rfl, rfl⟩
  have en : ∀ x : Lk, x ∈ notedL b false ↔ x ∈ notedL j false := fun x => by
    rw [mem_noted, mem_noted]
    constructor
    · rintro ⟨y, h1, h2, rfl⟩
      rcases h.mem.mp h1 with ⟨h3, h4⟩ | ⟨h3, _⟩
      · exact ⟨y, h3, h2, rfl⟩
      · rw [h2] at h3; cases h3
    · rintro ⟨y, h1, h2, rfl⟩
      exact ⟨y, h.mem.mpr (.inl ⟨h1, .inl h2⟩), h2, rfl⟩
  constructor
  · intro o
    have hp : ∀ (i : Nat) (p : Int), pre[i]? = some p → l[i]? = some p := fun i p hi => by
      have := o.cl ((i : Int), p) ((cn _).mpr (.inr ⟨by simp, by simpa using hi⟩))
      simpa using this
    have hpl : pre.length ≤ l.length := by
      rcases Nat.lt_or_ge l.length pre.length with c | c
      · have := hp l.length pre[l.length] (List.getElem?_eq_getElem c)
        rw [List.getElem?_eq_none (Nat.le_refl _)] at this
        cases this
      · exact c
    have hpre : pre <+: l := by
      refine ⟨l.drop pre.length, ?_⟩
      have : pre = l.take pre.length := by
        refine List.ext_getElem? fun i => ?_
        rcases Nat.lt_or_ge i pre.length with c | c
        · rw [List.getElem?_take_of_lt c, hp i pre[i] (List.getElem?_eq_getElem c)]
          exact List.getElem?_eq_getElem c
        · rw [List.getElem?_eq_none c, List.getElem?_eq_none (by rw [List.length_take]; omega)]
      conv => lhs; lhs; rw [this]
      exact List.take_append_drop _ _
    refine ⟨hpl, hpre, ⟨by rw [← h.m]; exact o.len, by rw [← h.n]; exact o.inr, o.nd, fun x hx => ?_, fun x hx => o.en x ((en x).mpr hx)⟩⟩
    rcases Int.lt_or_le x.1 pre.length with c | c
    · exact hp _ _ (ag x hx c)
    · exact o.cl x ((cn x).mpr (.inl ⟨hx, c⟩))
  · rintro ⟨_, hpre, o⟩
    refine ⟨by rw [h.m]; exact o.len, by rw [h.n]; exact o.inr, o.nd, fun x hx => ?_, fun x hx => o.en x ((en x).mp hx)⟩
    rcases (cn x).mp hx with ⟨h1, _⟩ | ⟨h1, h2⟩
    · exact o.cl x h1
    · rw [pre_at hpre (List.getElem?_eq_some_iff.mp h2).1]
      exact h2
def agreeF (j : J) (pre : List Int) : Bool := (notedL j true).all fun x => decide ((pre.length : Int) ≤ x.1) || decide (pre[x.1.toNat]? = some x.2)
def cntA (j : J) (pre : List Int) : Int := ((blk j pre).length : Int)
/-! ### the next towns -/
def nextF (j : J) (pre : List Int) : List Lk := ((freeT j.n.toNat pre).map fun p => (p, cntA j (pre ++ [p]))).filter fun x => decide (0 < x.2)
def pick : List Lk → Int → Option Lk
  | [], _ => none
  | (p, c) :: t, r => if r < c then some (p, r) else pick t (r - c)
/-! ### numbers -/
def belowF (j : J) (pre : List Int) (p : Int) : Int := (((nextF j pre).filter fun x => decide (x.1 < p)).map (·.2)).sum
/-- the number of a row, up to a time -/
def numTo (j : J) (l : List Int) : Nat → Int
  | 0 => 0
  | i + 1 => numTo j l i + belowF j (l.take i) (l.getD i 0)
end MP

namespace MP
open PySem PySem.Spec
/-! ### begun -/
def noteLe (a b : Note) : Bool := dle (noteD a) (noteD b)
def sortN (l : List Note) : List Note := l.mergeSort noteLe
theorem sortN_perm (l : List Note) : (sortN l).Perm l := List.mergeSort_perm _ _
def begunF (j : J) (pre : List Int) : J := ⟨j.n, j.m, sortN ((j.N.filter fun x => x.k == false || decide ((pre.length : Int) ≤ x.t)) ++ enumN 0 pre)⟩
/-! ### count_after -/
structure Lb (B : Tb) : Prop where
  noted : B i_noted = some q_noted
  span : B i_span = some q_span
  sound : B i_is_sound = some q_is_sound
  count : B i_count_orders = some q_count_orders
  plain : B i_plain = some q_plain
  begun : B i_begun = some q_begun
  after : B i_count_after = some q_count_after
  next : B i_next_counts = some q_next_counts
/-- the same without next_counts -/
structure Lz (B : Tb) : Prop where
  noted : B i_noted = some q_noted
  span : B i_span = some q_span
  sound : B i_is_sound = some q_is_sound
  count : B i_count_orders = some q_count_orders
  plain : B i_plain = some q_plain
  begun : B i_begun = some q_begun
  after : B i_count_after = some q_count_after
theorem Lb.z {B : Tb} (L : Lb B) : Lz B := ⟨L.noted, L.span, L.sound, L.count, L.plain, L.begun, L.after⟩
instance lbz {B : Tb} : Coe (Lb B) (Lz B) := ⟨Lb.z⟩
/-- a journal that the numbers' defs can take -/
structure JK (d : D) (j : J) : Prop where
  r : JR d j
  s : j.N.length ≤ 5000
/-! ### next_counts -/
theorem freeT_len (n : Nat) (pre : List Int) : (freeT n pre).length ≤ n := by
  have := List.length_filter_le (fun p => !decide (p ∈ pre)) (rng n)
  rw [rng_len] at this
  exact this
end MP

namespace MP
open PySem PySem.Spec
/-! ### misfit, look_order -/
theorem Ord.after {j : J} (w : JW j) {l : List Int} (h : Ord j l) (i : Nat) : (l.take i).Nodup ∧ (∀ p ∈ l.take i, 0 ≤ p ∧ p < j.n) ∧ (l.take i).length ≤ j.m.toNat ∧ 0 < cntA j (l.take i) := by
  have hl := h.len
  have a1 : (l.take i).Nodup := h.nd.sublist (List.take_sublist _ _)
  have a2 : ∀ p ∈ l.take i, 0 ≤ p ∧ p < j.n := fun p hp => h.inr p ((List.take_sublist _ _).subset hp)
  have a3 : (l.take i).length ≤ j.m.toNat := by rw [List.length_take]; omega
  refine ⟨a1, a2, a3, ?_⟩
  have := List.length_pos_of_mem ((mem_blk w a1 a2 a3).mpr ⟨List.take_prefix i l, h⟩)
  unfold cntA
  omega
/-! ### number_of -/
def enumL (l : List Int) : List Lk := (enumN 0 l).map fun x => (x.t, x.v)
/-! ### first_order -/
end MP

namespace MP
open PySem PySem.Spec
/-! ### orders by their notes -/
def truB (l : List Int) (x : Note) : Bool := if x.k = true then decide (l[x.t.toNat]? = some x.v) else !decide (x.v ∈ l.take (x.t.toNat + 1))
structure Row (n m : Int) (l : List Int) : Prop where
  len : (l.length : Int) = m
  inr : ∀ p ∈ l, 0 ≤ p ∧ p < n
  nd : l.Nodup
theorem ord_iff {j : J} {l : List Int} : Ord j l ↔ Row j.n j.m l ∧ ∀ x ∈ j.N, truB l x = true := by
  constructor
  · intro h
    refine ⟨⟨h.len, h.inr, h.nd⟩, fun x hx => ?_⟩
    unfold truB
    by_cases c : x.k = true
    · rw [if_pos c]
      exact decide_eq_true (h.cl (x.t, x.v) (mem_noted.mpr ⟨x, hx, c, rfl⟩))
    · rw [if_neg c]
      have := h.en (x.t, x.v) (mem_noted.mpr ⟨x, hx, by simpa using c, rfl⟩)
      simpa using this
  · rintro ⟨r, h⟩
    refine ⟨r.len, r.inr, r.nd, fun y hy => ?_, fun y hy => ?_⟩
    · obtain ⟨x, hx, hk, rfl⟩ := mem_noted.mp hy
      have := h x hx
      unfold truB at this
      rw [if_pos hk] at this
      simpa using this
    · obtain ⟨x, hx, hk, rfl⟩ := mem_noted.mp hy
      have := h x hx
      unfold truB at this
      rw [if_neg (by simp [hk])] at this
      simpa using this
/-- all rows of so many different towns, ascending -/
def rowsL (n m : Int) : List (List Int) := ext n.toNat m.toNat []
theorem mem_rows {n m : Int} (h0 : 0 ≤ n) (hm : 0 ≤ m) {l : List Int} : l ∈ rowsL n m ↔ Row n m l := by
  unfold rowsL
  rw [mem_ext List.nodup_nil (fun p hp => (nomatch hp))]
  constructor
  · rintro ⟨_, h2, h3, h4⟩
    simp at h2
    exact ⟨by omega, fun p hp => by have := h4 p hp; omega, h3⟩
  · rintro ⟨h1, h2, h3⟩
    exact ⟨List.nil_prefix, by simp; omega, h3, fun p hp => by have := h2 p hp; omega⟩
theorem rows_lt (n m : Int) : (rowsL n m).Pairwise fun a b => lexLt a b = true := ext_lt _ _
theorem rows_nodup (n m : Int) : (rowsL n m).Nodup := (rows_lt n m).imp fun {a b} h e => by
  subst e
  rw [lexLt_irr] at h
  cases h
def ordsL (j : J) : List (List Int) := (rowsL j.n j.m).filter fun l => j.N.all (truB l)
theorem mem_ords {j : J} (w : JW j) {l : List Int} : l ∈ ordsL j ↔ Ord j l := by
  unfold ordsL
  rw [List.mem_filter, mem_rows w.n0 w.m0, ord_iff, List.all_eq_true]
theorem ords_nodup (j : J) : (ordsL j).Nodup := (rows_nodup _ _).sublist List.filter_sublist
theorem count_ords {j : J} (w : JW j) : countF j = ((ordsL j).length : Int) := count_of w (ords_nodup j) fun _ => mem_ords w
theorem filter_congr' {α : Type} {p q : α → Bool} : ∀ {l : List α}, (∀ x ∈ l, p x = q x) → l.filter p = l.filter q
  | [], _ => rfl
  | x :: l, h => by
    rw [List.filter_cons, List.filter_cons, h x List.mem_cons_self, filter_congr' fun y hy => h y (List.mem_cons_of_mem _ hy)]
theorem bool_iff {a b : Bool} (h : a = true ↔ b = true) : a = b := by
  cases a <;> cases b <;> simp_all
/-! ### sums -/
/-! ### one note more -/
structure Add (j : J) (x : Note) (j' : J) : Prop where
  n : j'.n = j.n
  m : j'.m = j.m
  N : j'.N.Perm (x :: j.N)
theorem Add.mem {j j' : J} {x : Note} (a : Add j x j') {y : Note} : y ∈ j'.N ↔ y = x ∨ y ∈ j.N := by rw [a.N.mem_iff, List.mem_cons]
theorem Add.ords {j j' : J} {x : Note} (a : Add j x j') : ordsL j' = (ordsL j).filter fun l => truB l x := by
  unfold ordsL
  rw [a.n, a.m, List.filter_filter]
  refine filter_congr' fun l _ => bool_iff ?_
  rw [List.all_eq_true, Bool.and_eq_true, List.all_eq_true]
  constructor
  · intro h
    exact ⟨h x (a.mem.mpr (.inl rfl)), fun y hy => h y (a.mem.mpr (.inr hy))⟩
  · rintro ⟨h1, h2⟩ y hy
    rcases a.mem.mp hy with rfl | hy
    · exact h1
    · exact h2 y hy
/-- room for a note -/
structure Fits (j : J) (x : Note) : Prop where
  t0 : 0 ≤ x.t
  t1 : x.t < j.m
  v0 : 0 ≤ x.v
  v1 : x.v < j.n
  no : ∀ y ∈ j.N, ¬ (y.t = x.t ∧ y.k = x.k)
theorem Add.jw {j j' : J} {x : Note} (a : Add j x j') (w : JW j) (f : Fits j x) : JW j' := by
  refine ⟨by rw [a.n]; exact w.n0, by rw [a.n]; exact w.n1, by rw [a.m]; exact w.m0, by rw [a.m]; exact w.m1, fun y hy => ?_, ?_⟩
  · rw [a.n, a.m]
    rcases a.mem.mp hy with rfl | hy
    · exact ⟨f.t0, f.t1, f.v0, f.v1⟩
    · exact w.inr y hy
  · refine (a.N.pairwise_iff fun {x y} z => ?_).mpr ?_
    · rintro ⟨e1, e2⟩
      exact z ⟨e1.symm, e2.symm⟩
    · refine List.pairwise_cons.mpr ⟨fun y hy e => f.no y hy ⟨e.1.symm, e.2.symm⟩, w.so⟩
theorem Add.jw' {j j' : J} {x : Note} (a : Add j x j') (w : JW j') : JW j ∧ Fits j x := by
  have so := (a.N.pairwise_iff (R := fun x y : Note => ¬ (x.t = y.t ∧ x.k = y.k)) fun {x y} z => by
    rintro ⟨e1, e2⟩
    exact z ⟨e1.symm, e2.symm⟩).mp w.so
  have so := List.pairwise_cons.mp so
  have := w.inr x (a.mem.mpr (.inl rfl))
  rw [a.n, a.m] at this
  refine ⟨⟨by rw [← a.n]; exact w.n0, by rw [← a.n]; exact w.n1, by rw [← a.m]; exact w.m0, by rw [← a.m]; exact w.m1, fun y hy => ?_, so.2⟩, ⟨this.1, this.2.1, this.2.2.1, this.2.2.2, fun y hy e => so.1 y hy ⟨e.1.symm, e.2.symm⟩⟩⟩
  have := w.inr y (a.mem.mpr (.inr hy))
  rw [a.n, a.m] at this
  exact this
theorem Add.ord {j j' : J} {x : Note} (a : Add j x j') {l : List Int} : Ord j' l ↔ Ord j l ∧ truB l x = true := by
  rw [ord_iff, ord_iff, a.n, a.m]
  constructor
  · rintro ⟨h1, h2⟩
    exact ⟨⟨h1, fun y hy => h2 y (a.mem.mpr (.inr hy))⟩, h2 x (a.mem.mpr (.inl rfl))⟩
  · rintro ⟨⟨h1, h2⟩, h3⟩
    refine ⟨h1, fun y hy => ?_⟩
    rcases a.mem.mp hy with rfl | hy
    · exact h3
    · exact h2 y hy
theorem Add.count {j j' : J} {x : Note} (a : Add j x j') (w : JW j') : countF j' = (((ordsL j).filter fun l => truB l x).length : Int) := by rw [count_ords w, a.ords]
theorem Add.count_le {j j' : J} {x : Note} (a : Add j x j') (w : JW j') : countF j' ≤ countF j := by
  rw [a.count w, count_ords (a.jw' w).1]
  have := List.length_filter_le (fun l => truB l x) (ordsL j)
  omega
theorem filter_not_len {n : Nat} {q : List Int} (nd : q.Nodup) (hq : ∀ p ∈ q, 0 ≤ p ∧ p < (n : Int)) : ((rng n).filter fun v => !decide (v ∈ q)).length + q.length = n := by
  have h1 := len_split (fun v => decide (v ∈ q)) (rng n)
  rw [rng_len] at h1
  have h2 : ((rng n).filter fun v => decide (v ∈ q)).length = q.length := perm_len ((rng_nodup n).sublist List.filter_sublist) nd fun x => by
    rw [List.mem_filter, mem_rng, decide_eq_true_eq]
    exact ⟨fun h => h.2, fun h => ⟨hq x h, h⟩⟩
  omega
/-! ### lost ends -/
theorem Add.times {j j' : J} {x : Note} (a : Add j x j') (k : Bool) (s : Int) : s ∈ timesF j' k ↔ (x.k = k ∧ s = x.t) ∨ s ∈ timesF j k := by
  rw [mem_times, mem_times]
  constructor
  · rintro ⟨p, hp⟩
    obtain ⟨y, hy, hk, e⟩ := mem_noted.mp hp
    cases e
    rcases a.mem.mp hy with rfl | hy
    · exact .inl ⟨hk, rfl⟩
    · exact .inr ⟨y.v, mem_noted.mpr ⟨y, hy, hk, rfl⟩⟩
  · rintro (⟨h1, rfl⟩ | ⟨p, hp⟩)
    · exact ⟨x.v, mem_noted.mpr ⟨x, a.mem.mpr (.inl rfl), h1, rfl⟩⟩
    · obtain ⟨y, hy, hk, e⟩ := mem_noted.mp hp
      exact ⟨p, mem_noted.mpr ⟨y, a.mem.mpr (.inr hy), hk, e⟩⟩
end MP

namespace MP
open PySem PySem.Spec
/-! ### an order, or evidence -/
/-! ### windows with one note more -/
theorem Add.noted {j j' : J} {x : Note} (a : Add j x j') (k : Bool) (y : Lk) : y ∈ notedL j' k ↔ (x.k = k ∧ y = (x.t, x.v)) ∨ y ∈ notedL j k := by
  rw [mem_noted, mem_noted]
  constructor
  · rintro ⟨z, hz, hk, e⟩
    rcases a.mem.mp hz with rfl | hz
    · exact .inl ⟨hk, e⟩
    · exact .inr ⟨z, hz, hk, e⟩
  · rintro (⟨h1, h2⟩ | ⟨z, hz, hk, e⟩)
    · exact ⟨x, a.mem.mpr (.inl rfl), h1, h2⟩
    · exact ⟨z, a.mem.mpr (.inr hz), hk, e⟩
theorem Add.span {j j' : J} {x : Note} (a : Add j x j') (w : JW j') (p : Int) : (spanF j p).1 ≤ (spanF j' p).1 ∧ (spanF j' p).2 ≤ (spanF j p).2 := by
  obtain ⟨w0, f⟩ := a.jw' w
  constructor
  · refine start_le (start_nn w) (fun t ht => le_start.1 ((a.noted true _).mpr (.inr ht))) fun t ht => le_start.2 ((a.noted false _).mpr (.inr ht))
  · refine last_ge ?_ fun t ht => last_le ((a.noted true _).mpr (.inr ht))
    rw [← a.m]
    show minO _ _ ≤ _
    rcases minO_mem (l := cameL j' p) (z := j'.m - 1) with ⟨_, e⟩ | ⟨e, _⟩
    · omega
    · have := (noted_inr w (mem_came.mp e)).2.1
      have : minO (cameL j' p) (j'.m - 1) < j'.m := this
      omega
end MP

namespace MP
open PySem PySem.Spec
/-! ### evaluation, more -/
section
variable (env : Envm) (S : Sto)
theorem ev_isB (a b : Bool) : fIsN (.bl a) (.bl b) S = .ok (.v (.bl (decide (a = b)))) S := rfl
theorem ev_notB (a b : Bool) : fNotN (.bl a) (.bl b) S = .ok (.v (.bl (!decide (a = b)))) S := rfl
def lenSetR : D → Sto → Res R := fun d S1 => match seqInts d with
  | some ns => if ns.length ≤ 1000 then .ok (.v (.int (usort ns).length)) S1 else .bad
  | none => .bad
theorem ev_dLenSet (de : DE) : dLenSet de env S = (de env S).bind lenSetR := rfl
end
end MP

namespace MP
open PySem PySem.Spec
/-! ### tuples of numbers compared -/
theorem blt_ii (i j : Int) : PyProof.Rows.itemOrd.blt (.inl i) (.inl j) = decide (i < j) := rfl
theorem lexR_cons (x y : Int ⊕ List Nat) (r t : List (Int ⊕ List Nat)) : PyProof.Rows.lexLt PyProof.Rows.itemOrd (x :: r) (y :: t) = (PyProof.Rows.itemOrd.blt x y || (!PyProof.Rows.itemOrd.blt y x && PyProof.Rows.lexLt PyProof.Rows.itemOrd r t)) := PyProof.Rows.lex_cons (O := PyProof.Rows.itemOrd) x y r t
theorem lt_toks : ∀ a b : List Int, PyProof.Rows.lexLt PyProof.Rows.itemOrd (PySem.W.keyToksAll (toPys (a.map D.int))) (PySem.W.keyToksAll (toPys (b.map D.int))) = lexLt a b
  | [], [] => rfl
  | [], y :: b => by
    show PyProof.Rows.lexLt PyProof.Rows.itemOrd [.inl 0] (.inl 1 :: _) = _
    rw [lexR_cons, blt_ii]
    rfl
  | x :: a, [] => by
    show PyProof.Rows.lexLt PyProof.Rows.itemOrd (.inl 1 :: _) [.inl 0] = _
    rw [lexR_cons, blt_ii, blt_ii]
    rfl
  | x :: a, y :: b => by
    show PyProof.Rows.lexLt PyProof.Rows.itemOrd (.inl 1 :: (.inl x :: PySem.W.keyToksAll (toPys (a.map D.int)))) (.inl 1 :: (.inl y :: PySem.W.keyToksAll (toPys (b.map D.int)))) = _
    rw [lexR_cons, blt_ii, lexR_cons, blt_ii, blt_ii, lt_toks a b]
    show (decide ((1 : Int) < 1) || (!decide ((1 : Int) < 1) && (decide (x < y) || (!decide (y < x) && lexLt a b)))) = if x = y then lexLt a b else decide (x < y)
    by_cases h2 : x = y
    · subst h2
      simp
    · by_cases h1 : x < y
      · simp [h1, h2]
      · have : y < x := by omega
        simp [h1, h2, this]
section
variable (a b : List Int) (S : Sto)
end
/-! ### all ends noted -/
def endN : Nat → List Int → List Note
  | _, [] => []
  | i, e :: l => ⟨i, false, e⟩ :: endN (i + 1) l
def jE (c : Nat) (E : List Int) : J := ⟨c, E.length, endN 0 E⟩
section
variable {c : Nat} {E : List Int}
/-- the open towns less those still to come -/
def facE (c : Nat) (E : List Int) (t : Nat) : Int := (c : Int) - t - ((usort (E.drop t)).length : Int)
def dueTo (c : Nat) (E : List Int) : Nat → Int
  | 0 => 1
  | i + 1 => dueTo c E i * facE c E i
end
end MP

namespace MP
open PySem PySem.Spec
/-! ### closings, whatever the links' order -/
theorem mates_perm {L L' : List Lk} (h : L.Perm L') (p : Int) : (mates L p).Perm (mates L' p) := (h.filter _).map _
theorem mates_len {L L' : List Lk} (h : L.Perm L') (p : Int) : (mates L p).length = (mates L' p).length := (mates_perm h p).length_eq
theorem mates_one {L L' : List Lk} {p e : Int} (h : L.Perm L') (a : mates L p = [e]) : mates L' p = [e] := by
  have := mates_perm h p
  rw [a] at this
  exact List.perm_singleton.mp this.symm
theorem Shut.perm : ∀ {Q E : List Int} {L L' : List Lk}, L.Perm L' → Shut L Q E → Shut L' Q E
  | _, _, _, _, _, .nil _ => .nil _
  | _, _, _, _, h, .cons a b => .cons (mates_one h a) (b.perm (h.filter _))
/-- the links between the towns of two rows -/
def pqs (Q E : List Int) : List Lk := (Q.zip E).map fun x => lkOf x.1 x.2
theorem pqs_cons (q e : Int) (Q E : List Int) : pqs (q :: Q) (e :: E) = lkOf q e :: pqs Q E := rfl
theorem touch_lk (p x y : Int) : touch p (lkOf x y) = true ↔ x = p ∨ y = p := by
  unfold touch lkOf
  split <;> simp [or_comm]
theorem other_lk (x y : Int) : other x (lkOf x y) = y := by
  unfold other lkOf
  split
  · simp
  · by_cases h : y = x
    · rw [if_pos h]; exact h.symm
    · rw [if_neg h]
theorem one_link {L : List Lk} {q e : Int} (h : mates L q = [e]) : ∃ l, L.filter (touch q) = [l] ∧ other q l = e ∧ l ∈ L ∧ touch q l = true := by
  unfold mates at h
  obtain ⟨l, h1, h2⟩ := List.map_eq_singleton_iff.mp h
  have hm : l ∈ L.filter (touch q) := by rw [h1]; exact List.mem_singleton_self l
  obtain ⟨h3, h4⟩ := List.mem_filter.mp hm
  exact ⟨l, h1, h2, h3, h4⟩
/-! ### two leaves -/
theorem mates_self (L : List Lk) (v : Int) : mates (cutL L v) v = [] := by
  unfold mates cutL
  rw [List.filter_filter]
  have : (L.filter fun l => touch v l && !touch v l) = [] := List.filter_eq_nil_iff.mpr fun l _ => by cases touch v l <;> simp
  rw [this]
  rfl
theorem mates_cut {L : List Lk} {v u a : Int} (h : mates L v = [u]) (hu : a ≠ u) (hv : a ≠ v) : mates (cutL L v) a = mates L a := by
  unfold mates cutL
  rw [List.filter_filter]
  congr 1
  refine filter_congr' fun l hl => ?_
  cases ht : touch a l with
  | false => simp
  | true =>
    cases hw : touch v l with
    | false => rfl
    | true =>
      exfalso
      obtain ⟨l', h1, h2, _⟩ := one_link h
      have hm : l ∈ L.filter (touch v) := List.mem_filter.mpr ⟨hl, hw⟩
      rw [h1] at hm
      have e := List.mem_singleton.mp hm
      subst e
      simp [touch] at ht hw
      unfold other at h2
      split at h2 <;> omega
theorem Wood.two {c : Int} : ∀ (n : Nat) {L : List Lk}, L.length = n → Wood c L → L ≠ [] → ∃ u v : Int, u ≠ v ∧ (0 ≤ u ∧ u < c) ∧ (0 ≤ v ∧ v < c) ∧ (mates L u).length = 1 ∧ (mates L v).length = 1
  | 0, L, hl, _, hne => absurd (List.length_eq_zero_iff.mp hl) hne
  | n + 1, L, hl, w, hne => by
    obtain ⟨v, v0, v1, hv⟩ := w.leaf hne
    obtain ⟨u, hu⟩ := one_of hv
    obtain ⟨l, g1, g2, g3, g4⟩ := one_link hu
    have r := w.inr l g3
    have uv : u ≠ v ∧ 0 ≤ u ∧ u < c ∧ touch u l = true ∧ other u l = v := by
      simp [touch] at g4 ⊢
      unfold other at g2 ⊢
      split at g2 <;> split <;> omega
    by_cases z : cutL L v = []
    · have hc := cut_len hv
      rw [z] at hc
      obtain ⟨x, hx⟩ := one_of (l := L) (by simpa using hc.symm)
      subst hx
      have e := List.mem_singleton.mp g3
      subst e
      refine ⟨u, v, uv.1, ⟨uv.2.1, uv.2.2.1⟩, ⟨v0, v1⟩, ?_, hv⟩
      unfold mates
      rw [List.length_map, List.filter_cons_of_pos uv.2.2.2.1]
      rfl
    · obtain ⟨a, b, ab, a0, b0, la, lb⟩ := Wood.two n (L := cutL L v) (by have := cut_len hv; omega) (w.sub List.filter_sublist) z
      have nv : ∀ x, (mates (cutL L v) x).length = 1 → x ≠ v := fun x hx e => by
        subst e
        rw [mates_self] at hx
        cases hx
      by_cases au : a = u
      · have bu : b ≠ u := fun e => ab (au.trans e.symm)
        exact ⟨b, v, nv b lb, b0, ⟨v0, v1⟩, by rw [← mates_cut hu bu (nv b lb)]; exact lb, hv⟩
      · exact ⟨a, v, nv a la, a0, ⟨v0, v1⟩, by rw [← mates_cut hu au (nv a la)]; exact la, hv⟩
/-! ### always the least leaf -/
inductive MinS (c : Int) : List Lk → List Int → List Int → Prop
  | nil (L : List Lk) : MinS c L [] []
  | cons {L : List Lk} {q e : Int} {Q E : List Int} : mates L q = [e] → (0 ≤ q ∧ q < c) → (∀ p, 0 ≤ p → p < c → (mates L p).length = 1 → q ≤ p) → MinS c (cutL L q) Q E → MinS c L (q :: Q) (e :: E)
theorem MinS.shut {c : Int} : ∀ {Q E : List Int} {L : List Lk}, MinS c L Q E → Shut L Q E
  | _, _, _, .nil _ => .nil _
  | _, _, _, .cons a _ _ d => .cons a d.shut
theorem MinS.inr {c : Int} : ∀ {Q E : List Int} {L : List Lk}, MinS c L Q E → ∀ q ∈ Q, 0 ≤ q ∧ q < c
  | _, _, _, .nil _, q, h => by cases h
  | _, _, _, .cons _ b _ d, q, h => by
    rcases List.mem_cons.mp h with rfl | h
    · exact b
    · exact d.inr q h
theorem MinS.perm {c : Int} : ∀ {Q E : List Int} {L L' : List Lk}, L.Perm L' → MinS c L Q E → MinS c L' Q E
  | _, _, _, _, _, .nil _ => .nil _
  | _, _, _, _, h, .cons a b k d => .cons (mates_one h a) b (fun p h0 h1 h2 => k p h0 h1 (by rw [mates_len h]; exact h2)) (d.perm (h.filter _))
theorem MinS.lt {c : Int} : ∀ {Q E : List Int} {L : List Lk}, Wood c L → MinS c L Q E → ∀ q ∈ Q, q < c - 1
  | _, _, _, _, .nil _, q, h => by cases h
  | _, _, L, w, @MinS.cons _ _ q0 e0 _ _ a b k d, q, h => by
    rcases List.mem_cons.mp h with rfl | h
    · have hne : L ≠ [] := fun e => by rw [e] at a; cases a
      obtain ⟨u, v, uv, u0, v0, lu, lv⟩ := Wood.two L.length rfl w hne
      have := k u u0.1 u0.2 lu
      have := k v v0.1 v0.2 lv
      omega
    · exact d.lt (w.sub List.filter_sublist) q h
theorem MinS.least {c : Int} : ∀ {Q E Q2 E2 : List Int} {L : List Lk}, MinS c L Q E → Shut L Q2 E2 → (∀ q ∈ Q2, 0 ≤ q ∧ q < c) → lexLt Q2 Q = true → Q2.length < Q.length
  | _, _, _, _, _, .nil _, s, _, h => by cases s <;> cases h
  | _, _, _, _, _, .cons a b k d, .nil _, hr, h => by simp
  | _, _, _, _, L, @MinS.cons _ _ q e Q E a b k d, @Shut.cons _ q2 e2 Q2 E2 a2 s2, hr, h => by
    have r := hr q2 List.mem_cons_self
    have m := k q2 r.1 r.2 (by rw [a2]; rfl)
    unfold lexLt at h
    split at h
    · rename_i eq
      subst eq
      have := d.least s2 (fun x hx => hr x (List.mem_cons_of_mem _ hx)) h
      simp only [List.length_cons]
      omega
    · have := of_decide_eq_true h
      omega
def lvs (c : Nat) (L : List Lk) : List Int := (rng c).filter fun v => decide (((mates L v).length : Int) = 1)
def lcR (c : Nat) : Nat → List Lk → List Int
  | 0, _ => []
  | k + 1, L => (lvs c L).headD 0 :: lcR c k (cutL L ((lvs c L).headD 0))
theorem mem_lvs {c : Nat} {L : List Lk} {v : Int} : v ∈ lvs c L ↔ (0 ≤ v ∧ v < c) ∧ (mates L v).length = 1 := by
  unfold lvs
  rw [List.mem_filter, mem_rng, decide_eq_true_eq]
  constructor
  · rintro ⟨a, b⟩; exact ⟨a, by omega⟩
  · rintro ⟨a, b⟩; exact ⟨a, by omega⟩
theorem lvs_head {c : Nat} {L : List Lk} {x : Int} {r : List Int} (h : lvs c L = x :: r) : ∀ p, p ∈ lvs c L → x ≤ p := by
  intro p hp
  have so : (lvs c L).Pairwise (· < ·) := (rng_lt c).sublist List.filter_sublist
  rw [h] at so hp
  rcases List.mem_cons.mp hp with rfl | hp
  · exact Int.le_refl _
  · exact Int.le_of_lt ((List.pairwise_cons.mp so).1 p hp)
theorem MinS.lc {c : Nat} : ∀ {Q E : List Int} {L : List Lk}, MinS c L Q E → lcR c Q.length L = Q
  | _, _, _, .nil _ => rfl
  | _, _, L, @MinS.cons _ _ q e Q E a b k d => by
    have hm : q ∈ lvs c L := mem_lvs.mpr ⟨b, by rw [a]; rfl⟩
    match h : lvs c L, hm with
    | x :: r, _ =>
      have hx : x ∈ lvs c L := by rw [h]; exact List.mem_cons_self
      obtain ⟨g1, g2⟩ := mem_lvs.mp hx
      have e1 : x = q := Int.le_antisymm (lvs_head h q (mem_lvs.mpr ⟨b, by rw [a]; rfl⟩)) (k x g1.1 g1.2 g2)
      subst e1
      show lcR c (Q.length + 1) L = _
      unfold lcR
      rw [h]
      show x :: lcR c Q.length (cutL L x) = _
      rw [d.lc]
/-! ### orders of a journal of all ends -/
inductive Av (c : Int) : List Int → List Int → List Int → Prop
  | nil (U : List Int) : Av c U [] []
  | cons {U : List Int} {q e : Int} {Q E : List Int} : (0 ≤ q ∧ q < c) → q ∉ U → q ∉ e :: E → Av c (q :: U) Q E → Av c U (q :: Q) (e :: E)
theorem Av.len {c : Int} : ∀ {U Q E : List Int}, Av c U Q E → Q.length = E.length
  | _, _, _, .nil _ => rfl
  | _, _, _, .cons _ _ _ d => by simp [d.len]
theorem Av.mem {c : Int} : ∀ {U Q E : List Int}, Av c U Q E → ∀ q ∈ Q, (0 ≤ q ∧ q < c) ∧ q ∉ U
  | _, _, _, .nil _, q, h => by cases h
  | _, _, _, .cons a b _ d, q, h => by
    rcases List.mem_cons.mp h with rfl | h
    · exact ⟨a, b⟩
    · obtain ⟨h1, h2⟩ := d.mem q h
      exact ⟨h1, fun z => h2 (List.mem_cons_of_mem _ z)⟩
theorem Av.nd {c : Int} : ∀ {U Q E : List Int}, Av c U Q E → Q.Nodup
  | _, _, _, .nil _ => List.nodup_nil
  | _, _, _, .cons _ _ _ d => List.nodup_cons.mpr ⟨fun h => (d.mem _ h).2 List.mem_cons_self, d.nd⟩
theorem Av.op {c : Int} : ∀ {U Q E : List Int}, Av c U Q E → ∀ (i : Nat) (e : Int), E[i]? = some e → e ∉ Q.take (i + 1)
  | _, _, _, .nil _, i, e, h => by simp at h
  | _, _, _, @Av.cons _ U q e0 Q E a b k d, i, e, h => by
    rw [List.take_succ_cons]
    intro hm
    cases i with
    | zero =>
      have h : some e0 = some e := h
      cases h
      rcases List.mem_cons.mp hm with z | z
      · exact k (by rw [z]; exact List.mem_cons_self)
      · rw [List.take_zero] at z; cases z
    | succ i =>
      have h : E[i]? = some e := h
      rcases List.mem_cons.mp hm with z | z
      · exact k (by rw [← z]; exact List.mem_cons_of_mem _ (List.mem_of_getElem? h))
      · exact d.op i e h z
theorem miss {c : Nat} (W : List Int) (h : W.length < c) : ∃ q : Int, (0 ≤ q ∧ q < c) ∧ q ∉ W := by
  obtain ⟨j, h1, h2⟩ := L2.st_missing (W.map Int.toNat) c (by rw [List.length_map]; exact h)
  exact ⟨(j : Int), by omega, fun hm => h2 (List.mem_map.mpr ⟨_, hm, Int.toNat_natCast j⟩)⟩
theorem Av.ex {c : Nat} : ∀ (E U : List Int), U.length + E.length < c → ∃ Q, Av c U Q E
  | [], U, _ => ⟨[], .nil U⟩
  | e :: E, U, h => by
    obtain ⟨q, h1, h2⟩ := miss (U ++ e :: E) (by rw [List.length_append]; exact h)
    rw [List.mem_append, not_or] at h2
    obtain ⟨Q, hQ⟩ := Av.ex (c := c) E (q :: U) (by simp at h ⊢; omega)
    exact ⟨q :: Q, .cons h1 h2.1 h2.2 hQ⟩
theorem too_many {c : Nat} {W : List Int} (nd : W.Nodup) (hr : ∀ p ∈ W, 0 ≤ p ∧ p < (c : Int)) : W.length ≤ c := by
  have := filter_not_len nd hr
  omega
/-! ### the links of an order with its ends -/
theorem pqs_none {p : Int} : ∀ {Q E : List Int}, p ∉ Q → p ∉ E → (pqs Q E).filter (touch p) = []
  | [], _, _, _ => rfl
  | _ :: _, [], _, _ => rfl
  | q :: Q, e :: E, h1, h2 => by
    rw [pqs_cons, List.filter_cons_of_neg (by rw [touch_lk]; rintro (z | z); exact h1 (by rw [z]; exact List.mem_cons_self); exact h2 (by rw [z]; exact List.mem_cons_self))]
    exact pqs_none (fun z => h1 (List.mem_cons_of_mem _ z)) fun z => h2 (List.mem_cons_of_mem _ z)
theorem pqs_cut {p : Int} {Q E : List Int} (h1 : p ∉ Q) (h2 : p ∉ E) : cutL (pqs Q E) p = pqs Q E := by
  unfold cutL
  refine List.filter_eq_self.mpr fun l hl => ?_
  have := List.filter_eq_nil_iff.mp (pqs_none h1 h2) l hl
  simpa using this
theorem Av.head {c : Int} {U Q E : List Int} {q e : Int} (h1 : q ∉ e :: E) (d : Av c (q :: U) Q E) : mates (pqs (q :: Q) (e :: E)) q = [e] ∧ cutL (pqs (q :: Q) (e :: E)) q = pqs Q E := by
  have hQ : q ∉ Q := fun z => (d.mem q z).2 List.mem_cons_self
  have hE : q ∉ E := fun z => h1 (List.mem_cons_of_mem _ z)
  have ht : touch q (lkOf q e) = true := (touch_lk _ _ _).mpr (.inl rfl)
  constructor
  · unfold mates
    rw [pqs_cons, List.filter_cons_of_pos ht, pqs_none hQ hE, List.map_cons, other_lk]
    rfl
  · unfold cutL
    rw [pqs_cons, List.filter_cons_of_neg (by rw [ht]; decide)]
    exact pqs_cut hQ hE
theorem Av.shut {c : Int} : ∀ {U Q E : List Int}, Av c U Q E → Shut (pqs Q E) Q E
  | _, _, _, .nil _ => .nil _
  | _, _, _, @Av.cons _ U q e Q E a b k d => by
    obtain ⟨h1, h2⟩ := Av.head k d
    refine .cons h1 ?_
    rw [h2]
    exact d.shut
/-- a town that is not yet closed and is no end more is a leaf -/
theorem Av.leaf {c : Int} {p : Int} : ∀ {U Q E : List Int}, Av c U Q E → p ∈ Q → p ∉ E → (mates (pqs Q E) p).length = 1
  | _, _, _, .nil _, h, _ => by cases h
  | _, _, _, @Av.cons _ U q e Q E a b k d, h, hE => by
    by_cases z : p = q
    · subst z
      rw [(Av.head k d).1]
      rfl
    · have hp : p ∈ Q := (List.mem_cons.mp h).resolve_left z
      have ih := d.leaf hp fun x => hE (List.mem_cons_of_mem _ x)
      have nt : ¬ touch p (lkOf q e) = true := by
        rw [touch_lk]
        rintro (x | x)
        · exact z x.symm
        · exact hE (by rw [x]; exact List.mem_cons_self)
      unfold mates at ih ⊢
      rw [pqs_cons, List.filter_cons_of_neg nt]
      exact ih
/-- and the other way round -/
theorem MinS.first {c : Nat} : ∀ {Q E U : List Int}, Av c U Q E → MinS c (pqs Q E) Q E → (∀ x, 0 ≤ x → x < (c : Int) - 1 → x ∉ U → x ∈ Q) → ∀ Q', Av c U Q' E → lexLt Q' Q = false
  | _, _, _, .nil _, _, _, _, .nil _ => rfl
  | _, _, U, @Av.cons _ _ q e Q E a b k d, m, hc, _, @Av.cons _ _ q' _ Q' _ a' b' k' d' => by
    obtain ⟨h1, h2⟩ := Av.head k d
    cases m with
    | cons m1 m2 m3 m4 =>
      rw [h2] at m4
      unfold lexLt
      by_cases z : q' = q
      · rw [if_pos z]
        subst z
        refine MinS.first d m4 (fun x x0 x1 xU => ?_) Q' d'
        rw [List.mem_cons, not_or] at xU
        exact (List.mem_cons.mp (hc x x0 x1 xU.2)).resolve_left xU.1
      · rw [if_neg z]
        refine decide_eq_false fun lt => ?_
        have hq := hc q' a'.1 (by omega) b'
        have := m3 q' a'.1 a'.2 ((Av.cons a b k d).leaf hq k')
        omega
/-- a set of towns that the links do not leave has all towns or none -/
theorem Av.conn {c : Int} {P : Int → Prop} {r : Int} : ∀ {Q E U : List Int}, Av c U Q E → (∀ l ∈ pqs Q E, P l.1 ↔ P l.2) → (∀ x, 0 ≤ x → x < c → x ∉ U → x ∉ Q → x = r) → (∀ e ∈ E, (0 ≤ e ∧ e < c) ∧ e ∉ U) → ∀ q ∈ Q, P q ↔ P r
  | _, _, _, .nil _, _, _, _, q, h => by cases h
  | _, _, U, @Av.cons _ _ q e Q E a b k d, hP, hr, hE, x, hx => by
    have ih := d.conn (fun l hl => hP l (List.mem_cons_of_mem _ hl)) (fun x x0 x1 xU xQ => hr x x0 x1 (fun z => xU (List.mem_cons_of_mem _ z)) fun z => (List.mem_cons.mp z).elim (fun w => xU (by rw [w]; exact List.mem_cons_self)) xQ)
      fun x hx => ⟨(hE x (List.mem_cons_of_mem _ hx)).1, fun z => (List.mem_cons.mp z).elim (fun w => k (by rw [← w]; exact List.mem_cons_of_mem _ hx)) (hE x (List.mem_cons_of_mem _ hx)).2⟩
    rcases List.mem_cons.mp hx with rfl | hx
    · have h1 := hP (lkOf x e) List.mem_cons_self
      have h2 : P x ↔ P e := by
        unfold lkOf at h1
        split at h1
        · exact h1
        · exact h1.symm
      have hq : x ≠ e := fun z => k (by rw [z]; exact List.mem_cons_self)
      obtain ⟨he, heU⟩ := hE e List.mem_cons_self
      by_cases w : e ∈ Q
      · exact h2.trans (ih e w)
      · have : e = r := hr e he.1 he.2 heU fun z => (List.mem_cons.mp z).elim (fun y => hq y.symm) w
        rw [← this]
        exact h2
    · exact ih x hx
end MP

namespace MP
open PySem PySem.Spec
/-! ### the two shapes of a law -/
def shR (i : Nat) (N : PN) (env : Envm) : R → Sto → Prop := fun r S1 => match r with
  | .o x => N (env.set i (.va (.loc S1.length))) (S1 ++ [x])
  | .v (.loc n) => N (env.set i (.va (.loc n))) S1
  | _ => False
theorem ok_dSh (env : Envm) (S : Sto) (i : Nat) (N : PN) (T : PT) (K C : PN) (dr : DR) : okO (dSh i dr env S) N T K C = okE (dr env S) (shR i N env) := by
  unfold dSh
  cases dr env S with
  | ok r S1 =>
    rw [okE_ok]
    cases r with
    | o x => rfl
    | v d => cases d <;> rfl
  | xn c x S1 => exact propext ⟨fun h => False.elim h, fun ⟨_, _, h, _⟩ => (nomatch h)⟩
  | bad => rw [okE_bad]; rfl
theorem shR_o (i : Nat) (N : PN) (env : Envm) (x : O) (S1 : Sto) : shR i N env (.o x) S1 = N (env.set i (.va (.loc S1.length))) (S1 ++ [x]) := rfl
def shE1 : R → Sto → Res D := fun r S1 => match r with
  | .o x => .ok (.loc S1.length) (S1 ++ [x])
  | .v d => .ok d S1
theorem ev_shE (env : Envm) (S : Sto) (dr : DR) : shE dr env S = (dr env S).bind shE1 := by
  unfold shE
  cases dr env S with
  | ok r S1 => cases r <;> rfl
  | xn c x S1 => rfl
  | bad => rfl
theorem shE1_o (x : O) (S1 : Sto) : shE1 (.o x) S1 = .ok (.loc S1.length) (S1 ++ [x]) := rfl
theorem bAll_true {ys : List D} (h : ∀ y ∈ ys, y = .bl true) (S : Sto) : bAll [.lst ys] S = .ok (.v (.bl true)) S := by
  have e : ys = ys.map fun _ => D.bl true := by
    clear S
    induction ys with
    | nil => rfl
    | cons y ys ih =>
      rw [List.map_cons, ← ih fun z hz => h z (List.mem_cons_of_mem _ hz), h y List.mem_cons_self]
  rw [e, bAll_map ys (fun _ => true)]
  simp
end MP

namespace MP
open PySem PySem.Spec
/-! ### notes ascend -/
def ntLt (a b : Note) : Bool := decide (a.t < b.t) || (decide (a.t = b.t) && ((a.k && !b.k) || (a.k == b.k && decide (a.v < b.v))))
def kcp (k : Bool) : List Nat := (kd k).cps.toList
theorem ntLt_iff {a b : Note} : ntLt a b = true ↔ a.t < b.t ∨ (a.t = b.t ∧ ((a.k = true ∧ b.k = false) ∨ (a.k = b.k ∧ a.v < b.v))) := by
  unfold ntLt
  cases a.k <;> cases b.k <;> simp
theorem ntLt_asym {a b : Note} (h : ntLt a b = true) : ntLt b a = false := by
  cases hb : ntLt b a with
  | false => rfl
  | true =>
    rw [ntLt_iff] at h hb
    exfalso
    rcases h with h | ⟨h1, h2⟩
    · rcases hb with hb | ⟨h3, _⟩ <;> omega
    · rcases hb with hb | ⟨_, h4⟩
      · omega
      · rcases h2 with ⟨h5, h6⟩ | ⟨h5, h6⟩ <;> rcases h4 with ⟨h7, h8⟩ | ⟨h7, h8⟩ <;> first | (rw [h5] at h8; cases h8) | (rw [h5] at h7; rw [h7] at h6; cases h6) | (rw [h7] at h5; rw [h5] at h8; cases h8) | omega | simp_all
theorem ntLt_tot {a b : Note} (h1 : ntLt a b = false) (h2 : ntLt b a = false) : a = b := by
  have n1 := mt ntLt_iff.mpr (by rw [h1]; simp)
  have n2 := mt ntLt_iff.mpr (by rw [h2]; simp)
  have et : a.t = b.t := by omega
  have ek : a.k = b.k := by
    cases ha : a.k <;> cases hb : b.k <;> first | rfl | (exfalso; exact n1 (.inr ⟨et, .inl ⟨ha, hb⟩⟩)) | (exfalso; exact n2 (.inr ⟨et.symm, .inl ⟨hb, ha⟩⟩))
  have ev : a.v = b.v := by
    by_cases c : a.v < b.v
    · exact absurd (.inr ⟨et, .inr ⟨ek, c⟩⟩) n1
    · by_cases d : b.v < a.v
      · exact absurd (.inr ⟨et.symm, .inr ⟨ek.symm, d⟩⟩) n2
      · omega
  cases a; cases b
  simp_all
def NS (l : List Note) : Prop := l.Pairwise fun a b => ntLt a b = true
theorem NS.of {l : List Note} (h1 : l.Pairwise fun a b => ntLt b a = false) (h2 : l.Nodup) : NS l := by
  unfold NS
  induction l with
  | nil => exact .nil
  | cons a l ih =>
    obtain ⟨g1, g2⟩ := List.pairwise_cons.mp h1
    obtain ⟨g3, g4⟩ := List.nodup_cons.mp h2
    refine List.pairwise_cons.mpr ⟨fun b hb => ?_, ih g2 g4⟩
    cases h : ntLt a b with
    | true => rfl
    | false =>
      have := ntLt_tot h (g1 b hb)
      subst this
      exact absurd hb g3
theorem NS.uniq : ∀ {l m : List Note}, NS l → NS m → l.Perm m → l = m
  | [], m, _, _, p => (List.nil_perm.mp p).symm
  | a :: l, [], _, _, p => by cases (List.perm_nil.mp p)
  | a :: l, b :: m, h1, h2, p => by
    obtain ⟨g1, g2⟩ := List.pairwise_cons.mp h1
    obtain ⟨g3, g4⟩ := List.pairwise_cons.mp h2
    have e : a = b := by
      rcases List.mem_cons.mp (p.subset List.mem_cons_self) with e | e
      · exact e
      · rcases List.mem_cons.mp (p.symm.subset List.mem_cons_self) with e2 | e2
        · exact e2.symm
        · have := ntLt_asym (g1 b e2)
          rw [g3 a e] at this; cases this
    subst e
    rw [NS.uniq g2 g4 (List.perm_cons a |>.mp p)]
theorem NS.nodup {l : List Note} (h : NS l) : l.Nodup := h.imp fun {a b} h e => by
  subst e
  have := ntLt_asym h
  rw [h] at this; cases this
/-! ### with_note, without_note -/
def addF (j : J) (x : Note) : J := ⟨j.n, j.m, sortN (j.N ++ [x])⟩
def remF (j : J) (x : Note) : J := ⟨j.n, j.m, j.N.filter fun y => !decide (y = x)⟩
instance decJ : DecidableEq J := fun a b => if h : a.n = b.n ∧ a.m = b.m ∧ a.N = b.N then isTrue (by cases a; cases b; simp_all) else isFalse (by rintro rfl; exact h ⟨rfl, rfl, rfl⟩)
end MP

namespace MP
open PySem PySem.Spec
/-! ### d[k] = v -/
def okP (o : Option O) (P : O → Prop) : Prop := match o with
  | some x => P x
  | none => False
theorem okP_some (x : O) (P : O → Prop) : okP (some x) P = P x := rfl
def putR (k v : D) (P : O → Prop) : Option Sl → Prop := fun o => match o with
  | some (.ow x) => okP (putO k v x) P
  | _ => False
theorem putR_ow (k v : D) (P : O → Prop) (x : O) : putR k v P (some (.ow x)) = okP (putO k v x) P := rfl
theorem ok_dPutD (env : Envm) (S : Sto) (i : Nat) (N : PN) (T : PT) (K C : PN) (dk dv : DE) : okO (dPutD i dk dv env S) N T K C = okE (dv env S) fun v S1 => okE (dk env S1) fun k S2 => putR k v (fun o => N (env.set i (.ow o)) S2) env[i]? := by
  unfold dPutD
  cases dv env S with
  | xn c x S1 => exact propext ⟨fun h => False.elim h, fun ⟨_, _, h, _⟩ => (nomatch h)⟩
  | bad => rw [okE_bad]; rfl
  | ok v S1 =>
    rw [okE_ok]
    show okO (match dk env S1 with
      | .ok k S2 => (match env[i]? with
        | some (.ow o) => (match putO k v o with
          | some o' => .nx (env.set i (.ow o')) S2
          | none => .bad)
        | _ => .bad)
      | .xn _ _ _ => .bad
      | .bad => .bad) N T K C = _
    cases dk env S1 with
    | xn c x S2 => exact propext ⟨fun h => False.elim h, fun ⟨_, _, h, _⟩ => (nomatch h)⟩
    | bad => rw [okE_bad]; rfl
    | ok k S2 =>
      rw [okE_ok]
      cases env[i]? with
      | none => rfl
      | some s =>
        cases s with
        | no => rfl
        | va d => rfl
        | ow o =>
          show okO (match putO k v o with
            | some o' => .nx (env.set i (.ow o')) S2
            | none => .bad) N T K C = okP (putO k v o) _
          cases putO k v o <;> rfl
/-! ### a dict of notes -/
def keyT (x : Note) : List L2.Key := [.inl x.t, .inr (kd x.k)]
def same (y x : Note) : Bool := decide (y.t = x.t) && (y.k == x.k)
def setN (M : List Note) (x : Note) : List Note := if M.any (same · x) = true then M.map (fun y => if same y x = true then x else y) else M ++ [x]
def dicN (M : List Note) : O := .t (M.map keyT) (M.map fun x => .int x.v)
theorem same_iff {y x : Note} : same y x = true ↔ y.t = x.t ∧ y.k = x.k := by
  unfold same
  rw [Bool.and_eq_true, decide_eq_true_eq, beq_iff_eq]
structure DN (n m : Int) (M : List Note) : Prop where
  inr : ∀ x ∈ M, 0 ≤ x.t ∧ x.t < m ∧ 0 ≤ x.v ∧ x.v < n
  so : M.Pairwise fun x y => ¬ (x.t = y.t ∧ x.k = y.k)
theorem DN.set {n m : Int} {M : List Note} {x : Note} (h : DN n m M) (hx : 0 ≤ x.t ∧ x.t < m ∧ 0 ≤ x.v ∧ x.v < n) : DN n m (setN M x) := by
  unfold setN
  split
  · refine ⟨fun y hy => ?_, ?_⟩
    · obtain ⟨z, hz, rfl⟩ := List.mem_map.mp hy
      split
      · exact hx
      · exact h.inr z hz
    · refine List.pairwise_map.mpr (h.so.imp fun {a b} g => ?_)
      have f : ∀ y : Note, (if same y x = true then x else y).t = y.t ∧ (if same y x = true then x else y).k = y.k := fun y => by
        split
        · rename_i e
          have := same_iff.mp e
          exact ⟨this.1.symm, this.2.symm⟩
        · exact ⟨rfl, rfl⟩
      rw [(f a).1, (f a).2, (f b).1, (f b).2]
      exact g
  · rename_i c
    refine ⟨fun y hy => ?_, ?_⟩
    · rcases List.mem_append.mp hy with hy | hy
      · exact h.inr y hy
      · rw [List.mem_singleton.mp hy]; exact hx
    · refine List.pairwise_append.mpr ⟨h.so, by simp, fun a ha b hb => ?_⟩
      rw [List.mem_singleton.mp hb]
      intro e
      exact c (List.any_eq_true.mpr ⟨a, ha, same_iff.mpr e⟩)
/-- what a journal of the law's is -/
structure Book (j : J) (m : Nat) : Prop where
  w : JW j
  s : NS j.N
  n1 : 1 ≤ j.n
  n2 : j.n ≤ m
  m1 : j.m < j.n
  l : j.N.length ≤ 200
theorem Book.jr {j : J} {m : Nat} (h : Book j m) : JR (jD j) j := jr_jD h.w (by have := h.l; omega)
theorem Book.jk {j : J} {m : Nat} (h : Book j m) : JK (jD j) j := ⟨h.jr, by have := h.l; omega⟩
end MP

namespace MP
open PySem PySem.Spec
abbrev rowD (l : List Int) : D := .tup (l.map D.int)
/-! ### isinstance -/
section
variable (S : Sto)
theorem isi_tt (x : List D) : bIsi [.tup x, .ty "tuple"] S = .ok (.v (.bl true)) S := rfl
theorem isi_nt : bIsi [.non, .ty "tuple"] S = .ok (.v (.bl false)) S := rfl
theorem isi_ss (x : Str) : bIsi [.str x, .ty "str"] S = .ok (.v (.bl true)) S := rfl
end
/-! ### is_open, is_story -/
def openB (Q E : List Int) : Bool := (enumL E).all fun x => !decide (x.2 ∈ Q.take (x.1.toNat + 1))
def storyF (j : J) (Q E : List Int) : Bool := (decide ((Q.length : Int) = j.m) && Q.all fun p => decide (0 ≤ p) && decide (p < j.n)) && (decide ((E.length : Int) = j.m) && E.all fun p => decide (0 ≤ p) && decide (p < j.n)) && decide (((usort Q).length : Int) = j.m) && openB Q E && j.N.all fun x => decide ((if x.k = true then Q else E)[x.t.toNat]? = some x.v)
/-! ### shows_evidence -/
theorem fEq_str {x y : Str} (hx : PyData.strOk x = true) (hy : PyData.strOk y = true) (S : Sto) : fEq (.str x) (.str y) S = .ok (.v (.bl (x == y))) S := by
  rw [ev_eq S (show fitN 20 (.str x) = true from hx) (show fitN 20 (.str y) = true from hy)]
  rfl
/-! ### windows decide -/
end MP

namespace MP
open PySem PySem.Spec
/-! ### all rows, by their lengths -/
def bfs (n : Nat) : Nat → List (List Int)
  | 0 => [[]]
  | i + 1 => (bfs n i).flatMap fun l => (freeT n l).map fun p => l ++ [p]
theorem bfs_ext (n : Nat) : ∀ (i k : Nat), (bfs n i).flatMap (ext n k) = ext n (i + k) []
  | 0, k => by
    rw [Nat.zero_add]
    show [[]].flatMap (ext n k) = _
    simp
  | i + 1, k => by
    show ((bfs n i).flatMap fun l => (freeT n l).map fun p => l ++ [p]).flatMap (ext n k) = _
    rw [List.flatMap_assoc, show i + 1 + k = i + (k + 1) by omega, ← bfs_ext n i (k + 1)]
    congr 1
    funext l
    show ((freeT n l).map fun p => l ++ [p]).flatMap (ext n k) = (freeT n l).flatMap fun p => ext n k (l ++ [p])
    rw [List.flatMap_map]
theorem bfs_rows (n m : Nat) : bfs n m = rowsL n m := by
  have := bfs_ext n m 0
  rw [Nat.add_zero] at this
  unfold rowsL
  rw [Int.toNat_natCast, Int.toNat_natCast, ← this]
  show _ = (bfs n m).flatMap fun l => [l]
  simp
theorem bfs_len (n : Nat) : ∀ i : Nat, (bfs n i).length ≤ n ^ i
  | 0 => by simp [bfs]
  | i + 1 => by
    show ((bfs n i).flatMap fun l => (freeT n l).map fun p => l ++ [p]).length ≤ _
    rw [List.length_flatMap, Nat.pow_succ]
    have h : ∀ L : List (List Int), (L.map fun l => ((freeT n l).map fun p => l ++ [p]).length).sum ≤ L.length * n := by
      intro L
      induction L with
      | nil => simp
      | cons l L ih =>
        rw [List.map_cons, List.sum_cons, List.length_map, List.length_cons, Nat.succ_mul]
        have := freeT_len n l
        omega
    exact Nat.le_trans (h _) (Nat.mul_le_mul_right n (bfs_len n i))
/-- what _law_rows gives: its own list at once, or one that was laid before -/
def rowsR (c s : Nat) : R := if s = 0 then .o (.l ((rowsL c s).map rowD)) else .v (.lst ((rowsL c s).map rowD))
/-! ### _law_fits -/
end MP

namespace MP
open PySem PySem.Spec
theorem zipD_map {α : Type} (f g : α → D) : ∀ xs : List α, zipD (xs.map f) (xs.map g) = xs.map fun x => D.tup [f x, g x]
  | [] => rfl
  | x :: xs => by
    show D.tup [f x, g x] :: zipD (xs.map f) (xs.map g) = _
    rw [zipD_map f g xs]
    rfl
theorem fNe_bb (a b : Bool) (S : Sto) : fNe (.bl a) (.bl b) S = .ok (.v (.bl (!decide (a = b)))) S := by
  rw [ev_ne S rfl rfl]
  have : deq (.bl a) (.bl b) = decide (a = b) := by cases a <;> cases b <;> rfl
  rw [this]
theorem fEq_bb (a b : Bool) (S : Sto) : fEq (.bl a) (.bl b) S = .ok (.v (.bl (decide (a = b)))) S := by
  rw [ev_eq S rfl rfl]
  have : deq (.bl a) (.bl b) = decide (a = b) := by cases a <;> cases b <;> rfl
  rw [this]
/-- a town within its window -/
def wB (j : J) (x : Lk) : Bool := decide ((spanF j x.2).1 ≤ x.1) && decide (x.1 ≤ (spanF j x.2).2)
end MP

namespace MP
open PySem PySem.Spec
/-! ### evaluation: x[i] = v, chains of three, min, max -/
section
variable (env : Envm) (S : Sto) (i : Nat) (N : PN) (T : PT) (K C : PN)
theorem ok_dPutL (di dv : DE) (h : isOwnL env[i]?) : okO (dPutL i di dv env S) N T K C = okE (dv env S) fun v S1 => okE (di env S1) fun k S2 => mutE env[i]? (fPut k v) fun ds => N (env.set i (.ow (.l ds))) S2 := by
  obtain ⟨ds, h⟩ := h
  unfold dPutL
  cases dv env S with
  | xn c x S1 => exact propext ⟨fun h => False.elim h, fun ⟨_, _, h, _⟩ => (nomatch h)⟩
  | bad => rw [okE_bad]; rfl
  | ok v S1 =>
    rw [okE_ok]
    have hl : listSlot i env S1 = true := by unfold listSlot; rw [h]
    show okO (if listSlot i env S1 = true then _ else _) N T K C = _
    rw [if_pos hl]
    cases di env S1 with
    | xn c x S2 => exact propext ⟨fun h => False.elim h, fun ⟨_, _, h, _⟩ => (nomatch h)⟩
    | bad => rw [okE_bad]; rfl
    | ok k S2 =>
      rw [okE_ok]
      show okO (mutL i (fPut k v) env S2) N T K C = _
      unfold mutL
      rw [h]
      show okO (match fPut k v ds with
        | some ds' => .nx (env.set i (.ow (.l ds'))) S2
        | none => .bad) N T K C = _
      cases hf : fPut k v ds <;> simp only [mutE, hf] <;> rfl
theorem ok_dPut2 (da db du dv : DE) : okO (dPut2 i da db du dv env S) N T K C = okE (du env S) fun u S1 => okE (dv env S1) fun v S2 => okO (dPutL i da (dC u) env S2) (fun e S3 => okO (dPutL i db (dC v) e S3) N T K C) T K C := by
  unfold dPut2
  cases du env S with
  | xn c x S1 => exact propext ⟨fun h => False.elim h, fun ⟨_, _, h, _⟩ => (nomatch h)⟩
  | bad => rw [okE_bad]; rfl
  | ok u S1 =>
    rw [okE_ok]
    show okO (match dv env S1 with
      | .ok v S2 => dSeqS (dPutL i da (dC u)) (dPutL i db (dC v)) env S2
      | .xn _ _ _ => .bad
      | .bad => .bad) N T K C = _
    cases dv env S1 with
    | xn c x S2 => exact propext ⟨fun h => False.elim h, fun ⟨_, _, h, _⟩ => (nomatch h)⟩
    | bad => rw [okE_bad]; rfl
    | ok v S2 =>
      rw [okE_ok]
      exact ok_dSeqS _ _ _ _ _ _ _ _
theorem put_ok {ds : List D} {k : Int} {v : D} (h0 : 0 ≤ k) (h1 : k.toNat < ds.length) : fPut (.int k) v ds = some (ds.set k.toNat v) := by
  show (dIxL ds k).map _ = _
  unfold dIxL
  rw [if_pos h0, if_pos h1]
  rfl
theorem ev_dChain3 (f f1 f2 : D → D → Sto → Res R) (da db dc dd : DE) : dChain3 f f1 f2 da db dc dd env S = (da env S).bind fun x S1 => (db env S1).bind fun y S2 => (f x y S2).bind fun r S3 => (asBR r S3).bind fun c S3 => if c = true then (dc env S3).bind fun z S4 => (f1 y z S4).bind fun r1 S5 => (asBR r1 S5).bind fun c1 S5 => if c1 = true then (dd env S5).bind fun t S6 => (f2 z t S6).bind fun r2 S7 => (asBR r2 S7).map D.bl else .ok (.bl false) S5 else .ok (.bl false) S3 := by
  unfold dChain3
  congr 1; funext x S1
  congr 1; funext y S2
  congr 1; funext r S3
  cases r with
  | o _ => rfl
  | v d =>
    cases d <;> first | rfl | skip
    rename_i b
    cases b with
    | false => rfl
    | true =>
      show (dc env S3).bind _ = (dc env S3).bind _
      congr 1; funext z S4
      congr 1; funext r1 S5
      cases r1 with
      | o _ => rfl
      | v d1 =>
        cases d1 <;> first | rfl | skip
        rename_i b1
        cases b1 with
        | false => rfl
        | true =>
          show (dd env S5).bind _ = (dd env S5).bind _
          congr 1; funext t S6
          congr 1; funext r2 S7
          cases r2 with
          | o _ => rfl
          | v d2 => cases d2 <;> rfl
end
/-! ### window -/
/-! ### two towns exchanged -/
def swapL (l : List Int) (i j : Nat) : List Int := (l.set i (l.getD j 0)).set j (l.getD i 0)
theorem swapL_len (l : List Int) (i j : Nat) : (swapL l i j).length = l.length := by simp [swapL]
theorem swapL_at {l : List Int} {i j : Nat} (hi : i < l.length) (hj : j < l.length) (q : Nat) : (swapL l i j)[q]? = if q = j then l[i]? else if q = i then l[j]? else l[q]? := by
  unfold swapL
  by_cases c1 : q = j
  · subst c1
    rw [if_pos rfl, List.getElem?_set_self (by simp; exact hj), List.getD_eq_getElem?_getD, List.getElem?_eq_getElem hi]
    rfl
  · rw [if_neg c1, List.getElem?_set_ne fun e => c1 e.symm]
    by_cases c2 : q = i
    · subst c2
      rw [if_pos rfl, List.getElem?_set_self hi, List.getD_eq_getElem?_getD, List.getElem?_eq_getElem hj]
      rfl
    · rw [if_neg c2, List.getElem?_set_ne fun e => c2 e.symm]
theorem swapL_mem {l : List Int} {i j : Nat} (hi : i < l.length) (hj : j < l.length) {p : Int} : p ∈ swapL l i j ↔ p ∈ l := by
  rw [List.mem_iff_getElem?, List.mem_iff_getElem?]
  constructor
  · rintro ⟨q, hq⟩
    rw [swapL_at hi hj] at hq
    split at hq
    · exact ⟨_, hq⟩
    · split at hq
      · exact ⟨_, hq⟩
      · exact ⟨_, hq⟩
  · rintro ⟨q, hq⟩
    by_cases c1 : q = i
    · refine ⟨j, ?_⟩
      rw [swapL_at hi hj, if_pos rfl, ← c1]
      exact hq
    · by_cases c2 : q = j
      · refine ⟨i, ?_⟩
        rw [swapL_at hi hj]
        by_cases c3 : i = j
        · exact absurd (c2.trans c3.symm) c1
        · rw [if_neg c3, if_pos rfl, ← c2]
          exact hq
      · exact ⟨q, by rw [swapL_at hi hj, if_neg c2, if_neg c1]; exact hq⟩
theorem swapL_nd {l : List Int} {i j : Nat} (hi : i < l.length) (hj : j < l.length) (nd : l.Nodup) : (swapL l i j).Nodup := by
  refine List.pairwise_iff_getElem.mpr fun a b ha hb hab e => ?_
  rw [swapL_len] at ha hb
  have e : (swapL l i j)[a]? = (swapL l i j)[b]? := by
    rw [List.getElem?_eq_getElem (by rw [swapL_len]; exact ha), List.getElem?_eq_getElem (by rw [swapL_len]; exact hb), e]
  rw [swapL_at hi hj, swapL_at hi hj] at e
  have key : ∀ x y : Nat, x < l.length → y < l.length → l[x]? = l[y]? → x = y := fun x y hx hy e => by
    have e1 : l[x]? = some l[x] := List.getElem?_eq_getElem hx
    rw [e1] at e
    exact nd_at nd e1 e.symm
  split at e
  · split at e
    · omega
    · split at e
      · have := key _ _ hi hj e; omega
      · have := key _ _ hi hb e; omega
  · split at e
    · split at e
      · have := key _ _ hj hi e; omega
      · split at e
        · omega
        · have := key _ _ hj hb e; omega
    · split at e
      · have := key _ _ ha hi e; omega
      · split at e
        · have := key _ _ ha hj e; omega
        · have := key _ _ ha hb e; omega
theorem Row.swap {n m : Int} {l : List Int} (r : Row n m l) {i j : Nat} (hi : i < l.length) (hj : j < l.length) : Row n m (swapL l i j) := ⟨by rw [swapL_len]; exact r.len, fun p hp => r.inr p ((swapL_mem hi hj).mp hp), swapL_nd hi hj r.nd⟩
end MP

namespace MP
open PySem PySem.Spec
/-! ### _law_same -/
section
variable (S : Sto)
theorem isi_it (i : Int) : bIsi [.int i, .ty "tuple"] S = .ok (.v (.bl false)) S := rfl
theorem isi_il (i : Int) : bIsi [.int i, .ty "list"] S = .ok (.v (.bl false)) S := rfl
theorem isi_ii (i : Int) : bIsi [.int i, .ty "int"] S = .ok (.v (.bl true)) S := rfl
theorem isi_ib (i : Int) : bIsi [.int i, .ty "bool"] S = .ok (.v (.bl false)) S := rfl
theorem isi_i2 (i : Int) : bIsi [.int i, .tup [.ty "list", .ty "tuple"]] S = .ok (.v (.bl false)) S := rfl
theorem isi_i3 (i : Int) : bIsi [.int i, .tup [.ty "bool", .ty "str"]] S = .ok (.v (.bl false)) S := rfl
theorem isi_bt (i : Bool) : bIsi [.bl i, .ty "tuple"] S = .ok (.v (.bl false)) S := rfl
theorem isi_bl (i : Bool) : bIsi [.bl i, .ty "list"] S = .ok (.v (.bl false)) S := rfl
theorem isi_bi (i : Bool) : bIsi [.bl i, .ty "int"] S = .ok (.v (.bl true)) S := rfl
theorem isi_bb (i : Bool) : bIsi [.bl i, .ty "bool"] S = .ok (.v (.bl true)) S := rfl
theorem isi_b2 (i : Bool) : bIsi [.bl i, .tup [.ty "list", .ty "tuple"]] S = .ok (.v (.bl false)) S := rfl
theorem isi_b3 (i : Bool) : bIsi [.bl i, .tup [.ty "bool", .ty "str"]] S = .ok (.v (.bl true)) S := rfl
theorem isi_st (i : Str) : bIsi [.str i, .ty "tuple"] S = .ok (.v (.bl false)) S := rfl
theorem isi_sl (i : Str) : bIsi [.str i, .ty "list"] S = .ok (.v (.bl false)) S := rfl
theorem isi_si (i : Str) : bIsi [.str i, .ty "int"] S = .ok (.v (.bl false)) S := rfl
theorem isi_sb (i : Str) : bIsi [.str i, .ty "bool"] S = .ok (.v (.bl false)) S := rfl
theorem isi_s2 (i : Str) : bIsi [.str i, .tup [.ty "list", .ty "tuple"]] S = .ok (.v (.bl false)) S := rfl
theorem isi_s3 (i : Str) : bIsi [.str i, .tup [.ty "bool", .ty "str"]] S = .ok (.v (.bl true)) S := rfl
theorem isi_nl : bIsi [.non, .ty "list"] S = .ok (.v (.bl false)) S := rfl
theorem isi_nb : bIsi [.non, .ty "bool"] S = .ok (.v (.bl false)) S := rfl
theorem isi_n2 : bIsi [.non, .tup [.ty "list", .ty "tuple"]] S = .ok (.v (.bl false)) S := rfl
theorem isi_n3 : bIsi [.non, .tup [.ty "bool", .ty "str"]] S = .ok (.v (.bl false)) S := rfl
theorem isi_tl (x : List D) : bIsi [.tup x, .ty "list"] S = .ok (.v (.bl false)) S := rfl
theorem isi_t2 (x : List D) : bIsi [.tup x, .tup [.ty "list", .ty "tuple"]] S = .ok (.v (.bl true)) S := rfl
theorem isi_ll (x : List D) : bIsi [.lst x, .ty "list"] S = .ok (.v (.bl true)) S := rfl
theorem isi_lt (x : List D) : bIsi [.lst x, .ty "tuple"] S = .ok (.v (.bl false)) S := rfl
theorem isi_l2 (x : List D) : bIsi [.lst x, .tup [.ty "list", .ty "tuple"]] S = .ok (.v (.bl true)) S := rfl
theorem isNon_bl (b : Bool) : isNon (.bl b) = false := rfl
theorem isNon_lst (b : List D) : isNon (.lst b) = false := rfl
end
/-- what _law_same takes, to a depth -/
def samOk : Nat → D → Bool
  | _, .non => true
  | _, .bl _ => true
  | _, .int _ => true
  | _, .str x => PyData.strOk x
  | k + 1, .tup ds => decide (ds.length ≤ 100000) && ds.all (samOk k)
  | k + 1, .lst ds => decide (ds.length ≤ 100000) && ds.all (samOk k)
  | _, _ => false
def atomD : D → Bool
  | .tup _ => false
  | .lst _ => false
  | _ => true
def bun_0 := And.intro @okE_ok (And.intro @okE_bad (And.intro @okE_bind (And.intro @okE_map (And.intro @okB_some (And.intro @okB_none (And.intro @okO_nx (And.intro @okO_rt (And.intro @okO_bk (And.intro @okO_ct (And.intro @okO_bad (And.intro @sz_nil (And.intro @sz_cons (And.intro @sz_map (And.intro @at_zero (And.intro @at_succ (And.intro @st_zero (And.intro @st_succ (And.intro @ev_dVar (And.intro @ev_dBVar (And.intro @ev_dMv (And.intro @slV_va (And.intro @slB_va (And.intro @slB_l (And.intro @slB_k (And.intro @slB_t (And.intro @slM_va (And.intro @slM_ow (And.intro @ev_dC (And.intro @ev_fz (And.intro @ev_rv (And.intro @val_v (And.intro @val_l (And.intro @val_k (And.intro @val_t (And.intro @ev_toDl (And.intro @ev_toDk (And.intro @ev_toDt (And.intro @ev_dOp (And.intro @ev_dOp2 (And.intro @ev_dUn (And.intro @ev_dNil (And.intro @ev_dCons (And.intro @ev_dTup (And.intro @ev_dLst (And.intro @asB_bl (And.intro @ev_dB (And.intro @ev_dAndT (And.intro @ev_dOrT (And.intro @ev_dNotT (And.intro @ev_dAnd (And.intro @ev_dOr (And.intro @ev_dNot (And.intro @ev_dIf (And.intro @ev_dIfR (And.intro @ev_dCall (And.intro @ev_dBlt (And.intro @ev_dYes (And.intro @ev_dNewK (@ev_dNewT)))))))))))))))))))))))))))))))))))))))))))))))))))))))))))
def bun_1 := And.intro @asBR_bl (And.intro @ev_dChain (And.intro @ev_oNone (And.intro @asI_int (And.intro @ev_oSome (And.intro @slR_lst (And.intro @slR_tup (And.intro @ev_dSl (And.intro @itR_tup (And.intro @itR_lst (And.intro @ev_dSeq (And.intro @ev_dEnum (And.intro @zpR_lst (And.intro @zpR_tup (And.intro @ev_dZip (And.intro @ev_dRange1 (And.intro @ev_dRange2 (And.intro @ev_dMkL (And.intro @ev_dMkT (And.intro @ev_add (And.intro @ev_iadd (And.intro @ev_sub (And.intro @ev_lt (And.intro @ev_le (And.intro @ev_gt (And.intro @ev_ge (And.intro @ev_neg (And.intro @ev_eqI (And.intro @ev_neI (And.intro @ev_isN (And.intro @ev_notN (And.intro @isNon_non (And.intro @isNon_int (And.intro @isNon_tup (And.intro @isNon_str (And.intro @ixR_some (And.intro @ev_ixT (And.intro @ev_ixL (And.intro @ixD_0 (And.intro @ixD_1 (And.intro @ixD_2 (And.intro @ev_lenT (And.intro @ev_lenL (And.intro @ev_lenS (And.intro @ev_lenK (And.intro @ev_listT (And.intro @ev_listL (And.intro @ev_tupleT (And.intro @ev_tupleL (And.intro @ev_abs (And.intro @ev_intI (And.intro @ev_intB (And.intro @ev_max2 (And.intro @ev_min2 (And.intro @ok_dSeqS (And.intro @slOf_v (And.intro @slOf_o (And.intro @ok_dSet (And.intro @ok_dSkip (@ok_dBreak)))))))))))))))))))))))))))))))))))))))))))))))))))))))))))
def bun_2 := And.intro @ok_dCont (And.intro @ok_dRetN (And.intro @ok_dNever (And.intro @ok_dRet (And.intro @ok_dDrop (And.intro @ok_dIfS (And.intro @ok_dFrz (And.intro @ev_frzE (And.intro @frz1_o (And.intro @frz1_v (And.intro @frz1_n (And.intro @ok_dUnp (And.intro @bd_nm (And.intro @bd_tup (And.intro @bd_lst (And.intro @bds_nil (And.intro @bdC_some (And.intro @bds_cons (And.intro @ok_dFor (And.intro @ev_rNil (And.intro @ev_rCons (And.intro @ss_nil (And.intro @ss_cons (And.intro @ok_dPar (And.intro @ok_dAug (And.intro @isOwnL_l (And.intro @ok_dMut1 (And.intro @mutE_l (And.intro @okL_some (And.intro @ev_only (And.intro @onlyR_o (And.intro @okE_only (And.intro @ok_dDropX (And.intro @ok_dSetX (And.intro @ok_dRetX (And.intro @start_c (And.intro @start_n (And.intro @start_0 (And.intro @setL_c (And.intro @setL_n (And.intro @wipe_c (And.intro @wipe_n (And.intro @ev_dLk (And.intro @lkR_k (And.intro @lkR_t (And.intro @ev_dKeys (And.intro @kyR_k (And.intro @kyR_t (And.intro @slB_fk (And.intro @slB_ft (And.intro @ev_isB (And.intro @ev_notB (And.intro @ev_dLenSet (And.intro @ok_dSh (And.intro @shR_o (And.intro @ev_shE (And.intro @shE1_o (And.intro @okP_some (And.intro @putR_ow (@ok_dPutD)))))))))))))))))))))))))))))))))))))))))))))))))))))))))))
def bun_3 := And.intro @isi_tt (And.intro @isi_nt (And.intro @isi_ss (And.intro @ok_dPutL (And.intro @ok_dPut2 (And.intro @ev_dChain3 (And.intro @isi_it (And.intro @isi_il (And.intro @isi_ii (And.intro @isi_ib (And.intro @isi_i2 (And.intro @isi_i3 (And.intro @isi_bt (And.intro @isi_bl (And.intro @isi_bi (And.intro @isi_bb (And.intro @isi_b2 (And.intro @isi_b3 (And.intro @isi_st (And.intro @isi_sl (And.intro @isi_si (And.intro @isi_sb (And.intro @isi_s2 (And.intro @isi_s3 (And.intro @isi_nl (And.intro @isi_nb (And.intro @isi_n2 (And.intro @isi_n3 (And.intro @isi_tl (And.intro @isi_t2 (And.intro @isi_ll (And.intro @isi_lt (And.intro @isi_l2 (And.intro @isNon_bl (@isNon_lst))))))))))))))))))))))))))))))))))
local macro_rules | `(tactic| simp! only [$xs,*] $[$l:location]?) => `(tactic| simp only [bun_0, bun_1, bun_2, bun_3, sv_at, sv_ta, sv_it, sv_ti, sv_dt, sv_df, sv_ft, sv_nt, sv_nn, sv_tt, sv_fn, sv_c0, sv_c1, sv_c2, sv_c3, sv_c4, sv_c5, sv_c6, sv_dT, sv_dF, sv_nT, sv_nF, sv_ifT, sv_ifF, sv_iP, sv_iQ, reduceDIte, reduceIte, reduceCtorEq, Nat.reduceEqDiff, Nat.reduceGT, Nat.reduceSubDiff, Nat.reduceMod, Nat.reduceAdd, Nat.reduceBNe, Nat.reduceLeDiff, Nat.reduceSub, Nat.reduceDiv, Nat.reduceMul, Nat.reduceBEq, Nat.reduceSucc, Nat.reduceLT, Nat.reducePow, Int.reduceGE, Int.reduceToNat, Int.reduceEq, Int.reduceOfNat, Int.reduceGT, Int.reducePow, Int.reduceDiv, Int.reduceMul, Int.reduceBEq, Int.reduceNe, Int.reduceSub, Int.reduceLT, Int.reduceNeg, Int.reduceBNe, Int.reduceAdd, Int.reduceLE, Int.reduceMod, Int.reduceNegSucc, $xs,*] $[$l:location]?)
theorem sp_same {B : Tb} {n : Nat} (hB : B i__law_same_v0 = some q__law_same_v0) : ∀ (k : Nat) (d : D) (S : Sto), samOk k d = true → callN B (n + k + 1) i__law_same_v0 [d, d] S = .ok (.v (.bl true)) S := by
  intro k
  have atom : ∀ (k : Nat) (d : D) (S : Sto), atomD d = true → samOk k d = true → callN B (n + k + 1) i__law_same_v0 [d, d] S = .ok (.v (.bl true)) S := by
    intro k d S h1 h2
    refine eq_of_ok (ok_call (hB.trans rfl) rfl ?_)
    unfold b__law_same_v0
    cases d <;> first | (cases h1; done) | (simp [samOk] at h2; done) | skip
    · have e : ∀ S, fEq .non .non S = .ok (.v (.bl true)) S := fun S => rfl
      simp! only [e, fEq_bb]
    · simp! only [fEq_bb, decide_true]
    · simp! only []
    · rename_i x
      have hx : PyData.strOk x = true := by cases k <;> simpa [samOk] using h2
      have e : (x == x) = true := by simp
      simp! only [fEq_str hx hx, e, fEq_bb, decide_true]
  induction k with
  | zero =>
    intro d S h
    refine atom 0 d S ?_ h
    cases d <;> first | rfl | (simp [samOk] at h)
  | succ k ih =>
    intro d S h
    have seq : ∀ (ds : List D) (S : Sto), (decide (ds.length ≤ 100000) && ds.all (samOk k)) = true → okE (dComp (dZip (dVar 0) (dVar 1)) [2, 3] (.tp [(.nm 2), (.nm 3)]) dYes (fz (dCall (callN B (n + (k + 1))) 213 (dCons (dVar 2) (dCons (dVar 3) dNil)))) [.va (.tup ds), .va (.tup ds), .no, .no] S) (fun r S1 => r = .o (.l (ds.map fun _ => .bl true)) ∧ S1 = S) ∧ okE (dComp (dZip (dVar 0) (dVar 1)) [2, 3] (.tp [(.nm 2), (.nm 3)]) dYes (fz (dCall (callN B (n + (k + 1))) 213 (dCons (dVar 2) (dCons (dVar 3) dNil)))) [.va (.lst ds), .va (.lst ds), .no, .no] S) (fun r S1 => r = .o (.l (ds.map fun _ => .bl true)) ∧ S1 = S) := by
      intro ds S hd
      rw [Bool.and_eq_true, decide_eq_true_eq, List.all_eq_true] at hd
      have z : zipD ds ds = ds.map fun x => D.tup [x, x] := by
        have := zipD_map (fun x : D => x) (fun x => x) ds
        simpa using this
      constructor
      · refine ok_compA ds (fun x => D.tup [x, x]) (fun _ => .bl true) (by simp! only [z]) hd.1 (fun x hx => ?_) ⟨rfl, rfl⟩
        have : callN B (n + (k + 1)) 213 [x, x] S = .ok (.v (.bl true)) S := ih x S (hd.2 x hx)
        simp! only [this]
      · refine ok_compA ds (fun x => D.tup [x, x]) (fun _ => .bl true) (by simp! only [z]) hd.1 (fun x hx => ?_) ⟨rfl, rfl⟩
        have : callN B (n + (k + 1)) 213 [x, x] S = .ok (.v (.bl true)) S := ih x S (hd.2 x hx)
        simp! only [this]
    by_cases ht : atomD d = true
    · exact atom (k + 1) d S ht h
    · refine eq_of_ok (ok_call (hB.trans rfl) rfl ?_)
      unfold b__law_same_v0
      have all1 : ∀ (ds : List D) S, bAll [.lst (ds.map fun _ => .bl true)] S = .ok (.v (.bl true)) S := fun ds S => by
        rw [bAll_map ds (fun _ => true)]
        simp
      cases d <;> first | (exact absurd rfl ht) | skip
      · rename_i ds
        obtain ⟨⟨r, S1, g1, rfl, rfl⟩, _⟩ := seq ds S h
        simp! only [fNe_bb, g1, all1, decide_true]
      · rename_i ds
        obtain ⟨_, ⟨r, S1, g1, rfl, rfl⟩⟩ := seq ds S h
        simp! only [fNe_bb, g1, all1, decide_true]
/-! ### lists of numbers compared -/
theorem fit_il (a : List Int) : fitN 20 (.lst (a.map D.int)) = true := fit_ints 19 a
theorem fNe_il (a b : List Int) (S : Sto) : fNe (.lst (a.map D.int)) (.lst (b.map D.int)) S = .ok (.v (.bl (!decide (a = b)))) S := by
  rw [ev_ne S (fit_il a) (fit_il b), show deq (.lst (a.map D.int)) (.lst (b.map D.int)) = deqs (a.map D.int) (b.map D.int) from rfl, deqs_ints]
theorem fEq_il (a b : List Int) (S : Sto) : fEq (.lst (a.map D.int)) (.lst (b.map D.int)) S = .ok (.v (.bl (decide (a = b)))) S := by
  rw [ev_eq S (fit_il a) (fit_il b), show deq (.lst (a.map D.int)) (.lst (b.map D.int)) = deqs (a.map D.int) (b.map D.int) from rfl, deqs_ints]
/-! ### how many orders there are at most -/
theorem count_le {j : J} (w : JW j) {c s : Nat} (ec : j.n = c) (es : j.m = s) : countF j ≤ (c : Int) ^ s := by
  rw [count_ords w]
  have h1 : (ordsL j).length ≤ (rowsL j.n j.m).length := List.length_filter_le _ _
  rw [ec, es, ← bfs_rows] at h1
  have h2 := bfs_len c s
  have h3 : ((ordsL j).length : Int) ≤ ((c ^ s : Nat) : Int) := Int.ofNat_le.mpr (Nat.le_trans h1 h2)
  rw [Int.natCast_pow] at h3
  exact h3
end MP

namespace MP
open PySem PySem.Spec
/-! ### calls by keywords -/
theorem okE_dPerm {env : Envm} {S : Sto} (pm : List Nat) (da : DA) (Q : List D → Sto → Prop) : okE (dPerm pm da env S) Q = okE (da env S) fun ds S1 => Q (permD pm ds) S1 := okE_map _ _ _
theorem permD_nil (ds : List D) : permD [] ds = [] := rfl
theorem permD_cons (i : Nat) (pm : List Nat) (ds : List D) : permD (i :: pm) ds = ds.getD i .non :: permD pm ds := rfl
theorem getD_z (d : D) (ds : List D) : (d :: ds).getD 0 .non = d := rfl
theorem getD_s (d : D) (ds : List D) (i : Nat) : (d :: ds).getD (i + 1) .non = ds.getD i .non := rfl
end MP

namespace MP
open PySem PySem.Spec
/-! ### data is equal to itself -/
/-! ### what _law_same takes fits -/
theorem sam_lst {k : Nat} {l : List D} (h1 : l.length ≤ 100000) (h2 : ∀ d ∈ l, samOk k d = true) : samOk (k + 1) (.lst l) = true := by
  show (decide (l.length ≤ 100000) && l.all (samOk k)) = true
  rw [Bool.and_eq_true, List.all_eq_true]
  exact ⟨decide_eq_true h1, h2⟩
/-! ### the third shape of a law -/
def bun_4 := And.intro @okE_dPerm (And.intro @permD_nil (And.intro @permD_cons (And.intro @getD_z (@getD_s))))
local macro_rules | `(tactic| simp! only [$xs,*] $[$l:location]?) => `(tactic| simp only [bun_0, bun_1, bun_2, bun_3, bun_4, sv_at, sv_ta, sv_it, sv_ti, sv_dt, sv_df, sv_ft, sv_nt, sv_nn, sv_tt, sv_fn, sv_c0, sv_c1, sv_c2, sv_c3, sv_c4, sv_c5, sv_c6, sv_dT, sv_dF, sv_nT, sv_nF, sv_ifT, sv_ifF, sv_iP, sv_iQ, reduceDIte, reduceIte, reduceCtorEq, Nat.reduceEqDiff, Nat.reduceGT, Nat.reduceSubDiff, Nat.reduceMod, Nat.reduceAdd, Nat.reduceBNe, Nat.reduceLeDiff, Nat.reduceSub, Nat.reduceDiv, Nat.reduceMul, Nat.reduceBEq, Nat.reduceSucc, Nat.reduceLT, Nat.reducePow, Int.reduceGE, Int.reduceToNat, Int.reduceEq, Int.reduceOfNat, Int.reduceGT, Int.reducePow, Int.reduceDiv, Int.reduceMul, Int.reduceBEq, Int.reduceNe, Int.reduceSub, Int.reduceLT, Int.reduceNeg, Int.reduceBNe, Int.reduceAdd, Int.reduceLE, Int.reduceMod, Int.reduceNegSucc, $xs,*] $[$l:location]?)
theorem lawC {B : Tb} {ns : List Int} {rid lid T u : Nat} {t r : Int} {x : Str} (h0 : 0 ≤ r) (h1 : r ≤ 100) (hl : ns.length ≤ 63) (ht : t = T) (hT : T ≤ 100) (hC : B i__law_cell_at = some q__law_cell_at) (hX : B i__law_box = some q__law_box)
    (hL : B lid = some ⟨x, 1, 4, fun C => (dSeqS
  (dFor (dRange1 (fz (dOp fAdd (dC (.int 1)) (fz (dBlt bMin2 (dCons (dC (.int r)) (dCons (fz (dBlt bLen (dCons (dBVar 0) dNil))) dNil))))))) (.nm 1) (dSeqS
  (dSh 2 (dCall C 24 (dCons (dVar 0) (dCons (dVar 1) dNil))))
  (dIfS (dNotT (dB (fz (dBlt bAll (dCons (fz (dComp (dRange1 (dC (.int t))) [3] (.nm 3) dYes (fz (dCall C rid (dCons (dVar 2) dNil))))) dNil))))) (dRet (rv (dC (.bl false)))) dSkip)))
  (dRet (rv (dC (.bl true)))))⟩)
    (hu : u ≤ 10000000000) (hR : ∀ S b k, Bx S b (k + u) → ∃ S', callN B 59 rid [.loc b] S = .ok (.v (.bl true)) S' ∧ Bx S' b k) : ∃ S', callN B 60 lid [.scr ns] [] = .ok (.v (.bl true)) S' := by
  suffices h : okE (callN B 60 lid [.scr ns] []) fun x _ => x = .v (.bl true) by
    obtain ⟨x, S1, g1, rfl⟩ := h
    exact ⟨_, g1⟩
  refine ok_call hL rfl ?_
  simp! only []
  obtain ⟨q, eq⟩ : ∃ q : Nat, 1 + (if (ns.length : Int) < r then (ns.length : Int) else r) = q := ⟨(1 + (if (ns.length : Int) < r then (ns.length : Int) else r)).toNat, by split <;> omega⟩
  have hq : q ≤ 101 := by
    split at eq <;> omega
  rw [eq, rg1_i [] (by omega)]
  simp! only []
  rw [rangeD_rng]
  refine ok_for0 [1, 2] (rng q) D.int (fun i vs S => ∃ a c, vs = [a, c]) [.no, .no] rfl ⟨.no, .no, rfl⟩ ?_ ?_
  · rintro N1 K1 T1 hK hT' j p vs S hp ⟨a, c, rfl⟩ hN
    obtain ⟨hj, rfl⟩ := rng_succ_get hp
    obtain ⟨x, y, hx, bx⟩ := sp_box (B := B) (n := 57) (S := S) (ns := ns) (k := j) hC hX
    have bx : callN B 59 24 [.scr ns, .int j] S = .ok (.o (.l [.int x, .int y, .int 0])) S := bx
    simp! only [bx]
    refine ok_compI (rng T) D.int (fun i ys S' => i ≤ T → (∀ y ∈ ys, y = .bl true) ∧ Bx S' S.length ((T - i) * u)) ?_ (by rw [rng_len]; omega) (fun _ => ⟨fun y hy => (nomatch hy), ?_⟩) ?_ ?_
    · simp! only [ht]
      rw [rg1_i _ (by omega)]
      simp! only [rangeD_rng]
    · refine ⟨x, y, 0, by simp, hx, by decide, ?_⟩
      have h1 : (T - 0) * u ≤ 100 * 10000000000 := Nat.mul_le_mul (by omega) hu
      omega
    · rintro i q ys S1 hq hI
      obtain ⟨hi, rfl⟩ := rng_succ_get hq
      obtain ⟨m1, m2⟩ := hI (by omega)
      obtain ⟨S2, r1, r2⟩ := hR S1 S.length ((T - (i + 1)) * u) (m2.mono (by rw [show T - i = (T - (i + 1)) + 1 by omega, Nat.succ_mul]; omega))
      simp! only [r1]
      refine fun _ => ⟨fun y hy => ?_, r2⟩
      rcases List.mem_append.mp hy with hy | hy
      · exact m1 y hy
      · exact List.mem_singleton.mp hy
    · intro ys S1 hI
      rw [rng_len] at hI
      simp! only [bAll_true (hI (Nat.le_refl _)).1]
      exact hN [_, _] _ ⟨_, _, rfl⟩
  · rintro vs S ⟨a, c, rfl⟩
    simp! only []
end MP

namespace MP
open PySem PySem.Spec
/-! ### the program's functions of trees -/
def lkLD (l : Lk) : D := .lst [.int l.1, .int l.2]
/-- links as they come: pairs in a tuple or a list, or lists in a list -/
inductive SeqL : D → List Lk → Prop
  | tup (L : List Lk) : SeqL (.tup (L.map lkD)) L
  | lst (L : List Lk) : SeqL (.lst (L.map lkD)) L
  | lls (L : List Lk) : SeqL (.lst (L.map lkLD)) L
theorem SeqL.as {d : D} {L : List Lk} (h : SeqL d L) : ∃ f : Lk → D, (f = lkD ∨ f = lkLD) ∧ (d = .tup (L.map f) ∨ d = .lst (L.map f)) := by
  cases h with
  | tup => exact ⟨lkD, .inl rfl, .inl rfl⟩
  | lst => exact ⟨lkD, .inl rfl, .inr rfl⟩
  | lls => exact ⟨lkLD, .inr rfl, .inr rfl⟩
structure Tr (B : Tb) : Prop where
  num : B i_is_number = some q_is_number
  nei : B i_neighbours = some q_neighbours
  wo : B i_roads_without = some q_roads_without
  lvo : B i_leaves_of = some q_leaves_of
  rc : B i_record_of = some q_record_of
  cl : B i_is_closing = some q_is_closing
  tr : B i_tree_of = some q_tree_of
  lc : B i_least_closing = some q_least_closing
section
variable {B : Tb} {n c : Nat} {S : Sto} {d : D} {L : List Lk}
theorem sp_neigh {p : Int} (hM : B i_neighbours = some q_neighbours) (hd : SeqL d L) (hl : L.length ≤ 100000) :
    callN B (n + 1) i_neighbours [d, .int p] S = .ok (.o (.l ((mates L p).map D.int))) S := by
  obtain ⟨f, hf, hd⟩ := hd.as
  have key : ∀ S, dComp (dSeq (dBVar 0)) [2, 3] (.tp [(.nm 2), (.nm 3)]) (dB (fz (dOp fIn (dBVar 1) (dTup (dCons (dVar 2) (dCons (dVar 3) dNil)))))) (dIf (dB (fz (dOp fEq (dBVar 2) (dBVar 1)))) (dVar 3) (dVar 2)) [.va d, .va (.int p), .no, .no] S
      = .ok (.o (.l ((L.filter (touch p)).map fun l => .int (other p l)))) S := fun S => by
    refine comp_pure L f (touch p) (fun l => .int (other p l)) ?_ hl fun l hl => ⟨[.va d, .va (.int p), .va (.int l.1), .va (.int l.2)], ?_, ?_, ?_⟩
    · rcases hd with rfl | rfl <;> simp [callF, startE, finO, dSeqS, dSet, slOf, dRet, dRetN, dIfS, dSkip, dVar, dBVar, dMv, dC, fz, rv, dOp, dUn, dNil, dCons, dTup, dLst, dB, dAndT, dOrT, dNotT, dAnd, dOr, dNot, dIf, dIfR, dCall, dBlt, dOp2, dSeq, itemsOf, dFrz, frzE, dPar, rCons, rNil, setSls, dAug, dUnp, bindTg, bindTgs, wipeE, dYes, dChain, Res.bind, Res.map, R.val, O.toD, fIx_tup, fIx_lst, fIx_loc, fIx_scr, ixD, fGt_i, fLt_i, fLe_i, fGe_i, fSub_i, fIAdd_i, fMod, fDiv, fAdd, fPow, fEq, fNe, fIsN, fNotN, isNon, bLen, bList, bTuple, bAbs, bInt, bMax2, bMin2, dPutL, listSlot, isL, mutL, fPut, dIxL, dMut1, fApp, List.getElem?_cons_zero, List.getElem?_cons_succ, List.set_cons_zero, List.set_cons_succ, List.map_cons, List.map_nil, List.cons_append, List.nil_append, List.length_cons, List.length_nil, List.replicate, if_true, if_false, ite_true, ite_false, Bool.false_eq_true, reduceIte, decide_true, decide_false, Option.map_some, Option.bind_some]
    · rcases hf with rfl | rfl <;> simp [lkD, lkLD, callF, startE, finO, dSeqS, dSet, slOf, dRet, dRetN, dIfS, dSkip, dVar, dBVar, dMv, dC, fz, rv, dOp, dUn, dNil, dCons, dTup, dLst, dB, dAndT, dOrT, dNotT, dAnd, dOr, dNot, dIf, dIfR, dCall, dBlt, dOp2, dSeq, itemsOf, dFrz, frzE, dPar, rCons, rNil, setSls, dAug, dUnp, bindTg, bindTgs, wipeE, dYes, dChain, Res.bind, Res.map, R.val, O.toD, fIx_tup, fIx_lst, fIx_loc, fIx_scr, ixD, fGt_i, fLt_i, fLe_i, fGe_i, fSub_i, fIAdd_i, fMod, fDiv, fAdd, fPow, fEq, fNe, fIsN, fNotN, isNon, bLen, bList, bTuple, bAbs, bInt, bMax2, bMin2, dPutL, listSlot, isL, mutL, fPut, dIxL, dMut1, fApp, List.getElem?_cons_zero, List.getElem?_cons_succ, List.set_cons_zero, List.set_cons_succ, List.map_cons, List.map_nil, List.cons_append, List.nil_append, List.length_cons, List.length_nil, List.replicate, if_true, if_false, ite_true, ite_false, Bool.false_eq_true, reduceIte, decide_true, decide_false, Option.map_some, Option.bind_some]
    · simp [callF, startE, finO, dSeqS, dSet, slOf, dRet, dRetN, dIfS, dSkip, dVar, dBVar, dMv, dC, fz, rv, dOp, dUn, dNil, dCons, dTup, dLst, dB, dAndT, dOrT, dNotT, dAnd, dOr, dNot, dIf, dIfR, dCall, dBlt, dOp2, dSeq, itemsOf, dFrz, frzE, dPar, rCons, rNil, setSls, dAug, dUnp, bindTg, bindTgs, wipeE, dYes, dChain, Res.bind, Res.map, R.val, O.toD, fIx_tup, fIx_lst, fIx_loc, fIx_scr, ixD, fGt_i, fLt_i, fLe_i, fGe_i, fSub_i, fIAdd_i, fMod, fDiv, fAdd, fPow, fEq, fNe, fIsN, fNotN, isNon, bLen, bList, bTuple, bAbs, bInt, bMax2, bMin2, dPutL, listSlot, isL, mutL, fPut, dIxL, dMut1, fApp, List.getElem?_cons_zero, List.getElem?_cons_succ, List.set_cons_zero, List.set_cons_succ, List.map_cons, List.map_nil, List.cons_append, List.nil_append, List.length_cons, List.length_nil, List.replicate, if_true, if_false, ite_true, ite_false, Bool.false_eq_true, reduceIte, decide_true, decide_false, Option.map_some, Option.bind_some, fIn, din, fitN, deq, touch]
    · intro _
      by_cases c : l.1 = p <;> simp [callF, startE, finO, dSeqS, dSet, slOf, dRet, dRetN, dIfS, dSkip, dVar, dBVar, dMv, dC, fz, rv, dOp, dUn, dNil, dCons, dTup, dLst, dB, dAndT, dOrT, dNotT, dAnd, dOr, dNot, dIf, dIfR, dCall, dBlt, dOp2, dSeq, itemsOf, dFrz, frzE, dPar, rCons, rNil, setSls, dAug, dUnp, bindTg, bindTgs, wipeE, dYes, dChain, Res.bind, Res.map, R.val, O.toD, fIx_tup, fIx_lst, fIx_loc, fIx_scr, ixD, fGt_i, fLt_i, fLe_i, fGe_i, fSub_i, fIAdd_i, fMod, fDiv, fAdd, fPow, fEq, fNe, fIsN, fNotN, isNon, bLen, bList, bTuple, bAbs, bInt, bMax2, bMin2, dPutL, listSlot, isL, mutL, fPut, dIxL, dMut1, fApp, List.getElem?_cons_zero, List.getElem?_cons_succ, List.set_cons_zero, List.set_cons_succ, List.map_cons, List.map_nil, List.cons_append, List.nil_append, List.length_cons, List.length_nil, List.replicate, if_true, if_false, ite_true, ite_false, Bool.false_eq_true, reduceIte, decide_true, decide_false, Option.map_some, Option.bind_some, fitN, deq, other, c]
  rw [callN_eq hM]
  simp [q_neighbours, b_neighbours, callF, startE, finO, dRet, List.replicate, key, mates, List.map_map]
/-- a slot that holds links -/
def LkSl (sl : Sl) (L : List Lk) : Prop := (∃ d, sl = .va d ∧ SeqL d L) ∨ sl = .ow (.l (L.map lkD))
end
end MP

namespace MP
open PySem PySem.Spec
/-! ### links in order -/
def leL (a b : Lk) : Bool := decide (a.1 < b.1) || (decide (a.1 = b.1) && decide (a.2 ≤ b.2))
theorem leL_iff (a b : Lk) : leL a b = true ↔ a.1 < b.1 ∨ (a.1 = b.1 ∧ a.2 ≤ b.2) := by
  unfold leL
  simp
theorem dle_lkT (a b : Lk) : dle (lkD a) (lkD b) = leL a b := by
  obtain ⟨a1, a2⟩ := a
  obtain ⟨b1, b2⟩ := b
  have h : dle (lkD (a1, a2)) (lkD (b1, b2)) = !lexLt [b1, b2] [a1, a2] := by
    have := lt_toks [b1, b2] [a1, a2]
    unfold dle PySem.W.dataLe PySem.W.sortLe
    exact congrArg (fun x => !x) this
  rw [h]
  refine bool_iff ?_
  rw [leL_iff]
  unfold lexLt
  unfold lexLt
  unfold lexLt
  by_cases c1 : b1 = a1
  · subst c1
    by_cases c2 : b2 = a2
    · subst c2; simp
    · simp [c2]
  · simp [c1]
    omega
theorem leL_trans (a b c : Lk) (h1 : leL a b = true) (h2 : leL b c = true) : leL a c = true := by
  rw [leL_iff] at *
  omega
theorem leL_total (a b : Lk) : (leL a b || leL b a) = true := by
  rw [Bool.or_eq_true, leL_iff, leL_iff]
  omega
theorem leL_anti {a b : Lk} (h1 : leL a b = true) (h2 : leL b a = true) : a = b := by
  rw [leL_iff] at *
  obtain ⟨a1, a2⟩ := a
  obtain ⟨b1, b2⟩ := b
  simp only at h1 h2
  have e1 : a1 = b1 := by omega
  have e2 : a2 = b2 := by omega
  rw [e1, e2]
def srt (L : List Lk) : List Lk := L.mergeSort leL
theorem srt_perm (L : List Lk) : (srt L).Perm L := List.mergeSort_perm _ _
theorem srt_so (L : List Lk) : (srt L).Pairwise fun a b => leL a b = true := List.pairwise_mergeSort leL_trans leL_total L
theorem srt_eq {L R : List Lk} (h : R.Pairwise fun a b => leL a b = true) (p : L.Perm R) : srt L = R :=
  List.Perm.eq_of_pairwise (le := fun a b => leL a b = true) (fun a b _ _ => leL_anti) (srt_so L) h ((srt_perm L).trans p)
theorem dSort_lks (L : List Lk) : dSort (L.map lkD) = (srt L).map lkD := (List.map_mergeSort (r := leL) (s := dle) (f := lkD) fun a _ b _ => (dle_lkT a b).symm).symm
section
variable {B : Tb} {n c : Nat} {S : Sto} {d : D} {L : List Lk}
end
end MP

namespace MP
open PySem PySem.Spec
/-! ### walks that do not turn back -/
def ksF (L : List Lk) (v b : Int) : List Int := (mates L v).filter fun x => !decide (x = b)
def visF (L : List Lk) : Nat → Int → Int → List Int
  | 0, _, _ => []
  | f + 1, v, b => v :: (ksF L v b).flatMap fun k => visF L f k v
def szF (L : List Lk) : Nat → Int → Int → Int
  | 0, _, _ => 0
  | f + 1, v, b => 1 + ((ksF L v b).map fun k => szF L f k v).sum
def pstF (L : List Lk) : Nat → Int → Int → List Int
  | 0, _, _ => []
  | f + 1, v, b => ((ksF L v b).flatMap fun k => pstF L f k v) ++ [szF L (f + 1) v b]
def preF (L : List Lk) : Nat → Int → Int → List Int
  | 0, _, _ => []
  | f + 1, v, b => szF L (f + 1) v b :: (ksF L v b).flatMap fun k => preF L f k v
def DpF (L : List Lk) : Nat → Int → Int → Prop
  | 0, _, _ => False
  | f + 1, v, b => ∀ k ∈ ksF L v b, DpF L f k v
theorem mates_sym {L : List Lk} {x v : Int} (h : x ∈ mates L v) : v ∈ mates L x := by
  unfold mates at *
  obtain ⟨l, h1, h2⟩ := List.mem_map.mp h
  obtain ⟨h3, h4⟩ := List.mem_filter.mp h1
  refine List.mem_map.mpr ⟨l, List.mem_filter.mpr ⟨h3, ?_⟩, ?_⟩
  · unfold other at h2
    simp [touch] at h4 ⊢
    split at h2 <;> omega
  · unfold other at *
    simp [touch] at h4
    split at h2 <;> split <;> omega
section
variable {L : List Lk} {q e : Int}
end
end MP

namespace MP
open PySem PySem.Spec
/-! ### runs that end by an exception -/
def exE {α : Type} (r : Res α) (P : D → Sto → Prop) : Prop := ∃ c x S, r = .xn c x S ∧ P x S
def exO (o : Out) (P : D → Sto → Prop) : Prop := ∃ c x S, o = .xn c x S ∧ P x S
section
variable {α : Type} {env : Envm} {S : Sto} {P : D → Sto → Prop}
theorem exE.imp {r : Res α} {Q : D → Sto → Prop} (h : exE r P) (i : ∀ x S, P x S → Q x S) : exE r Q := by
  obtain ⟨c, x, S, h1, h2⟩ := h
  exact ⟨c, x, S, h1, i x S h2⟩
/-- what a handler does -/
def catchB (tab : List (Str × String)) (ns : List Str) (x : D) : Bool := match exName x with
  | some n => inTab tab n && ns.contains n
  | none => false
end
section
variable (env : Envm) (S : Sto)
def xfR (tab : List (Str × String)) (f : Str) : D → Sto → Res D := fun d S => match d with
  | .ex n g x => if (g == f && (inTab tab n && xFields.contains f)) = true then .ok x S else .bad
  | _ => .bad
theorem okE_dXf (tab : List (Str × String)) (f : Str) (de : DE) (Q : D → Sto → Prop) : okE (dXf tab f de env S) Q = okE (de env S) fun d S1 => okE (xfR tab f d S1) Q := by
  unfold dXf
  cases de env S with
  | ok d S1 =>
    rw [okE_ok]
    cases d <;> rfl
  | xn c x S1 => rw [show (okE (Res.xn c x S1) fun d S1 => okE (xfR tab f d S1) Q) = False from propext ⟨fun ⟨_, _, h, _⟩ => (nomatch h), fun h => h.elim⟩]; exact okE_bad _
  | bad => rw [okE_bad]; exact (okE_bad _).symm
theorem isNon_ex (n f : Str) (x : D) : isNon (.ex n f x) = false := rfl
theorem isNon_ex0 (n : Str) : isNon (.ex0 n) = false := rfl
end
/-! ### order_at beyond the last number -/
/-! ### the helper that tells an error by its name -/
abbrev tab5 : List (Str × String) := [("Impossible", "ValueError"), ("Misfit", "ValueError"), ("NoTown", "LookupError"), ("NoTime", "LookupError"), ("NoNumber", "LookupError")]
end MP

namespace MP
open PySem PySem.Spec
/-! ### d.get(k, x) -/
def getR : Option (Option D) → D → Sto → Res D := fun o z S => match o with
  | some (some v) => .ok v S
  | some none => .ok z S
  | none => .bad
theorem ev_dDget (env : Envm) (S : Sto) (dd dk dx : DE) : dDget dd dk dx env S = (dd env S).bind fun d S1 => (dk env S1).bind fun k S2 => (dx env S2).bind fun z S3 => getR (dlook d k) z S3 := rfl
theorem getR_s (v z : D) (S : Sto) : getR (some (some v)) z S = .ok v S := rfl
theorem getR_n (z : D) (S : Sto) : getR (some none) z S = .ok z S := rfl
end MP

namespace MP
open PySem PySem.Spec
/-! ### a dict of numbers -/
def dicK (K : List Lk) : O := .k (keysI (K.map (·.1))) (K.map fun x => .int x.2)
/-! ### placed -/
structure La (B : Tb) : Prop where
  noted : B i_noted = some q_noted
  span : B i_span = some q_span
  sound : B i_is_sound = some q_is_sound
  count : B i_count_orders = some q_count_orders
  plain : B i_plain = some q_plain
def plF (j : J) (ps : List Lk) : Int := (((ordsL j).filter fun l => ps.all fun x => decide (l[x.1.toNat]? = some x.2)).length : Int)
def cloN (x : Lk) : Note := ⟨x.1, true, x.2⟩
def plJ (j : J) (K : List Lk) : J := ⟨j.n, j.m, sortN ((j.N.filter fun x => x.k == false) ++ K.map cloN)⟩
structure PK (j : J) (qs K : List Lk) : Prop where
  nd : (K.map (·.1)).Nodup
  inr : ∀ x ∈ K, 0 ≤ x.1 ∧ x.1 < j.m ∧ 0 ≤ x.2 ∧ x.2 < j.n
  eqv : ∀ l : List Int, (∀ x ∈ K, l[x.1.toNat]? = some x.2) ↔ (∀ x ∈ notedL j true, l[x.1.toNat]? = some x.2) ∧ ∀ x ∈ qs, l[x.1.toNat]? = some x.2
theorem PK.start {j : J} (w : JW j) : PK j [] (notedL j true) := ⟨notedL_nodup w true, fun x hx => noted_inr w hx, fun l => ⟨fun h => ⟨h, fun x hx => (nomatch hx)⟩, fun h => h.1⟩⟩
theorem PK.old {j : J} {qs K : List Lk} (h : PK j qs K) {x : Lk} (hx : x ∈ K) : PK j (qs ++ [x]) K := ⟨h.nd, h.inr, fun l => by
  rw [h.eqv l]
  constructor
  · rintro ⟨h1, h2⟩
    refine ⟨h1, fun y hy => ?_⟩
    rcases List.mem_append.mp hy with hy | hy
    · exact h2 y hy
    · rw [List.mem_singleton.mp hy]
      exact (h.eqv l).mpr ⟨h1, h2⟩ x hx
  · rintro ⟨h1, h2⟩
    exact ⟨h1, fun y hy => h2 y (List.mem_append_left _ hy)⟩⟩
theorem PK.new {j : J} {qs K : List Lk} (h : PK j qs K) {x : Lk} (hx : x.1 ∉ K.map (·.1)) (hr : 0 ≤ x.1 ∧ x.1 < j.m ∧ 0 ≤ x.2 ∧ x.2 < j.n) : PK j (qs ++ [x]) (K ++ [x]) := by
  refine ⟨?_, fun y hy => ?_, fun l => ?_⟩
  · rw [List.map_append, List.nodup_append]
    refine ⟨h.nd, by simp, fun a ha b hb e => ?_⟩
    have : b = x.1 := by simpa using hb
    exact hx (by rw [← this, ← e]; exact ha)
  · rcases List.mem_append.mp hy with hy | hy
    · exact h.inr y hy
    · rw [List.mem_singleton.mp hy]; exact hr
  · have e := h.eqv l
    constructor
    · intro z
      obtain ⟨z1, z2⟩ := e.mp fun y hy => z y (List.mem_append_left _ hy)
      refine ⟨z1, fun y hy => ?_⟩
      rcases List.mem_append.mp hy with hy | hy
      · exact z2 y hy
      · exact z y (List.mem_append_right _ hy)
    · rintro ⟨z1, z2⟩ y hy
      rcases List.mem_append.mp hy with hy | hy
      · exact e.mpr ⟨z1, fun u hu => z2 u (List.mem_append_left _ hu)⟩ y hy
      · exact z2 y (List.mem_append_right _ hy)
theorem PK.jw {j : J} {qs K : List Lk} (h : PK j qs K) (w : JW j) : JW (plJ j K) := by
  have p := sortN_perm ((j.N.filter fun x => x.k == false) ++ K.map cloN)
  refine ⟨w.n0, w.n1, w.m0, w.m1, fun x hx => ?_, ?_⟩
  · rcases List.mem_append.mp (p.mem_iff.mp hx) with hx | hx
    · exact w.inr x (List.mem_filter.mp hx).1
    · obtain ⟨y, hy, rfl⟩ := List.mem_map.mp hx
      exact h.inr y hy
  · refine (p.pairwise_iff fun {x y} z => by rintro ⟨e1, e2⟩; exact z ⟨e1.symm, e2.symm⟩).mpr ?_
    rw [List.pairwise_append]
    refine ⟨w.so.sublist List.filter_sublist, ?_, fun x hx y hy => ?_⟩
    · refine List.pairwise_map.mpr ?_
      have := List.pairwise_map.mp h.nd
      exact this.imp fun {a b} hne e => hne e.1
    · obtain ⟨z, _, rfl⟩ := List.mem_map.mp hy
      have := (List.mem_filter.mp hx).2
      rintro ⟨_, e⟩
      rw [e] at this
      simp [cloN] at this
theorem PK.count {j : J} {qs K : List Lk} (h : PK j qs K) (w : JW j) : countF (plJ j K) = plF j qs := by
  rw [count_ords (h.jw w)]
  unfold plF ordsL
  rw [List.filter_filter]
  congr 2
  show List.filter _ (rowsL j.n j.m) = _
  refine filter_congr' fun l _ => bool_iff ?_
  rw [Bool.and_eq_true, List.all_eq_true, List.all_eq_true, List.all_eq_true]
  have p := sortN_perm ((j.N.filter fun x => x.k == false) ++ K.map cloN)
  have nt : (∀ x ∈ j.N, truB l x = true) ↔ (∀ x ∈ j.N, x.k = false → truB l x = true) ∧ ∀ x ∈ notedL j true, l[x.1.toNat]? = some x.2 := by
    constructor
    · intro z
      refine ⟨fun x hx _ => z x hx, fun y hy => ?_⟩
      obtain ⟨x, hx, hk, rfl⟩ := mem_noted.mp hy
      have := z x hx
      unfold truB at this
      rw [if_pos hk] at this
      simpa using this
    · rintro ⟨z1, z2⟩ x hx
      cases hk : x.k with
      | false => exact z1 x hx hk
      | true =>
        unfold truB
        rw [if_pos hk]
        exact decide_eq_true (z2 (x.t, x.v) (mem_noted.mpr ⟨x, hx, hk, rfl⟩))
  rw [nt]
  constructor
  · intro z
    have zK : ∀ x ∈ K, l[x.1.toNat]? = some x.2 := fun x hx => by
      have := z (cloN x) (p.mem_iff.mpr (List.mem_append_right _ (List.mem_map.mpr ⟨x, hx, rfl⟩)))
      unfold truB cloN at this
      simpa using this
    obtain ⟨y1, y2⟩ := (h.eqv l).mp zK
    exact ⟨fun x hx => decide_eq_true (y2 x hx), fun x hx hk => z x (p.mem_iff.mpr (List.mem_append_left _ (List.mem_filter.mpr ⟨hx, by simp [hk]⟩))), y1⟩
  · rintro ⟨y2, z1, y1⟩ x hx
    have zK := (h.eqv l).mpr ⟨y1, fun x hx => of_decide_eq_true (y2 x hx)⟩
    rcases List.mem_append.mp (p.mem_iff.mp hx) with hx | hx
    · obtain ⟨g1, g2⟩ := List.mem_filter.mp hx
      exact z1 x g1 (by simpa using g2)
    · obtain ⟨y, hy, rfl⟩ := List.mem_map.mp hx
      unfold truB cloN
      simp [zK y hy]
end MP

namespace MP
open PySem PySem.Spec
structure Lt (B : Tb) : Prop where
  poss : B i_is_possible = some q_is_possible
  lookP : B i_look_possible = some q_look_possible
  lookT : B i_look_town = some q_look_town
  look : B i_look = some q_look
  placed : B i_placed = some q_placed
  ways : B i_ways_at = some q_ways_at
def waysF (j : J) (p : Int) : List Int := (rng j.m.toNat).map fun t => plF j [(t, p)]
/-! ### gcd, reduced -/
def euI (m a b : Nat) : Prop := (b ≤ a ∧ a * b < 2 ^ m) ∨ (1 ≤ m ∧ a * b < 2 ^ (m - 1))
def redF (a b : Nat) : Lk := ((a / Nat.gcd a b : Nat), (b / Nat.gcd a b : Nat))
end MP

namespace MP
open PySem PySem.Spec
def cntN (j : J) : Nat := (ordsL j).length
def plN (j : J) (ps : List Lk) : Nat := ((ordsL j).filter fun l => ps.all fun x => decide (l[x.1.toNat]? = some x.2)).length
def befT (j : J) (p q t : Int) : Nat := ((ordsL j).filter fun l => decide (l[t.toNat]? = some p) && !decide (q ∈ l.take t.toNat)).length
def befF (j : J) (p q : Int) : Nat := ((rng j.m.toNat).map (befT j p q)).sum
structure Lc (B : Tb) : Prop where
  gcd : B i_gcd = some q_gcd
  red : B i_reduced = some q_reduced
  chances : B i_chances_of = some q_chances_of
end MP

namespace MP
open PySem PySem.Spec
/-! ### reduced fractions -/
def rx (a b : Nat) : Nat := a / Nat.gcd a b
def ry (a b : Nat) : Nat := b / Nat.gcd a b
theorem ry_pos {a b : Nat} (hb : 0 < b) : 0 < ry a b := Nat.div_pos (Nat.gcd_le_right _ hb) (Nat.gcd_pos_of_pos_right _ hb)
theorem rx_g (a b : Nat) : a = rx a b * Nat.gcd a b := (Nat.div_mul_cancel (Nat.gcd_dvd_left a b)).symm
theorem ry_g (a b : Nat) : b = ry a b * Nat.gcd a b := (Nat.div_mul_cancel (Nat.gcd_dvd_right a b)).symm
theorem red_cross (a b : Nat) : rx a b * b = a * ry a b := by
  have h1 := rx_g a b
  have h2 := ry_g a b
  generalize rx a b = x at *
  generalize ry a b = y at *
  generalize Nat.gcd a b = g at *
  subst h1 h2
  rw [Nat.mul_assoc, Nat.mul_comm g y]
theorem rx_le (a b : Nat) : rx a b ≤ a := Nat.div_le_self _ _
theorem ry_le (a b : Nat) : ry a b ≤ b := Nat.div_le_self _ _
/-! ### sum_of -/
structure Fr (F M : Nat) (x : Lk) (a : Nat) : Prop where
  p : ∃ u v : Nat, x = ((u : Int), (v : Int)) ∧ 0 < v ∧ u ≤ M ∧ v ≤ M ∧ u * F = a * v
theorem Fr.red {a F M : Nat} (hF : 0 < F) (ha : a ≤ M) (hM : F ≤ M) : Fr F M (redF a F) a := ⟨rx a F, ry a F, rfl, ry_pos hF, Nat.le_trans (rx_le _ _) ha, Nat.le_trans (ry_le _ _) hM, red_cross a F⟩
/-! ### before: which orders -/
def bB (l : List Int) (p q : Int) : Nat → Bool
  | 0 => false
  | k + 1 => bB l p q k || (decide (l[k]? = some p) && !decide (q ∈ l.take k))
def befB (j : J) (p q : Int) (l : List Int) : Bool := bB l p q j.m.toNat
structure Pos (l : List Int) (p : Int) (t : Nat) : Prop where
  at_ : l[t]? = some p
end MP

namespace MP
open PySem PySem.Spec
/-! ### index, any -/
theorem ev_dIndex (env : Envm) (S : Sto) (dc dd : DE) : dIndex dc dd env S = (dc env S).bind fun c S1 => (dd env S1).bind fun d S2 => fIndex c d S2 := rfl
end MP

namespace MP
open PySem PySem.Spec
/-! ### rows that are no orders -/
def wayL (j : J) (l : List Int) : List Int := (rng l.length).map fun i => cntA j (l.take (i.toNat + 1))
/-- a row of towns, each once -/
structure Tw (j : J) (l : List Int) : Prop where
  nd : l.Nodup
  inr : ∀ p ∈ l, 0 ≤ p ∧ p < j.n
  len : l.length ≤ j.m.toNat
theorem Tw.take {j : J} {l : List Int} (h : Tw j l) (i : Nat) : Tw j (l.take i) := ⟨h.nd.sublist (List.take_sublist _ _), fun p hp => h.inr p ((List.take_sublist _ _).subset hp), by rw [List.length_take]; have := h.len; omega⟩
theorem Ord.tw {j : J} {l : List Int} (h : Ord j l) : Tw j l := ⟨h.nd, h.inr, by have := h.len; omega⟩
theorem Row.tw {j : J} {l : List Int} (h : Row j.n j.m l) : Tw j l := ⟨h.nd, h.inr, by have := h.len; omega⟩
def misD (j : J) (l : List Int) : D := if 0 ∈ wayL j l then .int ((wayL j l).idxOf 0 : Nat) else .non
/-! ### a journal as lists -/
def noteLD (x : Note) : D := .lst [.int x.t, .str (kd x.k), .int x.v]
def jLD (j : J) : D := .lst [.int j.n, .int j.m, .lst (j.N.map noteLD)]
def gL (j : J) : D → D := fun d => match d with
  | .int x => .int x
  | _ => .lst (j.N.map noteLD)
end MP

namespace MP
open PySem PySem.Spec
/-! ### the laws' own windows -/
/-! ### all evidence -/
def shutL (j : J) : List Int := (j.N.filter fun x => x.k == true).map (·.v)
def nevF (j : J) (p : Int) : Bool := decide (p ∈ shutL j) && decide ((spanF j p).2 < (spanF j p).1)
def prfL (j : J) : List D := ((rng j.n.toNat).filter (nevF j)).map (fun p => D.tup [.str "never", .int p]) ++ ((rng j.m.toNat).filter (fewF j)).map fun t => D.tup [.str "few", .int t]
/-! ### Impossible -/
/-- what the defs about evidence lean on -/
structure Lv (B : Tb) : Prop where
  noted : B i_noted = some q_noted
  span : B i_span = some q_span
  wind : B i_windows = some q_windows
  few : B i_are_few = some q_are_few
  lost : B i_lost_towns = some q_lost_towns
  evid : B i_evidence = some q_evidence
end MP

namespace MP
open PySem PySem.Spec
/-! ### number_of, the row a list or a tuple -/
/-! ### all orders of a small journal -/
theorem ev_dIndexD (env : Envm) (S : Sto) (dc dd : DE) : dIndexD dc dd env S = (dc env S).bind fun c S1 => (dd env S1).bind fun d S2 => fIndexD c d S2 := rfl
/-! ### the worst place of a row -/
/-! ### repr -/
theorem bRepr_ok {d : D} (h : repOk d = true) (S : Sto) : bRepr [d] S = .ok (.v (.str (shownD d))) S := by
  unfold bRepr
  simp only [h, if_true]
end MP

namespace MP
open PySem PySem.Spec
/-! ### how long a repr is -/
theorem joinN_len : ∀ ts : List Str, (Str.join ", " ts).length ≤ piled ts
  | [] => Nat.zero_le _
  | t :: ts => by have := join_length_add (t :: ts) (by simp); omega
theorem tupT_len (ts : List Str) : (tupleText ts).length ≤ piled ts + 3 := by
  unfold tupleText
  rw [strLen_append, strLen_append]
  have e1 : ((("(" : String) : Str)).length = 1 := rfl
  have e2 : (((if ts.length == 1 then ",)" else ")" : String) : Str)).length ≤ 2 := by split <;> decide
  have := joinN_len ts
  omega
theorem lstT_len (ts : List Str) : (listText ts).length ≤ piled ts + 3 := by
  cases ts with
  | nil => exact Nat.le_trans (m := 2) (by decide +kernel) (by omega)
  | cons t r =>
    have h := textFrom_length_pos r 1 (("[" : Str) ++ (if (0 : Nat) > 0 then ", " else "" : String) ++ t) (Nat.succ_pos 0)
    have e : ((("[" : Str) ++ (if (0 : Nat) > 0 then ", " else "" : String) ++ t)).length = 1 + t.length := by
      rw [strLen_append, strLen_append]
      rfl
    have x : (listText (t :: r)).length = (textFrom 1 (("[" : Str) ++ (if (0 : Nat) > 0 then ", " else "" : String) ++ t) r).length + 1 := by
      show (textFrom 0 "[" (t :: r) ++ "]").length = _
      rw [strLen_append]
      rfl
    rw [x, h, e, piled_cons]
    omega
mutual
def wD : D → Nat
  | .int _ => 1921
  | .str x => 10 * x.length + 2
  | .tup l => 3 + wDs l
  | .lst l => 3 + wDs l
  | _ => 5
def wDs : List D → Nat
  | [] => 0
  | d :: ds => wD d + 2 + wDs ds
end
theorem wDs_le {c : Nat} : ∀ {l : List D}, (∀ d ∈ l, wD d ≤ c) → wDs l ≤ l.length * (c + 2)
  | [], _ => Nat.zero_le _
  | d :: l, h => by
    have h1 := h d List.mem_cons_self
    have h2 := wDs_le fun e he => h e (List.mem_cons_of_mem d he)
    show wD d + 2 + wDs l ≤ (l.length + 1) * (c + 2)
    rw [Nat.add_mul]
    omega
/-- what can be shown -/
def shN : Nat → D → Bool
  | _, .non => true
  | _, .bl _ => true
  | _, .int i => decide (i.natAbs.log2 < 1920)
  | _, .str x => PyData.strOk x
  | n + 1, .tup ds => ds.all (shN n)
  | n + 1, .lst ds => ds.all (shN n)
  | _, _ => false
theorem strOk_cps {x : Str} (h : PyData.strOk x = true) : ∀ c ∈ x.cps.toList, c < 16 ^ 8 := fun c hc => by
  unfold PyData.strOk at h
  rw [Array.all_eq_true_iff_forall_mem] at h
  have h := h c (by simpa using hc)
  exact Nat.lt_trans (of_decide_eq_true h) (by decide)
theorem sh_fit : ∀ (n : Nat) (d : D), shN n d = true → fitN n d = true := by
  intro n
  induction n with
  | zero => intro d h; cases d <;> first | (simp [shN] at h; done) | rfl | exact h
  | succ n ih =>
    intro d h
    cases d <;> first | (simp [shN] at h; done) | rfl | exact h | skip
    all_goals
      rename_i l
      have h : l.all (shN n) = true := h
      show l.all (fitN n) = true
      rw [List.all_eq_true] at h ⊢
      exact fun d hd => ih d (h d hd)
theorem sh_show : ∀ (n : Nat) (d : D), shN n d = true → (toPy d).showable = true ∧ (toPy d).shown.length ≤ wD d := by
  intro n
  have atom : ∀ (n : Nat) (d : D), atomD d = true → shN n d = true → (toPy d).showable = true ∧ (toPy d).shown.length ≤ wD d := by
    intro n d h1 h
    cases d <;> first | (cases n <;> simp [shN] at h; done) | (cases h1; done) | skip
    · exact ⟨by simp [toPy, PyData.showable], by simp only [toPy, PyData.shown, wD]; exact Nat.le_trans (m := 4) (by decide +kernel) (by decide)⟩
    · rename_i b
      exact ⟨by simp [toPy, PyData.showable], by simp only [toPy, PyData.shown, wD]; cases b <;> decide +kernel⟩
    · rename_i i
      have h : i.natAbs.log2 < 1920 := by cases n <;> exact of_decide_eq_true h
      exact ⟨by simpa [toPy, PyData.showable] using h, by simp only [toPy, PyData.shown, wD]; exact PyProof.Rows.int_text_len_1921 h⟩
    · rename_i x
      have h : PyData.strOk x = true := by cases n <;> exact h
      exact ⟨by simp [toPy, PyData.showable], by simp only [toPy, PyData.shown, wD]; exact StrLaws.reprText_len x (strOk_cps h)⟩
  induction n with
  | zero =>
    intro d h
    by_cases a : atomD d = true
    · exact atom 0 d a h
    · cases d <;> first | (simp [shN] at h; done) | exact absurd rfl a
  | succ n ih =>
    have all : ∀ l : List D, l.all (shN n) = true → PyData.showableAll (toPys l) = true ∧ piled (PyData.shownAll (toPys l)) ≤ wDs l := by
      intro l
      induction l with
      | nil => intro _; exact ⟨rfl, Nat.zero_le _⟩
      | cons d l ih2 =>
        intro h
        rw [List.all_cons, Bool.and_eq_true] at h
        obtain ⟨h1, h2⟩ := ih d h.1
        obtain ⟨h3, h4⟩ := ih2 h.2
        refine ⟨by simp [toPys, PyData.showableAll, h1, h3], ?_⟩
        simp only [toPys, PyData.shownAll, piled_cons, wDs]
        omega
    intro d h
    by_cases a : atomD d = true
    · exact atom (n + 1) d a h
    · cases d <;> first | (simp [shN] at h; done) | (exact absurd rfl a) | skip
      · rename_i l
        obtain ⟨h1, h2⟩ := all l h
        refine ⟨by simpa [toPy, PyData.showable] using h1, ?_⟩
        simp only [toPy, PyData.shown, wD]
        have := tupT_len (PyData.shownAll (toPys l))
        omega
      · rename_i l
        obtain ⟨h1, h2⟩ := all l h
        refine ⟨by simpa [toPy, PyData.showable] using h1, ?_⟩
        simp only [toPy, PyData.shown, wD]
        have := lstT_len (PyData.shownAll (toPys l))
        omega
theorem rep_ok {d : D} (h : shN 20 d = true) (hw : wD d ≤ 16777216) : repOk d = true := by
  obtain ⟨h1, h2⟩ := sh_show 20 d h
  unfold repOk
  rw [sh_fit 20 d h, h1, decide_eq_true (Nat.le_trans h2 hw)]
  rfl
theorem sh_int {n : Nat} {i : Int} (h : i.natAbs.log2 < 1920) : shN n (.int i) = true := by cases n <;> exact decide_eq_true h
theorem log_int {i : Int} (h : i.natAbs < 2 ^ 1900) : i.natAbs.log2 < 1920 := by
  by_cases z : i.natAbs = 0
  · rw [z]; decide
  · exact (Nat.log2_lt z).mpr (Nat.lt_trans h (Nat.pow_lt_pow_right (by decide) (by decide)))
end MP

namespace MP
open PySem PySem.Spec
/-! ### a loop that ends by an exception -/
section
variable {env : Envm} {S : Sto} {P : D → Sto → Prop}
end
end MP

namespace MP
open PySem PySem.Spec
/-! ### notes that are there, notes that are not -/
end MP

namespace MP
open PySem PySem.Spec
/-! ### lists that are lent -/
theorem okE_dLend {env : Envm} {S : Sto} (de : DE) (Q : D → Sto → Prop) : okE (dLend de env S) Q = okE (de (env.map (lendSl S)) []) fun d _ => okE (scR d S) Q := by
  unfold dLend
  cases de (env.map (lendSl S)) [] with
  | ok d S1 => rw [okE_ok]
  | xn c x S1 => rw [show (okE (Res.xn c x S1) fun d _ => okE (scR d S) Q) = False from propext ⟨fun ⟨_, _, h, _⟩ => (nomatch h), fun h => h.elim⟩]; exact okE_bad _
  | bad => rw [okE_bad]; exact (okE_bad _).symm
theorem scR_bl (b : Bool) (S : Sto) : scR (.bl b) S = .ok (.bl b) S := rfl
theorem lmap_n (S : Sto) : ([] : Envm).map (lendSl S) = [] := rfl
theorem lmap_c (S : Sto) (s : Sl) (e : Envm) : (s :: e).map (lendSl S) = lendSl S s :: e.map (lendSl S) := rfl
theorem lend_no (S : Sto) : lendSl S .no = .no := rfl
theorem lend_int (S : Sto) (i : Int) : lendSl S (.va (.int i)) = .va (.int i) := lendSl_id rfl
theorem lend_bl (S : Sto) (i : Bool) : lendSl S (.va (.bl i)) = .va (.bl i) := lendSl_id rfl
theorem lend_str (S : Sto) (x : Str) : lendSl S (.va (.str x)) = .va (.str x) := lendSl_id rfl
theorem nl_cons {d : D} {ds : List D} (h : noLoc d = true) (hs : noLocs ds = true) : noLocs (d :: ds) = true := by
  show (noLoc d && noLocs ds) = true
  rw [h, hs]
  rfl
theorem nl_map {α : Type} {f : α → D} {l : List α} (h : ∀ x ∈ l, noLoc (f x) = true) : noLocs (l.map f) = true := by
  induction l with
  | nil => rfl
  | cons x l ih => exact nl_cons (h x List.mem_cons_self) (ih fun y hy => h y (List.mem_cons_of_mem _ hy))
theorem nl_app {a b : List D} (ha : noLocs a = true) (hb : noLocs b = true) : noLocs (a ++ b) = true := by
  induction a with
  | nil => exact hb
  | cons d a ih =>
    have ha : (noLoc d && noLocs a) = true := ha
    rw [Bool.and_eq_true] at ha
    exact nl_cons ha.1 (ih ha.2)
theorem nl_ints (l : List Int) : noLocs (l.map D.int) = true := nl_map fun _ _ => rfl
theorem nl_lks (l : List Lk) : noLocs (l.map lkD) = true := nl_map fun _ _ => rfl
theorem lend_loc {S : Sto} {m : Nat} {xs : List D} (h : S[m]? = some (.l xs)) (hx : noLocs xs = true) : lendSl S (.va (.loc m)) = .va (.lst xs) := by
  have e : lendD S (.loc m) = .lst xs := by
    rw [lendD, h]
    show (if noLocs xs = true then D.lst xs else .loc m) = _
    rw [if_pos hx]
  show (if noLoc (lendD S (.loc m)) = true then Sl.va (lendD S (.loc m)) else Sl.no) = _
  rw [e, if_pos (show noLoc (.lst xs) = true from hx)]
theorem top_at (S : Sto) (x : O) : (S ++ [x])[S.length]? = some x := by simp
theorem Bx.app {S : Sto} {b k : Nat} (h : Bx S b k) (x : O) : Bx (S ++ [x]) b k := by
  obtain ⟨u, v, w, h1, h2, h3, h4⟩ := h.ex
  refine ⟨u, v, w, ?_, h2, h3, h4⟩
  rw [List.getElem?_append_left (List.getElem?_eq_some_iff.mp h1).1]
  exact h1
theorem Bx.lt {S : Sto} {b k : Nat} (h : Bx S b k) : b < S.length := by
  obtain ⟨u, v, w, h1, _⟩ := h.ex
  exact (List.getElem?_eq_some_iff.mp h1).1
theorem Bx.put {S : Sto} {b k n : Nat} (h : Bx S b k) (ne : n ≠ b) (x : O) : Bx (S.set n x) b k := by
  obtain ⟨u, v, w, h1, h2, h3, h4⟩ := h.ex
  exact ⟨u, v, w, by rw [List.getElem?_set_ne ne]; exact h1, h2, h3, h4⟩
theorem ok_mut1L {env : Envm} {S : Sto} {i n : Nat} {d : D} {ds : List D} {de : DE} {N : PN} {T : PT} {K C : PN} (h1 : env[i]? = some (.va (.loc n))) (h2 : okE (de env S) fun v S1 => v = d ∧ S1 = S) (h3 : S[n]? = some (.l ds)) (h4 : ds.length ≤ 100000) (q : N env (S.set n (.l (ds ++ [d])))) : okO (dMut1 i fApp de env S) N T K C := by
  obtain ⟨v2, S2, e2, g2, f2⟩ := h2
  rw [f2, g2] at e2
  have l1 : listSlot i env S = true := by
    unfold listSlot
    rw [h1]
    show (match S[n]? with | some (.l _) => true | _ => false) = true
    rw [h3]
  unfold dMut1
  rw [if_pos l1, e2]
  show okO (mutL i (fApp · d) env S) N T K C
  unfold mutL
  rw [h1]
  show okO (match S[n]? with
    | some (.l ds) => (match fApp ds d with
      | some ds' => .nx env (S.set n (.l ds'))
      | none => .bad)
    | _ => .bad) N T K C
  rw [h3]
  show okO (match fApp ds d with
      | some ds' => .nx env (S.set n (.l ds'))
      | none => .bad) N T K C
  rw [app_ok h4]
  exact q
end MP

namespace MP
open PySem PySem.Spec
/-! ### sizes of branches -/
def backD (b : Int) : D := if b = -1 then .non else .int b
/-- the part of the branches that is walked -/
def ksT (L : List Lk) (v b : Int) (i : Nat) : List Int := ((mates L v).take i).filter fun x => !decide (x = b)
section
variable {B : Tb} {d : D} {L : List Lk}
end
end MP

namespace MP
open PySem PySem.Spec
/-! ### how many closings -/
def facI : Nat → Int
  | 0 => 1
  | n + 1 => facI n * (1 + n)
def closF (L : List Lk) (c : Nat) (v : Int) : Int := (pstF L c v (-1)).foldl (fun a s => a / s) (facI c)
def b_cc (C : Calls) : DS :=
  (dSeqS
  (dSet 1 (rv (dC (.int 0))))
  (dSeqS
  (dFor (dRange1 (fz (dOp fIx (dBVar 0) (dC (.int 0))))) (.nm 2) (dSeqS
  (dPar [5, 6] (rCons (dLst dNil) (rCons (rv (dC (.int 1))) rNil)))
  (dSeqS
  (dDropB 5 (fz (dCall C 421 (dCons (fz (dOp fIx (dBVar 0) (dC (.int 1)))) (dCons (dVar 2) (dCons (dC .non) (dCons (dVar 5) dNil)))))))
  (dSeqS
  (dFor (dRange2 (dC (.int 1)) (fz (dOp fAdd (fz (dOp fIx (dBVar 0) (dC (.int 0)))) (dC (.int 1))))) (.nm 3) (dAug 6 fIMul (dBVar 3)))
  (dSeqS
  (dFrz 5 (dFor (dSeq (dVar 5)) (.nm 4) (dAug 6 fIDiv (dBVar 4))))
  (dAug 1 (pureO (gI fun i j => i + j)) (dBVar 6)))))))
  (dRet (dMv 1))))
def q_cc : FD := ⟨"count_closings", 1, 7, b_cc⟩
theorem SeqL.nl {d : D} {L : List Lk} (h : SeqL d L) : noLoc d = true := by
  cases h with
  | tup => exact nl_lks L
  | lst => exact nl_lks L
  | lls => exact nl_map (l := L) (f := lkLD) fun _ _ => rfl
end MP

namespace MP
open PySem PySem.Spec
/-! ### what can be reached; trees -/
theorem ok_pop {env : Envm} {S : Sto} {i j : Nat} {es : List D} {y : D} {N : PN} {T : PT} {K C : PN} (hij : i ≠ j) (h : env[j]? = some (.ow (.l (es ++ [y])))) (q : N ((env.set j (.ow (.l es))).set i (.va y)) S) : okO (dPop i j env S) N T K C := by
  unfold dPop
  rw [if_pos hij, h]
  have e1 : (es ++ [y])[(es ++ [y]).length - 1]? = some y := by simp
  have e2 : (es ++ [y]).dropLast = es := by simp
  show okO (match (es ++ [y])[(es ++ [y]).length - 1]? with
    | some y' => .nx ((env.set j (.ow (.l (es ++ [y]).dropLast))).set i (.va y')) S
    | none => .bad) N T K C
  rw [e1, e2]
  exact q
def Closed (c : Nat) (L : List Lk) (F : List Int) : Prop := F.Nodup ∧ (∀ x ∈ F, 0 ≤ x ∧ x < (c : Int)) ∧ (0 : Int) ∈ F ∧ ∀ x ∈ F, ∀ y ∈ mates L x, y ∈ F
section
variable {B : Tb} {n c : Nat} {S : Sto} {d : D} {L : List Lk}
theorem mates_inr (hr : ∀ l ∈ L, 0 ≤ l.1 ∧ l.1 < l.2 ∧ l.2 < (c : Int)) {v x : Int} (h : x ∈ mates L v) : 0 ≤ x ∧ x < (c : Int) := by
  obtain ⟨l', h1, h2⟩ := List.mem_map.mp h
  have := hr l' (List.mem_filter.mp h1).1
  unfold other at h2
  split at h2 <;> omega
def bun_5 := And.intro @okE_dXf (And.intro @isNon_ex (And.intro @isNon_ex0 (And.intro @ev_dDget (And.intro @getR_s (And.intro @getR_n (And.intro @ev_dIndex (And.intro @ev_dIndexD (And.intro @okE_dLend (And.intro @scR_bl (And.intro @lmap_n (And.intro @lmap_c (And.intro @lend_no (And.intro @lend_int (And.intro @lend_bl (@lend_str)))))))))))))))
local macro_rules | `(tactic| simp! only [$xs,*] $[$l:location]?) => `(tactic| simp only [bun_0, bun_1, bun_2, bun_3, bun_4, bun_5, sv_at, sv_ta, sv_it, sv_ti, sv_dt, sv_df, sv_ft, sv_nt, sv_nn, sv_tt, sv_fn, sv_c0, sv_c1, sv_c2, sv_c3, sv_c4, sv_c5, sv_c6, sv_dT, sv_dF, sv_nT, sv_nF, sv_ifT, sv_ifF, sv_iP, sv_iQ, reduceDIte, reduceIte, reduceCtorEq, Nat.reduceEqDiff, Nat.reduceGT, Nat.reduceSubDiff, Nat.reduceMod, Nat.reduceAdd, Nat.reduceBNe, Nat.reduceLeDiff, Nat.reduceSub, Nat.reduceDiv, Nat.reduceMul, Nat.reduceBEq, Nat.reduceSucc, Nat.reduceLT, Nat.reducePow, Int.reduceGE, Int.reduceToNat, Int.reduceEq, Int.reduceOfNat, Int.reduceGT, Int.reducePow, Int.reduceDiv, Int.reduceMul, Int.reduceBEq, Int.reduceNe, Int.reduceSub, Int.reduceLT, Int.reduceNeg, Int.reduceBNe, Int.reduceAdd, Int.reduceLE, Int.reduceMod, Int.reduceNegSucc, $xs,*] $[$l:location]?)
theorem sp_reachedP (P : Int → Prop) (p0 : P 0) (pc : ∀ x, P x → ∀ y ∈ mates L x, P y) (hN : B i_neighbours = some q_neighbours) (hB : B i_reached = some q_reached) (hd : SeqL d L) (hl : L.length ≤ 1000) (hc : c ≤ 1000) (h1 : 1 ≤ c) (hr : ∀ l ∈ L, 0 ≤ l.1 ∧ l.1 < l.2 ∧ l.2 < (c : Int)) :
    ∃ F : List Int, callN B (n + 2) i_reached [.int c, d] S = .ok (.o (.l (F.map D.int))) S ∧ Closed c L F ∧ ∀ x ∈ F, P x := by
  have nb : ∀ (p : Int) S, callN B (n + 1) 395 [d, .int p] S = .ok (.o (.l ((mates L p).map D.int))) S := fun p S => sp_neigh hN hd (by omega)
  have key : okE (callN B (n + 2) i_reached [.int c, d] S) fun r S' => ∃ F : List Int, r = .o (.l (F.map D.int)) ∧ S' = S ∧ Closed c L F ∧ ∀ x ∈ F, P x := by
    refine ok_call (hB.trans rfl) rfl ?_
    unfold b_reached
    refine ok_seqG fun N1 hN1 => ?_
    simp! only []
    refine hN1 _ _ ?_
    refine ok_seqG fun N2 hN2 => ?_
    refine ok_while0 [2, 3, 4, 5] (fun m vs S' => S' = S ∧ ∃ (F Fr : List Int) (u w : Sl), vs = [.ow (.l (F.map D.int)), .ow (.l (Fr.map D.int)), u, w] ∧ m = 2 * (c - F.length) + Fr.length ∧ Fr.length ≤ F.length ∧ F.Nodup ∧ (∀ x ∈ F, 0 ≤ x ∧ x < (c : Int)) ∧ (0 : Int) ∈ F ∧ (∀ x ∈ Fr, x ∈ F) ∧ (∀ x ∈ F, P x) ∧ ∀ x ∈ F, x ∉ Fr → ∀ y ∈ mates L x, y ∈ F) (2 * (c - 1) + 1) [.ow (.l [.int 0]), .ow (.l [.int 0]), .no, .no] (by omega) rfl ⟨rfl, [0], [0], .no, .no, rfl, rfl, by simp, by simp, by intro x hx; have := List.mem_singleton.mp hx; omega, by simp, fun x hx => hx, fun x hx => by rw [List.mem_singleton.mp hx]; exact p0, fun x hx hn => absurd hx hn⟩ ?_
    rintro N3 K3 T3 hK hT m vs S' ⟨rfl, F, Fr, u, w, rfl, em, lef, nd, hF, h0, hsub, hp, hcl⟩ hN3
    rcases List.eq_nil_or_concat Fr with rfl | ⟨Fr', t, rfl⟩
    · simp! only []
      refine hK _ _ (hN2 _ _ ?_)
      simp! only []
      exact ⟨F, rfl, ⟨nd, hF, h0, fun x hx => hcl x hx (by simp)⟩, hp⟩
    · have ht : t ∈ F := hsub t (by simp)
      rw [List.length_concat] at lef em
      have cc : (Fr'.concat t).map D.int = Fr'.map D.int ++ [.int t] := by simp
      have fl := too_many nd hF
      simp! only []
      have pos2 : (((Fr'.concat t).length : Int) > 0) = True := eq_true (by rw [List.length_concat]; omega)
      simp only [pos2, decide_true, if_true]
      rw [cc]
      refine ok_pop (es := Fr'.map D.int) (y := .int t) (by decide) rfl ?_
      simp! only [nb]
      refine ok_for0 [2, 3, 5] (mates L t) D.int (fun i vs S2 => S2 = S' ∧ ∃ (F2 Fr2 : List Int) (w : Sl), vs = [.ow (.l (F2.map D.int)), .ow (.l (Fr2.map D.int)), w] ∧ F2.length + Fr'.length = F.length + Fr2.length ∧ F.length ≤ F2.length ∧ F2.Nodup ∧ (∀ x ∈ F2, 0 ≤ x ∧ x < (c : Int)) ∧ (0 : Int) ∈ F2 ∧ (∀ x ∈ Fr2, x ∈ F2) ∧ (∀ x ∈ F2, P x) ∧ (∀ y ∈ (mates L t).take i, y ∈ F2) ∧ ∀ x ∈ F2, x ∉ Fr2 → x = t ∨ ∀ y ∈ mates L x, y ∈ F2)
        [.ow (.l (F.map D.int)), .ow (.l (Fr'.map D.int)), w] rfl ⟨rfl, F, Fr', w, rfl, by omega, Nat.le_refl _, nd, hF, h0, fun x hx => hsub x (by simp [hx]), hp, by simp, fun x hx hn => ?_⟩ ?_ ?_
      · by_cases e : x = t
        · exact .inl e
        · exact .inr (hcl x hx (by simp [hn, e]))
      · rintro N5 K5 T5 hK5 hT5 i x vs S2 hx ⟨rfl, F2, Fr2, w2, rfl, e2, le2, nd2, hF2, h02, hsub2, hp2, hdone, hcl2⟩ hN5
        have xr := mates_inr hr (List.mem_of_getElem? hx)
        have nin := fun S => fNotIn_lst x F2 S
        obtain ⟨hi, exi⟩ := List.getElem?_eq_some_iff.mp hx
        have tk : ∀ y, y ∈ (mates L t).take (i + 1) → y ∈ (mates L t).take i ∨ y = x := fun y hy => by
          rw [List.take_succ_eq_append_getElem hi, exi] at hy
          rcases List.mem_append.mp hy with h | h
          · exact .inl h
          · exact .inr (List.mem_singleton.mp h)
        have fl2 := too_many nd2 hF2
        by_cases hm : x ∈ F2
        · have dm : decide (x ∈ F2) = true := decide_eq_true hm
          simp! only [nin, dm]
          refine hN5 [_, _, _] _ ⟨rfl, F2, Fr2, .va (.int x), rfl, e2, le2, nd2, hF2, h02, hsub2, hp2, fun y hy => ?_, hcl2⟩
          rcases tk y hy with h | h
          · exact hdone y h
          · rw [h]; exact hm
        · have dm : decide (x ∈ F2) = false := decide_eq_false hm
          have nd3 : (F2 ++ [x]).Nodup := List.nodup_append.mpr ⟨nd2, by simp, fun a ha b hb e => by
            rw [List.mem_singleton.mp hb] at e
            exact hm (by rw [← e]; exact ha)⟩
          have hF3 : ∀ y ∈ F2 ++ [x], 0 ≤ y ∧ y < (c : Int) := fun y hy => by
            rcases List.mem_append.mp hy with h | h
            · exact hF2 y h
            · rw [List.mem_singleton.mp h]; exact xr
          have fl3 := too_many nd3 hF3
          rw [List.length_append] at fl3
          have a1 := app_ok (ds := F2.map D.int) (d := .int x) (by rw [List.length_map]; omega)
          have a2 := app_ok (ds := Fr2.map D.int) (d := .int x) (by rw [List.length_map]; omega)
          simp! only [nin, dm, a1, a2]
          have m1 : F2.map D.int ++ [.int x] = (F2 ++ [x]).map D.int := by simp
          have m2 : Fr2.map D.int ++ [.int x] = (Fr2 ++ [x]).map D.int := by simp
          rw [m1, m2]
          refine hN5 [_, _, _] _ ⟨rfl, F2 ++ [x], Fr2 ++ [x], .va (.int x), rfl, by simp; omega, by simp; omega, nd3, hF3, by simp [h02], fun y hy => ?_, fun y hy => ?_, fun y hy => ?_, fun y hy hn => ?_⟩
          · rcases List.mem_append.mp hy with h | h
            · exact List.mem_append_left _ (hsub2 y h)
            · exact List.mem_append_right _ h
          · rcases List.mem_append.mp hy with h | h
            · exact hp2 y h
            · rw [List.mem_singleton.mp h]
              exact pc t (hp t ht) x (List.mem_of_getElem? hx)
          · rcases tk y hy with h | h
            · exact List.mem_append_left _ (hdone y h)
            · rw [h]; simp
          · rw [List.mem_append, not_or] at hn
            rcases List.mem_append.mp hy with h | h
            · rcases hcl2 y h hn.1 with z | z
              · exact .inl z
              · exact .inr fun k hk => List.mem_append_left _ (z k hk)
            · exact absurd h hn.2
      · rintro vs S2 ⟨rfl, F2, Fr2, w2, rfl, e2, le2, nd2, hF2, h02, hsub2, hp2, hdone, hcl2⟩
        rw [List.take_length] at hdone
        have fl2 := too_many nd2 hF2
        simp! only []
        refine hN3 (2 * (c - F2.length) + Fr2.length) [_, _, _, _] _ ?_ ⟨rfl, F2, Fr2, .va (.int t), w2, rfl, rfl, by omega, nd2, hF2, h02, hsub2, hp2, fun x hx hn y hy => ?_⟩
        · omega
        · rcases hcl2 x hx hn with z | z
          · subst z; exact hdone y hy
          · exact z y hy
  obtain ⟨r, S1, h2, F, rfl, rfl, h3⟩ := key
  exact ⟨F, h2, h3⟩
end
end MP

namespace MP
open PySem PySem.Spec
def b_itb (C : Calls) : DS :=
  (dSeqS
  (dIfS (dOrT (dNotT (dB (fz (dBlt bIsi (dCons (dBVar 0) (dCons (dC (.ty "tuple")) dNil)))))) (dOrT (dB (fz (dOp fNe (fz (dBlt bLen (dCons (dBVar 0) dNil))) (dC (.int 2))))) (dOrT (dNotT (dB (fz (dCall C 312 (dCons (fz (dOp fIx (dBVar 0) (dC (.int 0)))) dNil))))) (dB (fz (dOp fLt (fz (dOp fIx (dBVar 0) (dC (.int 0)))) (dC (.int 1)))))))) (dRet (rv (dC (.bl false)))) dSkip)
  (dSeqS
  (dIfS (dOrT (dNotT (dB (fz (dBlt bIsi (dCons (fz (dOp fIx (dBVar 0) (dC (.int 1)))) (dCons (dC (.ty "tuple")) dNil)))))) (dNotT (dB (fz (dBlt bAll (dCons (fz (dComp (dSeq (fz (dOp fIx (dBVar 0) (dC (.int 1))))) [1] (.nm 1) dYes (fz (dCall C 316 (dCons (dVar 1) (dCons (fz (dOp fIx (dBVar 0) (dC (.int 0)))) dNil)))))) dNil)))))) (dRet (rv (dC (.bl false)))) dSkip)
  (dSeqS
  (dIfS (dOrT (dB (fz (dOp fNe (fz (dBlt bLen (dCons (fz (dOp fIx (dBVar 0) (dC (.int 1)))) dNil))) (fz (dOp fSub (fz (dOp fIx (dBVar 0) (dC (.int 0)))) (dC (.int 1))))))) (dB (fz (dOp fNe (fz (dBlt bList (dCons (fz (dOp fIx (dBVar 0) (dC (.int 1)))) dNil))) (fz (dSortSetP (fz (dOp fIx (dBVar 0) (dC (.int 1)))))))))) (dRet (rv (dC (.bl false)))) dSkip)
  (dRet (dOp fEq (fz (dBlt bLen (dCons (fz (dCall C 410 (dCons (fz (dOp fIx (dBVar 0) (dC (.int 0)))) (dCons (fz (dOp fIx (dBVar 0) (dC (.int 1)))) dNil)))) dNil))) (fz (dOp fIx (dBVar 0) (dC (.int 0)))))))))
def q_itb : FD := ⟨"is_tree", 1, 2, b_itb⟩
def codeL (l : Lk) : Int := l.1 * 64 + l.2
theorem usort_id {l : List Int} (h : l.Pairwise (· < ·)) : usort l = l := lt_unique (usort_lt l) h fun k => mem_usort
theorem codes_lks : ∀ {Rl : List Lk}, (∀ l ∈ Rl, (0 ≤ l.1 ∧ l.1 < 64) ∧ (0 ≤ l.2 ∧ l.2 < 64)) → codesOf (Rl.map lkD) = some (Rl.map codeL)
  | [], _ => rfl
  | l :: Rl, h => by
    have h1 := h l List.mem_cons_self
    show (if 0 ≤ l.1 ∧ l.1 < 64 ∧ 0 ≤ l.2 ∧ l.2 < 64 then (codesOf (Rl.map lkD)).map (fun x => (l.1 * 64 + l.2) :: x) else none) = _
    rw [if_pos ⟨h1.1.1, h1.1.2, h1.2.1, h1.2.2⟩, codes_lks fun x hx => h x (List.mem_cons_of_mem _ hx)]
    rfl
theorem sortSetP_lks {Rl : List Lk} (S : Sto) (hl : Rl.length ≤ 60) (hr : ∀ l ∈ Rl, (0 ≤ l.1 ∧ l.1 < 64) ∧ (0 ≤ l.2 ∧ l.2 < 64)) (so : Rl.Pairwise fun a b => leL a b = true) (nd : Rl.Nodup) :
    fSortSetP (.tup (Rl.map lkD)) S = .ok (.o (.l (Rl.map lkD))) S := by
  have up : (Rl.map codeL).Pairwise (· < ·) := by
    rw [List.pairwise_map]
    refine (so.and nd).imp_of_mem fun {a b} ha hb h => ?_
    obtain ⟨h1, h2⟩ := h
    rw [leL_iff] at h1
    have ra := hr a ha
    have rb := hr b hb
    unfold codeL
    by_cases e : a.2 = b.2
    · have : a.1 ≠ b.1 := fun z => h2 (Prod.ext z e)
      omega
    · omega
  have back : (Rl.map codeL).map dPr = Rl.map lkD := by
    rw [List.map_map]
    refine List.map_congr_left fun l hl => ?_
    have := hr l hl
    show dPr (codeL l) = lkD l
    unfold dPr codeL lkD
    have e1 : (l.1 * 64 + l.2) / 64 = l.1 := by omega
    have e2 : (l.1 * 64 + l.2) % 64 = l.2 := by omega
    rw [e1, e2]
  show (match codesOf (Rl.map lkD) with
    | some cs => if cs.length ≤ 60 then Res.ok (R.o (.l ((usort cs).map dPr))) S else Res.bad
    | none => Res.bad) = _
  rw [codes_lks hr]
  show (if (Rl.map codeL).length ≤ 60 then _ else _) = _
  rw [if_pos (by rw [List.length_map]; exact hl), usort_id up, back]
theorem ev_sortSetP (da : DE) (env : Envm) (S : Sto) : dSortSetP da env S = (da env S).bind fSortSetP := rfl
section
variable {B : Tb} {n c : Nat} {S : Sto}
def bun_6 := @ev_sortSetP
local macro_rules | `(tactic| simp! only [$xs,*] $[$l:location]?) => `(tactic| simp only [bun_0, bun_1, bun_2, bun_3, bun_4, bun_5, bun_6, sv_at, sv_ta, sv_it, sv_ti, sv_dt, sv_df, sv_ft, sv_nt, sv_nn, sv_tt, sv_fn, sv_c0, sv_c1, sv_c2, sv_c3, sv_c4, sv_c5, sv_c6, sv_dT, sv_dF, sv_nT, sv_nF, sv_ifT, sv_ifF, sv_iP, sv_iQ, reduceDIte, reduceIte, reduceCtorEq, Nat.reduceEqDiff, Nat.reduceGT, Nat.reduceSubDiff, Nat.reduceMod, Nat.reduceAdd, Nat.reduceBNe, Nat.reduceLeDiff, Nat.reduceSub, Nat.reduceDiv, Nat.reduceMul, Nat.reduceBEq, Nat.reduceSucc, Nat.reduceLT, Nat.reducePow, Int.reduceGE, Int.reduceToNat, Int.reduceEq, Int.reduceOfNat, Int.reduceGT, Int.reducePow, Int.reduceDiv, Int.reduceMul, Int.reduceBEq, Int.reduceNe, Int.reduceSub, Int.reduceLT, Int.reduceNeg, Int.reduceBNe, Int.reduceAdd, Int.reduceLE, Int.reduceMod, Int.reduceNegSucc, $xs,*] $[$l:location]?)
theorem sp_isroad {l : Lk} (hU : B i_is_number = some q_is_number) (hB : B i_is_road = some q_is_road) (h : 0 ≤ l.1 ∧ l.1 < l.2 ∧ l.2 < (c : Int)) : callN B (n + 2) i_is_road [lkD l, .int c] S = .ok (.v (.bl true)) S := by
  have nu : ∀ (p : Int) S, callN B (n + 1) 312 [.int p] S = .ok (.v (.bl true)) S := fun p S => sp_number hU
  refine eq_of_ok (ok_call (hB.trans rfl) rfl ?_)
  unfold b_is_road lkD
  refine ok_seqG fun N1 hN1 => ?_
  simp! only [nu]
  refine hN1 _ _ ?_
  simp! only [h.1, h.2.1, h.2.2]
end
end MP

namespace MP
open PySem PySem.Spec
/-! ### groups of towns that roads join -/
def grAt (G : List (List Int)) (x : Int) : List Int := (G.filter fun g => decide (x ∈ g)).headD []
def grJoin (G : List (List Int)) (l : Lk) : List (List Int) := (G.filter fun g => decide (g ≠ grAt G l.1) && decide (g ≠ grAt G l.2)) ++ [grAt G l.1 ++ grAt G l.2]
def grStep (G : List (List Int)) (l : Lk) : List (List Int) := if l.2 ∈ grAt G l.1 then G else grJoin G l
def noRing : List (List Int) → List Lk → Bool
  | _, [] => true
  | G, l :: L => if l.2 ∈ grAt G l.1 then false else noRing (grJoin G l) L
structure Part (c : Int) (G : List (List Int)) : Prop where
  ne : ∀ g ∈ G, g ≠ []
  cov : ∀ x, 0 ≤ x → x < c → ∃ g ∈ G, x ∈ g
  inr : ∀ g ∈ G, ∀ x ∈ g, 0 ≤ x ∧ x < c
  dis : G.Pairwise fun g h => ∀ x ∈ g, x ∉ h
def sameG (G : List (List Int)) (x y : Int) : Prop := ∃ g ∈ G, x ∈ g ∧ y ∈ g
section
variable {c : Int} {G : List (List Int)}
theorem Part.at_ (h : Part c G) {x : Int} (x0 : 0 ≤ x) (x1 : x < c) : grAt G x ∈ G ∧ x ∈ grAt G x := by
  obtain ⟨g, hg, hx⟩ := h.cov x x0 x1
  have hm : g ∈ G.filter fun g => decide (x ∈ g) := List.mem_filter.mpr ⟨hg, decide_eq_true hx⟩
  unfold grAt
  cases e : G.filter fun g => decide (x ∈ g) with
  | nil => rw [e] at hm; cases hm
  | cons a l =>
    have ha : a ∈ G.filter fun g => decide (x ∈ g) := by rw [e]; exact List.mem_cons_self
    have := List.mem_filter.mp ha
    exact ⟨this.1, of_decide_eq_true this.2⟩
theorem dis_eq : ∀ {G : List (List Int)}, (G.Pairwise fun g h => ∀ x ∈ g, x ∉ h) → ∀ {g h : List Int} {x : Int}, g ∈ G → h ∈ G → x ∈ g → x ∈ h → g = h
  | [], _, _, _, _, hg, _, _, _ => by cases hg
  | a :: G, p, g, h, x, hg, hh, xg, xh => by
    rw [List.pairwise_cons] at p
    rcases List.mem_cons.mp hg with e1 | hg
    · rcases List.mem_cons.mp hh with e2 | hh
      · rw [e1, e2]
      · rw [e1] at xg
        exact absurd xh (p.1 h hh x xg)
    · rcases List.mem_cons.mp hh with e2 | hh
      · rw [e2] at xh
        exact absurd xg (p.1 g hg x xh)
      · exact dis_eq p.2 hg hh xg xh
theorem Part.nd (h : Part c G) : G.Nodup := by
  refine (List.Pairwise.imp_of_mem (fun {a b} ha hb hab e => ?_) h.dis)
  subst e
  cases a with
  | nil => exact h.ne _ ha rfl
  | cons x l => exact hab x List.mem_cons_self List.mem_cons_self
theorem filter_ne_len : ∀ {G : List (List Int)} {m : List Int}, G.Nodup → m ∈ G → (G.filter fun g => decide (g ≠ m)).length + 1 = G.length
  | [], m, _, h => by cases h
  | a :: G, m, nd, h => by
    rw [List.nodup_cons] at nd
    by_cases e : a = m
    · subst e
      have e : (G.filter fun g => decide (g ≠ a)) = G := List.filter_eq_self.mpr fun g hg => decide_eq_true fun z => nd.1 (z ▸ hg)
      rw [List.filter_cons_of_neg (by simp), e]
      rfl
    · rw [List.filter_cons_of_pos (by simp [e]), List.length_cons, filter_ne_len nd.2 ((List.mem_cons.mp h).resolve_left fun z => e z.symm)]
      rfl
theorem Part.join (h : Part c G) {l : Lk} (a0 : 0 ≤ l.1) (a1 : l.1 < c) (b0 : 0 ≤ l.2) (b1 : l.2 < c) (n : l.2 ∉ grAt G l.1) : Part c (grJoin G l) ∧ (grJoin G l).length + 1 = G.length := by
  obtain ⟨m1, m2⟩ := h.at_ a0 a1
  obtain ⟨i1, i2⟩ := h.at_ b0 b1
  have ne : grAt G l.2 ≠ grAt G l.1 := fun e => n (e ▸ i2)
  unfold grJoin
  generalize grAt G l.1 = m at *
  generalize grAt G l.2 = i at *
  refine ⟨⟨fun g hg => ?_, fun x x0 x1 => ?_, fun g hg x hx => ?_, ?_⟩, ?_⟩
  · rcases List.mem_append.mp hg with hg | hg
    · exact h.ne g (List.mem_filter.mp hg).1
    · rw [List.mem_singleton.mp hg]
      exact fun z => h.ne m m1 (List.append_eq_nil_iff.mp z).1
  · obtain ⟨g, hg, hx⟩ := h.cov x x0 x1
    by_cases e1 : g = m
    · exact ⟨m ++ i, by simp, List.mem_append_left _ (e1 ▸ hx)⟩
    · by_cases e2 : g = i
      · exact ⟨m ++ i, by simp, List.mem_append_right _ (e2 ▸ hx)⟩
      · exact ⟨g, List.mem_append_left _ (List.mem_filter.mpr ⟨hg, by simp [e1, e2]⟩), hx⟩
  · rcases List.mem_append.mp hg with hg | hg
    · exact h.inr g (List.mem_filter.mp hg).1 x hx
    · rw [List.mem_singleton.mp hg] at hx
      rcases List.mem_append.mp hx with hx | hx
      · exact h.inr m m1 x hx
      · exact h.inr i i1 x hx
  · refine List.pairwise_append.mpr ⟨h.dis.filter _, List.pairwise_singleton _ _, fun g hg k hk x xg xk => ?_⟩
    rw [List.mem_singleton.mp hk] at xk
    obtain ⟨g1, g2⟩ := List.mem_filter.mp hg
    simp only [Bool.and_eq_true, decide_eq_true_eq] at g2
    rcases List.mem_append.mp xk with z | z
    · exact g2.1 (dis_eq h.dis g1 m1 xg z)
    · exact g2.2 (dis_eq h.dis g1 i1 xg z)
  · have e1 := filter_ne_len h.nd m1
    have e2 := filter_ne_len (G := G.filter fun g => decide (g ≠ m)) (m := i) (h.nd.filter _) (List.mem_filter.mpr ⟨i1, decide_eq_true ne⟩)
    rw [List.filter_filter] at e2
    rw [List.length_append, show (fun g => decide (g ≠ m) && decide (g ≠ i)) = fun g => decide (g ≠ i) && decide (g ≠ m) from funext fun g => Bool.and_comm _ _]
    show _ + 1 + 1 = _
    omega
theorem Part.same_join (h : Part c G) {l : Lk} (a0 : 0 ≤ l.1) (a1 : l.1 < c) (b0 : 0 ≤ l.2) (b1 : l.2 < c) {x y : Int} (s : sameG G x y) : sameG (grJoin G l) x y := by
  obtain ⟨m1, m2⟩ := h.at_ a0 a1
  obtain ⟨i1, i2⟩ := h.at_ b0 b1
  obtain ⟨g, hg, hx, hy⟩ := s
  unfold grJoin
  by_cases e1 : g = grAt G l.1
  · exact ⟨grAt G l.1 ++ grAt G l.2, by simp, List.mem_append_left _ (e1 ▸ hx), List.mem_append_left _ (e1 ▸ hy)⟩
  · by_cases e2 : g = grAt G l.2
    · exact ⟨grAt G l.1 ++ grAt G l.2, by simp, List.mem_append_right _ (e2 ▸ hx), List.mem_append_right _ (e2 ▸ hy)⟩
    · exact ⟨g, List.mem_append_left _ (List.mem_filter.mpr ⟨hg, by simp [e1, e2]⟩), hx, hy⟩
theorem Part.join_ends (h : Part c G) {l : Lk} (a0 : 0 ≤ l.1) (a1 : l.1 < c) (b0 : 0 ≤ l.2) (b1 : l.2 < c) : sameG (grJoin G l) l.1 l.2 := by
  obtain ⟨m1, m2⟩ := h.at_ a0 a1
  obtain ⟨i1, i2⟩ := h.at_ b0 b1
  exact ⟨grAt G l.1 ++ grAt G l.2, by simp [grJoin], List.mem_append_left _ m2, List.mem_append_right _ i2⟩
theorem Part.same_at (h : Part c G) {x y : Int} (x0 : 0 ≤ x) (x1 : x < c) : y ∈ grAt G x ↔ sameG G x y := by
  obtain ⟨m1, m2⟩ := h.at_ x0 x1
  constructor
  · exact fun hy => ⟨_, m1, m2, hy⟩
  · rintro ⟨g, hg, hx, hy⟩
    rw [dis_eq h.dis m1 hg m2 hx]
    exact hy
/-- what lies in one group is joined -/
def Joined (P : Int → Prop) (G : List (List Int)) : Prop := ∀ g ∈ G, ∀ x ∈ g, ∀ y ∈ g, (P x ↔ P y)
theorem Joined.join {P : Int → Prop} (h : Part c G) (j : Joined P G) {l : Lk} (a0 : 0 ≤ l.1) (a1 : l.1 < c) (b0 : 0 ≤ l.2) (b1 : l.2 < c) (e : P l.1 ↔ P l.2) : Joined P (grJoin G l) := by
  obtain ⟨m1, m2⟩ := h.at_ a0 a1
  obtain ⟨i1, i2⟩ := h.at_ b0 b1
  intro g hg x hx y hy
  rcases List.mem_append.mp hg with hg | hg
  · exact j g (List.mem_filter.mp hg).1 x hx y hy
  · rw [List.mem_singleton.mp hg] at hx hy
    have t : ∀ z ∈ grAt G l.1 ++ grAt G l.2, (P z ↔ P l.1) := fun z hz => by
      rcases List.mem_append.mp hz with hz | hz
      · exact j _ m1 z hz _ m2
      · exact (j _ i1 z hz _ i2).trans e.symm
    exact (t x hx).trans (t y hy).symm
/-- no ring: as many groups less as roads, all roads different, the groups joined -/
theorem noRing_true {P : Int → Prop} : ∀ {L : List Lk} {G : List (List Int)}, Part c G → Joined P G → (∀ l ∈ L, (0 ≤ l.1 ∧ l.1 < c) ∧ (0 ≤ l.2 ∧ l.2 < c) ∧ (P l.1 ↔ P l.2)) → noRing G L = true →
    ∃ G', Part c G' ∧ Joined P G' ∧ G'.length + L.length = G.length ∧ L.Nodup ∧ ∀ l ∈ L, ¬ sameG G l.1 l.2
  | [], G, p, j, _, _ => ⟨G, p, j, rfl, List.nodup_nil, fun l h => by cases h⟩
  | l :: L, G, p, j, hr, h => by
    unfold noRing at h
    obtain ⟨r1, r2, r3⟩ := hr l List.mem_cons_self
    by_cases n : l.2 ∈ grAt G l.1
    · rw [if_pos n] at h
      cases h
    · rw [if_neg n] at h
      obtain ⟨p2, len⟩ := p.join r1.1 r1.2 r2.1 r2.2 n
      obtain ⟨G', q1, q2, q3, q4, q5⟩ := noRing_true p2 (j.join p r1.1 r1.2 r2.1 r2.2 r3) (fun x hx => hr x (List.mem_cons_of_mem _ hx)) h
      refine ⟨G', q1, q2, by rw [List.length_cons]; omega, List.nodup_cons.mpr ⟨fun hm => q5 l hm (p.join_ends r1.1 r1.2 r2.1 r2.2), q4⟩, fun x hx => ?_⟩
      rcases List.mem_cons.mp hx with rfl | hx
      · exact fun s => n ((p.same_at r1.1 r1.2).mpr s)
      · exact fun s => q5 x hx (p.same_join r1.1 r1.2 r2.1 r2.2 s)
/-- going on through rings -/
theorem fold_all : ∀ {L : List Lk} {G : List (List Int)}, Part c G → (∀ l ∈ L, (0 ≤ l.1 ∧ l.1 < c) ∧ (0 ≤ l.2 ∧ l.2 < c)) →
    ∃ G', Part c G' ∧ (∀ l ∈ L, sameG G' l.1 l.2) ∧ (∀ x y, sameG G x y → sameG G' x y) ∧ G.length ≤ G'.length + L.length ∧ (noRing G L = false → G.length + 1 ≤ G'.length + L.length)
  | [], G, p, _ => ⟨G, p, (fun l h => absurd h List.not_mem_nil), (fun _ _ s => s), Nat.le_refl _, (fun h => by unfold noRing at h; cases h)⟩
  | l :: L, G, p, hr => by
    obtain ⟨r1, r2⟩ := hr l List.mem_cons_self
    by_cases n : l.2 ∈ grAt G l.1
    · obtain ⟨G', q1, q2, q3, q4, q5⟩ := fold_all p fun x hx => hr x (List.mem_cons_of_mem _ hx)
      refine ⟨G', q1, fun x hx => ?_, q3, by rw [List.length_cons]; omega, fun _ => by rw [List.length_cons]; omega⟩
      rcases List.mem_cons.mp hx with rfl | hx
      · exact q3 _ _ ((p.same_at r1.1 r1.2).mp n)
      · exact q2 x hx
    · obtain ⟨p2, len⟩ := p.join r1.1 r1.2 r2.1 r2.2 n
      obtain ⟨G', q1, q2, q3, q4, q5⟩ := fold_all p2 fun x hx => hr x (List.mem_cons_of_mem _ hx)
      refine ⟨G', q1, fun x hx => ?_, fun x y s => q3 x y (p.same_join r1.1 r1.2 r2.1 r2.2 s), by rw [List.length_cons]; omega, fun h => ?_⟩
      · rcases List.mem_cons.mp hx with rfl | hx
        · exact q3 _ _ (p.join_ends r1.1 r1.2 r2.1 r2.2)
        · exact q2 x hx
      · unfold noRing at h
        rw [if_neg n] at h
        have := q5 h
        rw [List.length_cons]
        omega
def ones (c : Nat) : List (List Int) := (rng c).map fun x => [x]
theorem ones_part (c : Nat) : Part (c : Int) (ones c) := by
  refine ⟨fun g hg => ?_, fun x x0 x1 => ⟨[x], List.mem_map.mpr ⟨x, mem_rng.mpr ⟨x0, x1⟩, rfl⟩, List.mem_singleton.mpr rfl⟩, fun g hg x hx => ?_, ?_⟩
  · obtain ⟨x, _, rfl⟩ := List.mem_map.mp hg
    simp
  · obtain ⟨y, hy, rfl⟩ := List.mem_map.mp hg
    rw [List.mem_singleton.mp hx]
    exact mem_rng.mp hy
  · unfold ones
    rw [List.pairwise_map]
    refine (rng_nodup c).imp fun {a b} h x hx hb => h ?_
    rw [← List.mem_singleton.mp hx, ← List.mem_singleton.mp hb]
theorem ones_joined (c : Nat) (P : Int → Prop) : Joined P (ones c) := by
  intro g hg x hx y hy
  obtain ⟨z, _, rfl⟩ := List.mem_map.mp hg
  rw [List.mem_singleton.mp hx, List.mem_singleton.mp hy]
theorem ones_len (c : Nat) : (ones c).length = c := by
  unfold ones
  rw [List.length_map, rng_len]
end
section
variable {c : Nat} {L : List Lk}
theorem mate_same {G : List (List Int)} (h : ∀ l ∈ L, sameG G l.1 l.2) {x y : Int} (hy : y ∈ mates L x) : sameG G x y := by
  obtain ⟨l, h1, h2⟩ := List.mem_map.mp hy
  obtain ⟨h3, h4⟩ := List.mem_filter.mp h1
  obtain ⟨g, hg, ha, hb⟩ := h l h3
  unfold touch at h4
  unfold other at h2
  simp only [Bool.or_eq_true, beq_iff_eq] at h4
  split at h2
  · rename_i e
    have e : l.1 = x := by simpa using e
    exact ⟨g, hg, e ▸ ha, h2 ▸ hb⟩
  · rename_i e
    have e : ¬ l.1 = x := by simpa using e
    have e2 : l.2 = x := by
      rcases h4 with z | z
      · exact absurd (by first | exact z | exact z.symm) e
      · first | exact z | exact z.symm
    exact ⟨g, hg, e2 ▸ hb, h2 ▸ ha⟩
/-- no ring: whole -/
theorem ring_conn (hl : L.length + 1 = c) (hr : ∀ l ∈ L, 0 ≤ l.1 ∧ l.1 < l.2 ∧ l.2 < (c : Int)) (h : noRing (ones c) L = true) : L.Nodup ∧ ∀ F, Closed c L F → F.length = c := by
  refine ⟨?_, fun F ⟨nd, hF, h0, hcl⟩ => ?_⟩
  · obtain ⟨_, _, _, _, nd, _⟩ := noRing_true (P := fun _ => True) (ones_part c) (ones_joined c _) (fun l hm => by have := hr l hm; exact ⟨by omega, by omega, Iff.rfl⟩) h
    exact nd
  · obtain ⟨G', p, j, len, _, _⟩ := noRing_true (P := fun x => x ∈ F) (ones_part c) (ones_joined c _) (fun l hm => by
      have := hr l hm
      refine ⟨by omega, by omega, ?_⟩
      have m1 : l.2 ∈ mates L l.1 := List.mem_map.mpr ⟨l, List.mem_filter.mpr ⟨hm, by simp [touch]⟩, by simp [other]⟩
      have m2 := mates_sym m1
      exact ⟨fun z => hcl _ z _ m1, fun z => hcl _ z _ m2⟩) h
    rw [ones_len] at len
    have l1 : G'.length = 1 := by omega
    obtain ⟨g, rfl⟩ := List.length_eq_one_iff.mp l1
    have all : ∀ x : Int, 0 ≤ x → x < c → x ∈ F := fun x x0 x1 => by
      obtain ⟨g1, e1, z1⟩ := p.cov 0 (by omega) (by omega)
      obtain ⟨g2, e2, z2⟩ := p.cov x x0 x1
      rw [List.mem_singleton.mp e1] at z1
      rw [List.mem_singleton.mp e2] at z2
      exact (j g List.mem_cons_self 0 z1 x z2).mp h0
    have pm : F.Perm (rng c) := (List.perm_ext_iff_of_nodup nd (rng_nodup c)).mpr fun x => ⟨fun hx => mem_rng.mpr (hF x hx), fun hx => all x (mem_rng.mp hx).1 (mem_rng.mp hx).2⟩
    rw [pm.length_eq, rng_len]
/-- a ring: what is joined to town 0 is not all -/
theorem ring_part (hl : L.length + 1 = c) (hr : ∀ l ∈ L, 0 ≤ l.1 ∧ l.1 < l.2 ∧ l.2 < (c : Int)) (h : noRing (ones c) L = false) : ∃ P : Int → Prop, P 0 ∧ (∀ x, P x → ∀ y ∈ mates L x, P y) ∧ ∃ z : Int, 0 ≤ z ∧ z < c ∧ ¬ P z := by
  obtain ⟨G', p, h1, _, h3, h4⟩ := fold_all (ones_part c) (L := L) fun l hm => by have := hr l hm; omega
  have h5 := h4 h
  rw [ones_len] at h5
  obtain ⟨g0, e0, z0⟩ := p.cov 0 (by omega) (by omega)
  have other_ : ∃ g ∈ G', g ≠ g0 := Classical.byContradiction fun n => by
    have al : ∀ g ∈ G', g = g0 := fun g hg => Classical.byContradiction fun w => n ⟨g, hg, w⟩
    match G', p, h5, al with
    | a :: b :: G2, p, _, al =>
      have := p.nd
      rw [List.nodup_cons] at this
      exact this.1 (by rw [al a (by simp), ← al b (by simp)]; simp)
    | [a], _, h5, _ =>
      simp at h5
      omega
    | [], _, h5, _ =>
      simp at h5
      omega
  obtain ⟨g1, e1, n1⟩ := other_
  obtain ⟨z, hz⟩ := List.exists_mem_of_ne_nil g1 (p.ne g1 e1)
  refine ⟨fun x => x ∈ g0, z0, fun x hx y hy => ?_, z, (p.inr g1 e1 z hz).1, (p.inr g1 e1 z hz).2, fun w => n1 (dis_eq p.dis e1 e0 hz w)⟩
  obtain ⟨g, hg, a, b⟩ := mate_same h1 hy
  rw [dis_eq p.dis e0 hg hx a]
  exact b
end
end MP

namespace MP
open PySem PySem.Spec
/-! ### the laws' changed values (printed by gen.py) -/
def b_bent (C : Calls) : DS :=
  (dSeqS
  (dSet 2 (dCall C 238 (dCons (dVar 0) (dCons (dC (.int 6)) dNil))))
  (dSeqS
  (dIfS (dAndT (dB (fz (dBlt bIsi (dCons (dBVar 1) (dCons (dTup (dCons (dC (.ty "tuple")) (dCons (dC (.ty "list")) dNil))) dNil))))) (dAndT (dB (fz (dOp fGt (fz (dBlt bLen (dCons (dBVar 1) dNil))) (dC (.int 0))))) (dB (fz (dOp fGt (dBVar 2) (dC (.int 1))))))) (dSeqS
  (dPar [4, 5] (rCons (dCall C 238 (dCons (dVar 0) (dCons (fz (dBlt bLen (dCons (dBVar 1) dNil))) dNil))) (rCons (dBlt bList (dCons (dBVar 1) dNil)) rNil)))
  (dSeqS
  (dIfS (dB (fz (dOp fEq (dBVar 2) (dC (.int 2))))) (dMut1 5 fPopI (dVar 4)) (dIfS (dB (fz (dOp fEq (dBVar 2) (dC (.int 3))))) (dIns 5 (dVar 4) (fz (dOp fIx (dBVar 5) (dBVar 4)))) (dPutL 5 (dVar 4) (fz (dCall C 13 (dCons (dVar 0) (dCons (fz (dOp fIx (dBVar 5) (dBVar 4))) dNil)))))))
  (dFrz 5 (dRet (dIfR (dB (fz (dBlt bIsi (dCons (dBVar 1) (dCons (dC (.ty "tuple")) dNil))))) (dBlt bTuple (dCons (dBVar 5) dNil)) (rv (dVar 5))))))) dSkip)
  (dSeqS
  (dIfS (dAndT (dB (fz (dOp fEq (dBVar 2) (dC (.int 0))))) (dB (fz (dBlt bIsi (dCons (dBVar 1) (dCons (dTup (dCons (dC (.ty "tuple")) (dCons (dC (.ty "list")) dNil))) dNil)))))) (dRet (dIfR (dB (fz (dBlt bIsi (dCons (dBVar 1) (dCons (dC (.ty "tuple")) dNil))))) (dBlt bList (dCons (dBVar 1) dNil)) (dBlt bTuple (dCons (dBVar 1) dNil)))) dSkip)
  (dSeqS
  (dSet 3 (dLst (dCons (dC .non) (dCons (dC (.bl true)) (dCons (dC (.bl false)) (dCons (fz (dUn fNeg (dC (.int 1)))) (dCons (dC (.int 0)) (dCons (dC (.int 1)) (dCons (dC (.str "")) (dCons (dC (.str "end")) (dCons (dTup dNil) (dCons (fz (dLst dNil)) (dCons (dTup (dCons (dC (.int 0)) dNil)) (dCons (fz (dLst (dCons (dC (.int 0)) dNil))) (dCons (dTup (dCons (dC (.int 0)) (dCons (dC (.int 1)) dNil))) (dCons (dTup (dCons (dC (.int 0)) (dCons (dC (.str "end")) (dCons (dC (.int 0)) dNil)))) (dCons (fz (dOp fPow (dC (.int 10)) (dC (.int 30)))) dNil)))))))))))))))))
  (dSeqS
  (dIfS (dAndT (dB (fz (dBlt bIsi (dCons (dBVar 1) (dCons (dC (.ty "int")) dNil))))) (dNotT (dB (fz (dBlt bIsi (dCons (dBVar 1) (dCons (dC (.ty "bool")) dNil))))))) (dSet 3 (dOp fAdd (dBVar 3) (fz (dLst (dCons (fz (dOp fAdd (dBVar 1) (dC (.int 1)))) (dCons (fz (dOp fSub (dBVar 1) (dC (.int 1)))) (dCons (fz (dOp fAdd (dBVar 1) (dC (.int 1)))) (dCons (fz (dBlt bStr (dCons (dBVar 1) dNil))) dNil)))))))) dSkip)
  (dFrz 3 (dRet (dCall C 110 (dCons (dVar 0) (dCons (dVar 3) dNil))))))))))
def q_bent : FD := ⟨"_law_bent", 2, 6, b_bent⟩
end MP

namespace MP
open PySem PySem.Spec
/-! ### values of every kind, and the laws' changed ones -/
def vD (L I : Nat) : Nat → D → Prop
  | _, .non => True
  | _, .bl _ => True
  | _, .int i => i.natAbs ≤ I
  | _, .str x => PyData.strOk x = true ∧ x.length ≤ 1921
  | n + 1, .tup l => l.length ≤ L ∧ ∀ d ∈ l, vD L I n d
  | n + 1, .lst l => l.length ≤ L ∧ ∀ d ∈ l, vD L I n d
  | _, _ => False
theorem vD_int {L I n : Nat} {i : Int} (h : i.natAbs ≤ I) : vD L I n (.int i) := by cases n <;> exact h
theorem vD_non {L I n : Nat} : vD L I n .non := by cases n <;> trivial
theorem vD_bl {L I n : Nat} {b : Bool} : vD L I n (.bl b) := by cases n <;> trivial
theorem vD_str {L I n : Nat} {x : Str} (h : PyData.strOk x = true ∧ x.length ≤ 1921) : vD L I n (.str x) := by cases n <;> exact h
theorem vD_tup {L I n : Nat} {l : List D} (h : l.length ≤ L) (h2 : ∀ d ∈ l, vD L I n d) : vD L I (n + 1) (.tup l) := ⟨h, h2⟩
theorem vD_lst {L I n : Nat} {l : List D} (h : l.length ≤ L) (h2 : ∀ d ∈ l, vD L I n d) : vD L I (n + 1) (.lst l) := ⟨h, h2⟩
def sqD (t : Bool) (l : List D) : D := if t then .tup l else .lst l
theorem vD_cases {L I n : Nat} {d : D} (h : vD L I n d) : d = .non ∨ (∃ b, d = .bl b) ∨ (∃ i, d = .int i ∧ i.natAbs ≤ I) ∨ (∃ x, d = .str x ∧ PyData.strOk x = true ∧ x.length ≤ 1921) ∨ ∃ t l m, n = m + 1 ∧ d = sqD t l ∧ l.length ≤ L ∧ ∀ e ∈ l, vD L I m e := by
  cases d with
  | non => exact .inl rfl
  | bl b => exact .inr (.inl ⟨b, rfl⟩)
  | int i => exact .inr (.inr (.inl ⟨i, rfl, by cases n <;> exact h⟩))
  | str x => exact .inr (.inr (.inr (.inl ⟨x, rfl, by cases n <;> exact h⟩)))
  | tup l =>
    cases n with
    | zero => exact h.elim
    | succ m => exact .inr (.inr (.inr (.inr ⟨true, l, m, rfl, rfl, h.1, h.2⟩)))
  | lst l =>
    cases n with
    | zero => exact h.elim
    | succ m => exact .inr (.inr (.inr (.inr ⟨false, l, m, rfl, rfl, h.1, h.2⟩)))
  | _ => cases n <;> exact h.elim
theorem vD_mono {L I L' I' : Nat} (hL : L ≤ L') (hI : I ≤ I') : ∀ {n n' : Nat} {d : D}, n ≤ n' → vD L I n d → vD L' I' n' d := by
  intro n
  induction n with
  | zero =>
    intro n' d _ h
    rcases vD_cases h with rfl | ⟨b, rfl⟩ | ⟨i, rfl, hi⟩ | ⟨x, rfl, hx⟩ | ⟨t, l, m, e, _⟩
    · exact vD_non
    · exact vD_bl
    · exact vD_int (Nat.le_trans hi hI)
    · exact vD_str hx
    · cases e
  | succ n ih =>
    intro n' d hn h
    obtain ⟨n', rfl⟩ : ∃ k, n' = k + 1 := ⟨n' - 1, by omega⟩
    rcases vD_cases h with rfl | ⟨b, rfl⟩ | ⟨i, rfl, hi⟩ | ⟨x, rfl, hx⟩ | ⟨t, l, m, e, rfl, h1, h2⟩
    · exact vD_non
    · exact vD_bl
    · exact vD_int (Nat.le_trans hi hI)
    · exact vD_str hx
    · cases e
      cases t
      · exact vD_lst (Nat.le_trans h1 hL) fun e he => ih (by omega) (h2 e he)
      · exact vD_tup (Nat.le_trans h1 hL) fun e he => ih (by omega) (h2 e he)
theorem strOk_of (s : String) : PyData.strOk (Str.ofString s) = true := by
  unfold PyData.strOk
  rw [Str.ofString_eq_toList]
  rw [Array.all_eq_true_iff_forall_mem]
  intro c hc
  have hc : c ∈ s.toList.map Char.toNat := by simpa using hc
  obtain ⟨k, _, rfl⟩ := List.mem_map.mp hc
  have := k.valid
  have h2 : k.toNat < 0x110000 := by
    rcases this with h | h
    · exact Nat.lt_trans h (by decide)
    · exact h.2
  exact decide_eq_true h2
theorem vD_sh {L I : Nat} (hI : I < 2 ^ 1900) : ∀ {n : Nat} {d : D}, vD L I n d → shN n d = true := by
  intro n
  induction n with
  | zero =>
    intro d h
    rcases vD_cases h with rfl | ⟨b, rfl⟩ | ⟨i, rfl, hi⟩ | ⟨x, rfl, hx⟩ | ⟨t, l, m, e, _⟩
    · rfl
    · rfl
    · exact sh_int (log_int (by omega))
    · exact hx.1
    · cases e
  | succ n ih =>
    intro d h
    rcases vD_cases h with rfl | ⟨b, rfl⟩ | ⟨i, rfl, hi⟩ | ⟨x, rfl, hx⟩ | ⟨t, l, m, e, rfl, h1, h2⟩
    · rfl
    · rfl
    · exact sh_int (log_int (by omega))
    · exact hx.1
    · cases e
      cases t <;> exact List.all_eq_true.mpr fun e he => ih (h2 e he)
def wV (L : Nat) : Nat → Nat
  | 0 => 19212
  | n + 1 => 3 + L * (wV L n + 2) + 19212
/-! ### isinstance -/
theorem qi2 (t : Bool) (l : List D) (S : Sto) : bIsi [sqD t l, .tup [.ty "tuple", .ty "list"]] S = .ok (.v (.bl true)) S := by cases t <;> rfl
theorem qiT (t : Bool) (l : List D) (S : Sto) : bIsi [sqD t l, .ty "tuple"] S = .ok (.v (.bl t)) S := by cases t <;> rfl
theorem qlen (t : Bool) (l : List D) (S : Sto) : bLen [sqD t l] S = .ok (.v (.int l.length)) S := by cases t <;> rfl
theorem qlist (t : Bool) (l : List D) (S : Sto) : bList [sqD t l] S = .ok (.o (.l l)) S := by cases t <;> rfl
theorem qtup (t : Bool) (l : List D) (S : Sto) : bTuple [sqD t l] S = .ok (.v (.tup l)) S := by cases t <;> rfl
def atmD : D → Bool
  | .non => true
  | .bl _ => true
  | .int _ => true
  | .str _ => true
  | _ => false
theorem ai2 {d : D} (h : atmD d = true) (S : Sto) : bIsi [d, .tup [.ty "tuple", .ty "list"]] S = .ok (.v (.bl false)) S := by cases d <;> first | rfl | cases h
def isI : D → Bool
  | .int _ => true
  | _ => false
def isB : D → Bool
  | .bl _ => true
  | _ => false
theorem iiB {d : D} (h : atmD d = true) (S : Sto) : bIsi [d, .ty "bool"] S = .ok (.v (.bl (isB d))) S := by cases d <;> first | rfl | cases h
theorem iiI {d : D} (h : atmD d = true) (S : Sto) : bIsi [d, .ty "int"] S = .ok (.v (.bl (isI d || isB d))) S := by cases d <;> first | rfl | cases h
theorem qiI (t : Bool) (l : List D) (S : Sto) : bIsi [sqD t l, .ty "int"] S = .ok (.v (.bl false)) S := by cases t <;> rfl
theorem add_l {a b : List D} (h : a.length + b.length ≤ 100000) (S : Sto) : fAdd (.lst a) (.lst b) S = .ok (.o (.l (a ++ b))) S := by
  show (if a.length + b.length ≤ 100000 then Res.ok (R.o (.l (a ++ b))) S else .bad) = _
  rw [if_pos h]
theorem pow30 (S : Sto) : fPow (.int 10) (.int 30) S = .ok (.v (.int 1000000000000000000000000000000)) S := by rfl
/-! ### own lists -/
section
variable {env : Envm} {S : Sto} {N : PN} {T : PT} {K C : PN} {i : Nat}
theorem ok_dIns {ds : List D} (d1 d2 : DE) (h : env[i]? = some (.ow (.l ds))) : okO (dIns i d1 d2 env S) N T K C ↔ okE (d1 env S) fun k S1 => ∃ z, k = .int z ∧ okE (d2 env S1) fun y S2 => okL (fInsI z y ds) fun ds' => N (env.set i (.ow (.l ds'))) S2 := by
  have hl : listSlot i env S = true := by
    unfold listSlot
    rw [h]
  unfold dIns
  rw [if_pos hl]
  cases d1 env S with
  | bad => exact ⟨fun h => h.elim, fun ⟨_, _, h, _⟩ => (nomatch h)⟩
  | xn c x S1 => exact ⟨fun h => h.elim, fun ⟨_, _, h, _⟩ => (nomatch h)⟩
  | ok d S1 =>
    rw [okE_ok]
    have key : ∀ z : Int, okO ((match d2 env S1 with
        | .ok y S2 => mutL i (fInsI z y) env S2
        | .xn _ _ _ => .bad
        | .bad => .bad) : Out) N T K C ↔ okE (d2 env S1) fun y S2 => okL (fInsI z y ds) fun ds' => N (env.set i (.ow (.l ds'))) S2 := fun z => by
      cases d2 env S1 with
      | bad => exact ⟨fun h => h.elim, fun ⟨_, _, h, _⟩ => (nomatch h)⟩
      | xn c x S1 => exact ⟨fun h => h.elim, fun ⟨_, _, h, _⟩ => (nomatch h)⟩
      | ok y S2 =>
        rw [okE_ok]
        show okO (mutL i (fInsI z y) env S2) N T K C ↔ _
        unfold mutL
        rw [h]
        show okO (match fInsI z y ds with
          | some ds' => Out.nx (env.set i (.ow (.l ds'))) S2
          | none => .bad) N T K C ↔ _
        cases fInsI z y ds with
        | none => exact ⟨fun h => h.elim, fun h => h.elim⟩
        | some x => exact Iff.rfl
    cases d with
    | int z => exact ⟨fun h => ⟨z, rfl, (key z).mp h⟩, fun ⟨z', e, h⟩ => by
        cases e
        exact (key z).mpr h⟩
    | _ => exact ⟨fun h => h.elim, fun ⟨_, e, _⟩ => by cases e⟩
end
theorem pop_ok {ds : List D} {z : Nat} (h : z < ds.length) (h2 : z ≤ 100000) : fPopI ds (.int z) = some (ds.eraseIdx z) := by
  show (if (0 : Int) ≤ z ∧ ((z : Int)).toNat < ds.length ∧ (z : Int) ≤ 100000 then some (ds.eraseIdx ((z : Int)).toNat) else none) = _
  rw [Int.toNat_natCast, if_pos ⟨by omega, h, by omega⟩]
theorem ins_ok {ds : List D} {z : Nat} {y : D} (h : ds.length ≤ 100000) (h2 : z ≤ 100000) : fInsI z y ds = some (ds.take z ++ [y] ++ ds.drop z) := by
  show (if (0 : Int) ≤ z ∧ (z : Int) ≤ 100000 ∧ ds.length ≤ 100000 then some (ds.take ((z : Int)).toNat ++ [y] ++ ds.drop ((z : Int)).toNat) else none) = _
  rw [Int.toNat_natCast, if_pos ⟨by omega, by omega, h⟩]
def oddL : List D := [.non, .bl true, .bl false, .int (-1), .int 0, .int 1, .str "", .str "end", .tup [], .lst [], .tup [.int 0], .lst [.int 0], .tup [.int 0, .int 1], .tup [.int 0, .str "end", .int 0], .int 1000000000000000000000000000000]
theorem oddL_ok {L I m : Nat} (hL : 3 ≤ L) (hI : 1000000000000000000000000000000 ≤ I) : ∀ d ∈ oddL, vD L I (m + 1) d := by
  have ends : PyData.strOk "end" = true ∧ (("end" : Str)).length ≤ 1921 := ⟨by decide +kernel, by decide +kernel⟩
  intro d hd
  simp only [oddL, List.mem_cons, List.not_mem_nil, or_false] at hd
  rcases hd with rfl | rfl | rfl | rfl | rfl | rfl | rfl | rfl | rfl | rfl | rfl | rfl | rfl | rfl | rfl
  · exact vD_non
  · exact vD_bl
  · exact vD_bl
  · exact vD_int (show 1 ≤ I by omega)
  · exact vD_int (show 0 ≤ I by omega)
  · exact vD_int (show 1 ≤ I by omega)
  · exact vD_str ⟨by decide +kernel, by decide +kernel⟩
  · exact vD_str ends
  · exact vD_tup (Nat.zero_le _) fun e he => by cases he
  · exact vD_lst (Nat.zero_le _) fun e he => by cases he
  · refine vD_tup (show 1 ≤ L by omega) fun e he => ?_
    simp only [List.mem_cons, List.not_mem_nil, or_false] at he
    rw [he]
    exact vD_int (show 0 ≤ I by omega)
  · refine vD_lst (show 1 ≤ L by omega) fun e he => ?_
    simp only [List.mem_cons, List.not_mem_nil, or_false] at he
    rw [he]
    exact vD_int (show 0 ≤ I by omega)
  · refine vD_tup (show 2 ≤ L by omega) fun e he => ?_
    simp only [List.mem_cons, List.not_mem_nil, or_false] at he
    rcases he with rfl | rfl
    · exact vD_int (show 0 ≤ I by omega)
    · exact vD_int (show 1 ≤ I by omega)
  · refine vD_tup (show 3 ≤ L by omega) fun e he => ?_
    simp only [List.mem_cons, List.not_mem_nil, or_false] at he
    rcases he with rfl | rfl | rfl
    · exact vD_int (show 0 ≤ I by omega)
    · exact vD_str ends
    · exact vD_int (show 0 ≤ I by omega)
  · exact vD_int hI
end MP

namespace MP
open PySem PySem.Spec
theorem mem_erase' {α : Type} {l : List α} {i : Nat} {x : α} (h : x ∈ l.eraseIdx i) : x ∈ l := List.mem_of_mem_eraseIdx h
theorem set_mem {α : Type} {l : List α} {i : Nat} {x y : α} (h : x ∈ l.set i y) : x = y ∨ x ∈ l := by
  rcases List.mem_or_eq_of_mem_set h with h | h
  · exact .inr h
  · exact .inl h
end MP

namespace MP
open PySem PySem.Spec
theorem w_app : ∀ (a b : List D), wDs (a ++ b) = wDs a + wDs b
  | [], b => by rw [List.nil_append]; show wDs b = 0 + wDs b; omega
  | x :: a, b => by
    show wD x + 2 + wDs (a ++ b) = wD x + 2 + wDs a + wDs b
    rw [w_app a b]
    omega
theorem w_mem : ∀ {l : List D} {x : D}, x ∈ l → wD x + 2 ≤ wDs l
  | [], _, h => by cases h
  | y :: l, x, h => by
    show _ ≤ wD y + 2 + wDs l
    rcases List.mem_cons.mp h with rfl | h
    · omega
    · have := w_mem h
      omega
theorem w_erase : ∀ (l : List D) (z : Nat), wDs (l.eraseIdx z) ≤ wDs l
  | [], _ => Nat.le_refl _
  | y :: l, 0 => by
    show wDs l ≤ wD y + 2 + wDs l
    omega
  | y :: l, z + 1 => by
    show wD y + 2 + wDs (l.eraseIdx z) ≤ wD y + 2 + wDs l
    have := w_erase l z
    omega
theorem w_set {v : D} : ∀ {l : List D} {z : Nat} (h : z < l.length), wDs (l.set z v) + wD l[z] = wDs l + wD v
  | [], _, h => absurd h (Nat.not_lt_zero _)
  | y :: l, 0, h => by
    show wD v + 2 + wDs l + wD y = wD y + 2 + wDs l + wD v
    omega
  | y :: l, z + 1, h => by
    have h' : z < l.length := by simpa using h
    have := w_set (v := v) h'
    show wD y + 2 + wDs (l.set z v) + wD l[z] = wD y + 2 + wDs l + wD v
    omega
theorem w_ins {l : List D} {z : Nat} (h : z < l.length) : wDs (l.take z ++ [l[z]] ++ l.drop z) ≤ 2 * wDs l := by
  have e : wDs (l.take z ++ l.drop z) = wDs l := by rw [List.take_append_drop]
  rw [w_app] at e
  have := w_mem (List.getElem_mem h)
  rw [w_app, w_app]
  show wDs _ + (wD l[z] + 2 + 0) + _ ≤ _
  omega
theorem oddL_w : ∀ d ∈ oddL, wD d ≤ 20000 := by
  intro d hd
  simp only [oddL, List.mem_cons, List.not_mem_nil, or_false] at hd
  rcases hd with rfl | rfl | rfl | rfl | rfl | rfl | rfl | rfl | rfl | rfl | rfl | rfl | rfl | rfl | rfl <;> decide +kernel
end MP

namespace MP
open PySem PySem.Spec
/-! ### rows and stories: any value -/
def inRI (c : Int) : D → Bool
  | .int i => decide (0 ≤ i) && decide (i < c)
  | _ => false
def townsV (c m : Int) : D → Bool
  | .tup l => decide ((l.length : Int) = m) && l.all (inRI c)
  | _ => false
local macro_rules | `(tactic| simp! only [$xs,*] $[$l:location]?) => `(tactic| simp only [bun_0, bun_1, bun_2, bun_3, bun_4, bun_5, bun_6, sv_at, sv_ta, sv_it, sv_ti, sv_dt, sv_df, sv_ft, sv_nt, sv_nn, sv_tt, sv_fn, sv_c0, sv_c1, sv_c2, sv_c3, sv_c4, sv_c5, sv_c6, sv_dT, sv_dF, sv_nT, sv_nF, sv_ifT, sv_ifF, sv_iP, sv_iQ, reduceDIte, reduceIte, reduceCtorEq, Nat.reduceEqDiff, Nat.reduceGT, Nat.reduceSubDiff, Nat.reduceMod, Nat.reduceAdd, Nat.reduceBNe, Nat.reduceLeDiff, Nat.reduceSub, Nat.reduceDiv, Nat.reduceMul, Nat.reduceBEq, Nat.reduceSucc, Nat.reduceLT, Nat.reducePow, Int.reduceGE, Int.reduceToNat, Int.reduceEq, Int.reduceOfNat, Int.reduceGT, Int.reducePow, Int.reduceDiv, Int.reduceMul, Int.reduceBEq, Int.reduceNe, Int.reduceSub, Int.reduceLT, Int.reduceNeg, Int.reduceBNe, Int.reduceAdd, Int.reduceLE, Int.reduceMod, Int.reduceNegSucc, $xs,*] $[$l:location]?)
theorem isn_any5 {B : Tb} {n M I m : Nat} {S : Sto} {y : D} (hU : B i_is_number = some q_is_number) (hy : vD M I m y) : callN B (n + 1) 312 [y] S = .ok (.v (.bl (isI y))) S := by
  refine eq_of_ok (ok_call (hU.trans rfl) rfl ?_)
  unfold b_is_number
  rcases vD_cases hy with rfl | ⟨b, rfl⟩ | ⟨i, rfl, hi⟩ | ⟨x, rfl, hx⟩ | ⟨t, l, k, e, rfl, _⟩
  · simp! only [iiI (d := .non) rfl, isI, isB, Bool.or_false]
  · simp! only [iiI (d := .bl b) rfl, iiB (d := .bl b) rfl, isI, isB, Bool.false_or]
  · simp! only [iiI (d := .int i) rfl, iiB (d := .int i) rfl, isI, isB, Bool.or_false]
  · simp! only [iiI (d := .str x) rfl, isI, isB, Bool.or_false]
  · simp! only [qiI]
    cases t <;> rfl
theorem isint_any5 {B : Tb} {n M I m : Nat} {S : Sto} {y : D} (hU : B i__law_is_int = some q__law_is_int) (hy : vD M I m y) : callN B (n + 1) 71 [y] S = .ok (.v (.bl (isI y))) S := by
  refine eq_of_ok (ok_call (hU.trans rfl) rfl ?_)
  unfold b__law_is_int
  rcases vD_cases hy with rfl | ⟨b, rfl⟩ | ⟨i, rfl, hi⟩ | ⟨x, rfl, hx⟩ | ⟨t, l, k, e, rfl, _⟩
  · simp! only [iiI (d := .non) rfl, isI, isB, Bool.or_false]
  · simp! only [iiI (d := .bl b) rfl, iiB (d := .bl b) rfl, isI, isB, Bool.false_or]
  · simp! only [iiI (d := .int i) rfl, iiB (d := .int i) rfl, isI, isB, Bool.or_false]
  · simp! only [iiI (d := .str x) rfl, isI, isB, Bool.or_false]
  · simp! only [qiI]
    cases t <;> rfl
theorem int_or {y : D} : (∃ i, y = .int i) ∨ (isI y = false ∧ ∀ c, inRI c y = false) := by
  cases y <;> first | exact .inl ⟨_, rfl⟩ | exact .inr ⟨rfl, fun _ => rfl⟩
section
variable {B : Tb} {n M I k : Nat} {S : Sto} {x : D} {c m : Int}
variable {d : D} {j : J}
/-- what is no tale: no tuple of two rows -/
inductive BadT (c m : Int) (M I k : Nat) : D → Prop
  | nt (x : D) (h : ∀ S, bIsi [x, .ty "tuple"] S = .ok (.v (.bl false)) S) : BadT c m M I k x
  | len (l : List D) (h : ¬ (l.length : Int) = 2) : BadT c m M I k (.tup l)
  | row (a b : D) (ha : vD M I k a) (hb : vD M I k b) (h : townsV c m a = false ∨ townsV c m b = false) : BadT c m M I k (.tup [a, b])
end
end MP

namespace MP
open PySem PySem.Spec
/-! ### roads and trees: any value -/
def okRd (c : Int) (l : Lk) : Bool := decide (0 ≤ l.1) && (decide (l.1 < l.2) && decide (l.2 < c))
theorem okRd_iff {c : Int} {l : Lk} : okRd c l = true ↔ 0 ≤ l.1 ∧ l.1 < l.2 ∧ l.2 < c := by
  unfold okRd
  rw [Bool.and_eq_true, Bool.and_eq_true, decide_eq_true_eq, decide_eq_true_eq, decide_eq_true_eq]
inductive RdC (M I k : Nat) : D → Prop
  | nt (x : D) (h : ∀ S, bIsi [x, .ty "tuple"] S = .ok (.v (.bl false)) S) : RdC M I k x
  | len (l : List D) (h : ¬ (l.length : Int) = 2) : RdC M I k (.tup l)
  | ni (a b : D) (ha : vD M I k a) (hb : vD M I k b) (h : isI a = false ∨ isI b = false) : RdC M I k (.tup [a, b])
  | lk (l : Lk) : RdC M I k (lkD l)
def rdV (c : Int) : D → Bool
  | .tup [.int a, .int b] => okRd c (a, b)
  | _ => false
theorem rd_cases {M I k : Nat} {y : D} (h : vD M I k y) : RdC M I k y := by
  rcases vD_cases h with rfl | ⟨b, rfl⟩ | ⟨i, rfl, hi⟩ | ⟨z, rfl, hx⟩ | ⟨t, l, k', e, rfl, l1, l2⟩
  · exact .nt _ fun _ => rfl
  · exact .nt _ fun _ => rfl
  · exact .nt _ fun _ => rfl
  · exact .nt _ fun _ => rfl
  · cases t
    · exact .nt _ fun _ => rfl
    · by_cases c2 : l.length = 2
      · match l, c2, l2 with
        | [a, b], _, l2 =>
          have ha : vD M I k a := vD_mono (Nat.le_refl _) (Nat.le_refl _) (by omega) (l2 a (by simp))
          have hb : vD M I k b := vD_mono (Nat.le_refl _) (Nat.le_refl _) (by omega) (l2 b (by simp))
          rcases int_or (y := a) with ⟨i, rfl⟩ | ⟨z1, _⟩
          · rcases int_or (y := b) with ⟨i', rfl⟩ | ⟨z1, _⟩
            · exact .lk (i, i')
            · exact .ni _ _ ha hb (.inr z1)
          · exact .ni _ _ ha hb (.inl z1)
      · exact .len l (by omega)
theorem rdV_nt {c : Int} {x : D} (h : ∀ S, bIsi [x, .ty "tuple"] S = .ok (.v (.bl false)) S) : rdV c x = false := by
  cases x with
  | tup l =>
    have := h []
    cases this
  | _ => rfl
theorem rdV_len {c : Int} {l : List D} (h : ¬ (l.length : Int) = 2) : rdV c (.tup l) = false := by
  match l, h with
  | [], _ => rfl
  | [a], _ => cases a <;> rfl
  | [a, b], h => exact absurd rfl h
  | a :: b :: d :: l, _ => cases a <;> first | rfl | (cases b <;> rfl)
theorem rdV_ni {c : Int} {a b : D} (h : isI a = false ∨ isI b = false) : rdV c (.tup [a, b]) = false := by
  rcases h with h | h
  · cases a <;> first | rfl | cases h
  · cases a <;> first | rfl | (cases b <;> first | rfl | cases h)
section
variable {B : Tb} {n M I k : Nat} {S : Sto} {c : Int} {y : D}
local macro_rules | `(tactic| simp! only [$xs,*] $[$l:location]?) => `(tactic| simp only [bun_0, bun_1, bun_2, bun_3, bun_4, bun_5, bun_6, sv_at, sv_ta, sv_it, sv_ti, sv_dt, sv_df, sv_ft, sv_nt, sv_nn, sv_tt, sv_fn, sv_c0, sv_c1, sv_c2, sv_c3, sv_c4, sv_c5, sv_c6, sv_dT, sv_dF, sv_nT, sv_nF, sv_ifT, sv_ifF, sv_iP, sv_iQ, reduceDIte, reduceIte, reduceCtorEq, Nat.reduceEqDiff, Nat.reduceGT, Nat.reduceSubDiff, Nat.reduceMod, Nat.reduceAdd, Nat.reduceBNe, Nat.reduceLeDiff, Nat.reduceSub, Nat.reduceDiv, Nat.reduceMul, Nat.reduceBEq, Nat.reduceSucc, Nat.reduceLT, Nat.reducePow, Int.reduceGE, Int.reduceToNat, Int.reduceEq, Int.reduceOfNat, Int.reduceGT, Int.reducePow, Int.reduceDiv, Int.reduceMul, Int.reduceBEq, Int.reduceNe, Int.reduceSub, Int.reduceLT, Int.reduceNeg, Int.reduceBNe, Int.reduceAdd, Int.reduceLE, Int.reduceMod, Int.reduceNegSucc, $xs,*] $[$l:location]?)
theorem sp_road_any (hU : B i_is_number = some q_is_number) (hB : B i_is_road = some q_is_road) (h : vD M I k y) : callN B (n + 2) i_is_road [y, .int c] S = .ok (.v (.bl (rdV c y))) S := by
  have nu : ∀ {a : D} S, vD M I k a → callN B (n + 1) 312 [a] S = .ok (.v (.bl (isI a))) S := fun S h => isn_any5 (n := n) hU h
  have it : ∀ (l : List D) S, bIsi [.tup l, .ty "tuple"] S = .ok (.v (.bl true)) S := fun l S => rfl
  refine eq_of_ok (ok_call (hB.trans rfl) rfl ?_)
  unfold b_is_road
  refine ok_seqG fun N1 hN1 => ?_
  have hc := rd_cases h
  clear h
  cases hc with
  | nt x h => simp! only [h, rdV_nt h]
  | len l h => simp! only [it, h, rdV_len h]
  | ni a b ha hb h =>
    have na := fun S => nu S ha
    have nb := fun S => nu S hb
    have rv0 := rdV_ni (c := c) h
    cases ia : isI a with
    | false => simp! only [it, na, ia, rv0]
    | true =>
      have ib : isI b = false := h.resolve_left (by rw [ia]; exact Bool.noConfusion)
      simp! only [it, na, nb, ia, ib, rv0]
  | lk l =>
    have na : ∀ (i : Int) S, callN B (n + 1) 312 [.int i] S = .ok (.v (.bl true)) S := fun i S => sp_number hU
    have e2 : lkD l = .tup [.int l.1, .int l.2] := rfl
    have e : rdV c (.tup [.int l.1, .int l.2]) = (decide (0 ≤ l.1) && (decide (l.1 < l.2) && decide (l.2 < c))) := rfl
    simp! only [e2, na]
    refine hN1 _ _ ?_
    by_cases c0 : 0 ≤ l.1
    · by_cases c1 : l.1 < l.2
      · simp! only [c0, c1, e, decide_true, Bool.true_and, e2]
      · simp! only [c0, c1, e, decide_true, decide_false, Bool.true_and, Bool.false_and, e2]
    · simp! only [c0, e, decide_false, Bool.false_and, e2]
end
/-- sorted(set(roads)) -/
theorem sortSetP_gen {L : List Lk} (hl : L.length ≤ 60) (hr : ∀ l ∈ L, (0 ≤ l.1 ∧ l.1 < 64) ∧ (0 ≤ l.2 ∧ l.2 < 64)) :
    ∃ L' : List Lk, (∀ S, fSortSetP (.tup (L.map lkD)) S = .ok (.o (.l (L'.map lkD))) S) ∧ (L' = L ↔ (L.Pairwise fun a b => leL a b = true) ∧ L.Nodup) := by
  refine ⟨(usort (L.map codeL)).map fun c => (c / 64, c % 64), fun S => ?_, fun e => ?_, fun ⟨so, nd⟩ => ?_⟩
  · show (match codesOf (L.map lkD) with
      | some cs => if cs.length ≤ 60 then Res.ok (R.o (.l ((usort cs).map dPr))) S else .bad
      | none => .bad) = _
    rw [codes_lks hr]
    show (if (L.map codeL).length ≤ 60 then Res.ok (R.o (.l ((usort (L.map codeL)).map dPr))) S else .bad) = _
    rw [if_pos (by rw [List.length_map]; exact hl), List.map_map]
    rfl
  · have up := usort_lt (L.map codeL)
    have e2 : usort (L.map codeL) = L.map codeL := by
      have := congrArg (List.map codeL) e
      rw [List.map_map] at this
      refine Eq.trans ?_ this
      refine (List.map_id _).symm.trans (List.map_congr_left fun c _ => ?_)
      show c = c / 64 * 64 + c % 64
      omega
    rw [e2, List.pairwise_map] at up
    refine ⟨up.imp_of_mem fun {a b} ha hb h => ?_, up.imp_of_mem fun {a b} ha hb h z => ?_⟩
    · have ra := hr a ha
      have rb := hr b hb
      unfold codeL at h
      rw [leL_iff]
      omega
    · rw [z] at h
      omega
  · have ss := sortSetP_lks [] hl hr so nd
    have s2 : fSortSetP (.tup (L.map lkD)) [] = .ok (.o (.l ((usort (L.map codeL)).map dPr))) [] := by
      show (match codesOf (L.map lkD) with
        | some cs => if cs.length ≤ 60 then Res.ok (R.o (.l ((usort cs).map dPr))) [] else .bad
        | none => .bad) = _
      rw [codes_lks hr]
      show (if (L.map codeL).length ≤ 60 then _ else _) = _
      rw [if_pos (by rw [List.length_map]; exact hl)]
    rw [s2] at ss
    injection ss with ss _
    injection ss with ss
    injection ss with ss
    have e : ((usort (L.map codeL)).map fun c => ((c / 64, c % 64) : Lk)).map lkD = L.map lkD := by
      rw [List.map_map]
      exact ss
    exact List.map_inj_right (fun a b h => by
      injection h with h
      injection h with h1 h2
      injection h2 with h2 _
      injection h1 with h1
      injection h2 with h2
      exact Prod.ext h1 h2) |>.mp e
section
variable {B : Tb} {n c : Nat} {S : Sto}
local macro_rules | `(tactic| simp! only [$xs,*] $[$l:location]?) => `(tactic| simp only [bun_0, bun_1, bun_2, bun_3, bun_4, bun_5, bun_6, sv_at, sv_ta, sv_it, sv_ti, sv_dt, sv_df, sv_ft, sv_nt, sv_nn, sv_tt, sv_fn, sv_c0, sv_c1, sv_c2, sv_c3, sv_c4, sv_c5, sv_c6, sv_dT, sv_dF, sv_nT, sv_nF, sv_ifT, sv_ifF, sv_iP, sv_iQ, reduceDIte, reduceIte, reduceCtorEq, Nat.reduceEqDiff, Nat.reduceGT, Nat.reduceSubDiff, Nat.reduceMod, Nat.reduceAdd, Nat.reduceBNe, Nat.reduceLeDiff, Nat.reduceSub, Nat.reduceDiv, Nat.reduceMul, Nat.reduceBEq, Nat.reduceSucc, Nat.reduceLT, Nat.reducePow, Int.reduceGE, Int.reduceToNat, Int.reduceEq, Int.reduceOfNat, Int.reduceGT, Int.reducePow, Int.reduceDiv, Int.reduceMul, Int.reduceBEq, Int.reduceNe, Int.reduceSub, Int.reduceLT, Int.reduceNeg, Int.reduceBNe, Int.reduceAdd, Int.reduceLE, Int.reduceMod, Int.reduceNegSucc, $xs,*] $[$l:location]?)
theorem sp_tree_core {Rl L' : List Lk} {w : Bool} (hU : B i_is_number = some q_is_number) (hR : B i_is_road = some q_is_road) (hB : B i_is_tree = some q_itb)
    (hl : Rl.length + 1 = c) (hc : c ≤ 60) (hr : ∀ l ∈ Rl, 0 ≤ l.1 ∧ l.1 < l.2 ∧ l.2 < (c : Int)) (ss : ∀ S, fSortSetP (.tup (Rl.map lkD)) S = .ok (.o (.l (L'.map lkD))) S)
    (re : ∀ S, ∃ F : List Int, callN B (n + 2) 410 [.int c, .tup (Rl.map lkD)] S = .ok (.o (.l (F.map D.int))) S ∧ decide (F.length = c) = w) :
    callN B (n + 3) i_is_tree [.tup [.int c, .tup (Rl.map lkD)]] S = .ok (.v (.bl (decide (Rl = L') && w))) S := by
  have nu : ∀ (p : Int) S, callN B (n + 2) 312 [.int p] S = .ok (.v (.bl true)) S := fun p S => sp_number hU
  have ro : ∀ (l : Lk) S, l ∈ Rl → callN B (n + 2) 316 [lkD l, .int c] S = .ok (.v (.bl true)) S := fun l S hm => sp_isroad hU hR (hr l hm)
  have al : ∀ S, bAll [.lst (Rl.map fun _ => D.bl true)] S = .ok (.v (.bl true)) S := fun S => bAll_true (fun y hy => by obtain ⟨_, _, rfl⟩ := List.mem_map.mp hy; rfl) S
  have ne : ∀ S, fNe (.lst (Rl.map lkD)) (.lst (L'.map lkD)) S = .ok (.v (.bl (!decide (Rl = L')))) S := fun S => fNe_lks Rl L' S
  have c1 : ¬ ((c : Int) < 1) := by omega
  have bl : ∀ (x : List D) S, bList [.tup x] S = .ok (.o (.l x)) S := fun x S => rfl
  refine eq_of_ok (ok_call (hB.trans rfl) rfl ?_)
  unfold b_itb
  refine ok_seqG fun N1 hN1 => ?_
  simp! only [nu, c1, decide_false]
  refine hN1 _ _ ?_
  refine ok_seqG fun N2 hN2 => ?_
  simp! only []
  refine ok_compA Rl lkD (fun _ => .bl true) ?_ (by omega) (fun l hm => ?_) ?_
  · simp! only []
  · simp! only [ro l _ hm]
  · simp! only [al]
    refine hN2 _ _ ?_
    refine ok_seqG fun N3 hN3 => ?_
    have e1 : ((Rl.length : Int) = (c : Int) - 1) = True := eq_true (by omega)
    by_cases e : Rl = L'
    · have dt : decide (Rl = L') = true := decide_eq_true e
      simp! only [e1, decide_true, bl, ss, ne, dt, Bool.not_true]
      refine hN3 _ _ ?_
      obtain ⟨F, f1, f2⟩ := re S
      rw [← f2]
      have ic : ((F.length : Int) = (c : Int)) = (F.length = c) := propext (by omega)
      simp! only [f1, ic, dt, Bool.true_and]
    · have df : decide (Rl = L') = false := decide_eq_false e
      simp! only [e1, decide_true, bl, ss, ne, df, Bool.not_false, Bool.false_and]
/-- what is_tree tells of roads: sorted, and no ring -/
theorem sp_tree_rows {Rl : List Lk} (hU : B i_is_number = some q_is_number) (hN : B i_neighbours = some q_neighbours) (hR : B i_is_road = some q_is_road) (hE : B i_reached = some q_reached) (hB : B i_is_tree = some q_itb)
    (hl : Rl.length + 1 = c) (hc : c ≤ 60) (hr : ∀ l ∈ Rl, 0 ≤ l.1 ∧ l.1 < l.2 ∧ l.2 < (c : Int)) :
    callN B (n + 3) i_is_tree [.tup [.int c, .tup (Rl.map lkD)]] S = .ok (.v (.bl (decide (Rl = srt Rl) && noRing (ones c) Rl))) S := by
  obtain ⟨L', ss, iff_⟩ := sortSetP_gen (L := Rl) (by omega) fun l hm => by have := hr l hm; omega
  have reP : ∀ (P : Int → Prop), P 0 → (∀ x, P x → ∀ y ∈ mates Rl x, P y) → ∀ S, ∃ F : List Int, callN B (n + 2) 410 [.int c, .tup (Rl.map lkD)] S = .ok (.o (.l (F.map D.int))) S ∧ Closed c Rl F ∧ ∀ x ∈ F, P x := fun P p0 pc S =>
    sp_reachedP (n := n) (S := S) P p0 pc hN hE (.tup Rl) (by omega) (by omega : c ≤ 1000) (by omega) hr
  by_cases so : Rl = srt Rl
  · have sp : Rl.Pairwise fun a b => leL a b = true := by rw [so]; exact srt_so Rl
    cases nr : noRing (ones c) Rl with
    | true =>
      obtain ⟨nd, conn⟩ := ring_conn hl hr nr
      have e : Rl = L' := (iff_.mpr ⟨sp, nd⟩).symm
      have := sp_tree_core (B := B) (n := n) (c := c) (S := S) (w := true) hU hR hB hl hc hr ss fun S => by
        obtain ⟨F, f1, f2, _⟩ := reP (fun _ => True) trivial (fun _ _ _ _ => trivial) S
        exact ⟨F, f1, decide_eq_true (conn F f2)⟩
      rw [decide_eq_true e] at this
      rw [decide_eq_true so]
      exact this
    | false =>
      obtain ⟨P, p0, pc, z, z0, z1, zn⟩ := ring_part hl hr nr
      have := sp_tree_core (B := B) (n := n) (c := c) (S := S) (w := false) hU hR hB hl hc hr ss fun S => by
        obtain ⟨F, f1, f2, f3⟩ := reP P p0 pc S
        refine ⟨F, f1, decide_eq_false fun e => ?_⟩
        have := too_many (c := c) (W := z :: F) (List.nodup_cons.mpr ⟨fun h => zn (f3 z h), f2.1⟩) fun p hp => by
          rcases List.mem_cons.mp hp with rfl | hp
          · exact ⟨z0, z1⟩
          · exact f2.2.1 p hp
        rw [List.length_cons] at this
        omega
      rw [Bool.and_false] at this ⊢
      exact this
  · have ne : ¬ Rl = L' := fun e => so (srt_eq (iff_.mp e.symm).1 (List.Perm.refl _)).symm
    obtain ⟨w, re⟩ : ∃ w : Bool, ∀ S, ∃ F : List Int, callN B (n + 2) 410 [.int c, .tup (Rl.map lkD)] S = .ok (.o (.l (F.map D.int))) S ∧ decide (F.length = c) = w := by
      cases nr : noRing (ones c) Rl with
      | true =>
        obtain ⟨nd, conn⟩ := ring_conn hl hr nr
        refine ⟨true, fun S => ?_⟩
        obtain ⟨F, f1, f2, _⟩ := reP (fun _ => True) trivial (fun _ _ _ _ => trivial) S
        exact ⟨F, f1, decide_eq_true (conn F f2)⟩
      | false =>
        obtain ⟨P, p0, pc, z, z0, z1, zn⟩ := ring_part hl hr nr
        refine ⟨false, fun S => ?_⟩
        obtain ⟨F, f1, f2, f3⟩ := reP P p0 pc S
        refine ⟨F, f1, decide_eq_false fun e => ?_⟩
        have := too_many (c := c) (W := z :: F) (List.nodup_cons.mpr ⟨fun h => zn (f3 z h), f2.1⟩) fun p hp => by
          rcases List.mem_cons.mp hp with rfl | hp
          · exact ⟨z0, z1⟩
          · exact f2.2.1 p hp
        rw [List.length_cons] at this
        omega
    have := sp_tree_core (B := B) (n := n) (c := c) (S := S) (w := w) hU hR hB hl hc hr ss re
    rw [decide_eq_false ne] at this
    rw [decide_eq_false so]
    exact this
end
/-! ### what may be a tree -/
inductive TrC (M I k : Nat) : D → Prop
  | nt (x : D) (h : ∀ S, bIsi [x, .ty "tuple"] S = .ok (.v (.bl false)) S) : TrC M I k x
  | len (l : List D) (h : ¬ (l.length : Int) = 2) : TrC M I k (.tup l)
  | ni (a b : D) (ha : vD M I k a) (h : isI a = false) : TrC M I k (.tup [a, b])
  | lo (i : Int) (b : D) (h : i < 1) : TrC M I k (.tup [.int i, b])
  | nb (i : Int) (b : D) (h : 1 ≤ i) (hb : ∀ S, bIsi [b, .ty "tuple"] S = .ok (.v (.bl false)) S) : TrC M I k (.tup [.int i, b])
  | rs (i : Int) (l : List D) (h : 1 ≤ i) (h1 : l.length ≤ M) (h2 : ∀ e ∈ l, vD M I k e) : TrC M I k (.tup [.int i, .tup l])
theorem nt_or {M I k : Nat} {y : D} (h : vD M I k y) : (∀ S, bIsi [y, .ty "tuple"] S = .ok (.v (.bl false)) S) ∨ ∃ l, y = .tup l ∧ l.length ≤ M ∧ ∀ e ∈ l, vD M I k e := by
  rcases vD_cases h with rfl | ⟨b, rfl⟩ | ⟨i, rfl, hi⟩ | ⟨z, rfl, hx⟩ | ⟨t, l, k', e, rfl, l1, l2⟩
  · exact .inl fun _ => rfl
  · exact .inl fun _ => rfl
  · exact .inl fun _ => rfl
  · exact .inl fun _ => rfl
  · cases t
    · exact .inl fun _ => rfl
    · exact .inr ⟨l, rfl, l1, fun e he => vD_mono (Nat.le_refl _) (Nat.le_refl _) (by omega) (l2 e he)⟩
theorem tr_cases {M I k : Nat} {y : D} (h : vD M I k y) : TrC M I k y := by
  rcases nt_or h with h | ⟨l, rfl, l1, l2⟩
  · exact .nt _ h
  · by_cases c2 : l.length = 2
    · match l, c2, l2 with
      | [a, b], _, l2 =>
        have ha := l2 a (by simp)
        have hb := l2 b (by simp)
        rcases int_or (y := a) with ⟨i, rfl⟩ | ⟨z1, _⟩
        · by_cases i1 : 1 ≤ i
          · rcases nt_or hb with h | ⟨l, rfl, l1, l2⟩
            · exact .nb _ _ i1 h
            · exact .rs _ _ i1 l1 l2
          · exact .lo _ _ (by omega)
        · exact .ni _ _ ha z1
    · exact .len l (by omega)
theorem rd_all {c : Int} : ∀ {l : List D}, l.all (rdV c) = true → ∃ L : List Lk, l = L.map lkD ∧ ∀ x ∈ L, 0 ≤ x.1 ∧ x.1 < x.2 ∧ x.2 < c
  | [], _ => ⟨[], rfl, fun q hq => by cases hq⟩
  | x :: l, h => by
    rw [List.all_cons, Bool.and_eq_true] at h
    obtain ⟨L, rfl, hL⟩ := rd_all h.2
    have h1 := h.1
    match x, h1 with
    | .tup [.int a, .int b], h1 =>
      exact ⟨(a, b) :: L, rfl, fun q hq => by
        rcases List.mem_cons.mp hq with rfl | hq
        · exact okRd_iff.mp h1
        · exact hL q hq⟩
section
variable {B : Tb} {n M I k : Nat} {S : Sto} {x : D}
local macro_rules | `(tactic| simp! only [$xs,*] $[$l:location]?) => `(tactic| simp only [bun_0, bun_1, bun_2, bun_3, bun_4, bun_5, bun_6, sv_at, sv_ta, sv_it, sv_ti, sv_dt, sv_df, sv_ft, sv_nt, sv_nn, sv_tt, sv_fn, sv_c0, sv_c1, sv_c2, sv_c3, sv_c4, sv_c5, sv_c6, sv_dT, sv_dF, sv_nT, sv_nF, sv_ifT, sv_ifF, sv_iP, sv_iQ, reduceDIte, reduceIte, reduceCtorEq, Nat.reduceEqDiff, Nat.reduceGT, Nat.reduceSubDiff, Nat.reduceMod, Nat.reduceAdd, Nat.reduceBNe, Nat.reduceLeDiff, Nat.reduceSub, Nat.reduceDiv, Nat.reduceMul, Nat.reduceBEq, Nat.reduceSucc, Nat.reduceLT, Nat.reducePow, Int.reduceGE, Int.reduceToNat, Int.reduceEq, Int.reduceOfNat, Int.reduceGT, Int.reducePow, Int.reduceDiv, Int.reduceMul, Int.reduceBEq, Int.reduceNe, Int.reduceSub, Int.reduceLT, Int.reduceNeg, Int.reduceBNe, Int.reduceAdd, Int.reduceLE, Int.reduceMod, Int.reduceNegSucc, $xs,*] $[$l:location]?)
theorem sp_tree_no (hU : B i_is_number = some q_is_number) (hB : B i_is_tree = some q_itb) (h : TrC M I k x) (hn : ∀ i l, x ≠ .tup [.int i, .tup l]) : callN B (n + 3) i_is_tree [x] S = .ok (.v (.bl false)) S := by
  have it : ∀ (l : List D) S, bIsi [.tup l, .ty "tuple"] S = .ok (.v (.bl true)) S := fun l S => rfl
  have nu : ∀ (p : Int) S, callN B (n + 2) 312 [.int p] S = .ok (.v (.bl true)) S := fun p S => sp_number hU
  refine eq_of_ok (ok_call (hB.trans rfl) rfl ?_)
  unfold b_itb
  refine ok_seqG fun N1 hN1 => ?_
  cases h with
  | nt x h => simp! only [h]
  | len l h => simp! only [it, h]
  | ni a b ha h =>
    have na : ∀ S, callN B (n + 2) 312 [a] S = .ok (.v (.bl false)) S := fun S => by rw [← h]; exact isn_any5 (n := n + 1) hU ha
    simp! only [it, na]
  | lo i b h => simp! only [it, nu, h]
  | nb i b h hb =>
    have h' : ¬ i < 1 := by omega
    simp! only [it, nu, h']
    refine hN1 _ _ ?_
    refine ok_seqG fun N1 hN1 => ?_
    simp! only [hb]
  | rs i l => exact absurd rfl (hn i l)
theorem sp_tree_bad {i : Int} {l : List D} (hU : B i_is_number = some q_is_number) (hR : B i_is_road = some q_is_road) (hB : B i_is_tree = some q_itb) (h1 : 1 ≤ i) (l1 : l.length ≤ 1000) (l2 : ∀ e ∈ l, vD M I k e) (h : l.all (rdV i) = false ∨ ¬ (l.length : Int) = i - 1) :
    callN B (n + 3) i_is_tree [.tup [.int i, .tup l]] S = .ok (.v (.bl false)) S := by
  have it : ∀ (l : List D) S, bIsi [.tup l, .ty "tuple"] S = .ok (.v (.bl true)) S := fun l S => rfl
  have nu : ∀ (p : Int) S, callN B (n + 2) 312 [.int p] S = .ok (.v (.bl true)) S := fun p S => sp_number hU
  have h' : ¬ i < 1 := by omega
  refine eq_of_ok (ok_call (hB.trans rfl) rfl ?_)
  unfold b_itb
  refine ok_seqG fun N1 hN1 => ?_
  simp! only [it, nu, h']
  refine hN1 _ _ ?_
  refine ok_seqG fun N1 hN1 => ?_
  simp! only [it]
  refine ok_compA l id (fun e => .bl (rdV i e)) (by simp! only [List.map_id]) (by omega) (fun e he => ?_) ?_
  · have u1 : ∀ S, callN B (n + 2) 316 [e, .int i] S = .ok (.v (.bl (rdV i e))) S := fun S => sp_road_any (n := n) hU hR (l2 e he)
    simp! only [id, u1]
  · cases al : l.all (rdV i) with
    | false => simp! only [bAll_map, al]
    | true =>
      have hl := h.resolve_left (by rw [al]; exact Bool.noConfusion)
      simp! only [bAll_map, al]
      refine hN1 _ _ ?_
      refine ok_seqG fun N1 hN1 => ?_
      simp! only [hl]
end
end MP

namespace MP
open PySem PySem.Spec
/-! ### the box, with one more object of the store that stays -/
structure BxF (m : Nat) (y : O) (S : Sto) (b k : Nat) : Prop where
  bx : Bx S b k
  kp : S[m]? = some y
  ne : m ≠ b
theorem BxF.mono {m : Nat} {y : O} {S : Sto} {b k j : Nat} (h : BxF m y S b k) (e : j ≤ k) : BxF m y S b j := ⟨h.bx.mono e, h.kp, h.ne⟩
theorem sp_takeX {B : Tb} {n b k : Nat} {S : Sto} {m : Int} (hB : B i__law_take = some q__law_take) (hb : Bx S b (k + 1)) (hm : 0 < m) (hm2 : m ≤ 10000000) :
    ∃ (r : Int) (S' : Sto), callN B (n + 1) i__law_take [.loc b, .int m] S = .ok (.v (.int r)) S' ∧ 0 ≤ r ∧ r < m ∧ Bx S' b k ∧ ∃ o, S' = S.set b o := by
  obtain ⟨x, y, z, h1, h2, h3, h4⟩ := hb.ex
  have hbl : b < S.length := (List.getElem?_eq_some_iff.mp h1).1
  have hmb : m.natAbs < big := Nat.lt_trans (by omega) big_gt
  rw [callN_eq hB]
  by_cases c : 0 < x
  · refine ⟨x % m, S.set b (.l [.int (x / m), .int y, .int z]), ?_, Int.emod_nonneg _ (by omega), Int.emod_lt_of_pos _ hm, ⟨x / m, y, z, ?_, Int.ediv_nonneg h2 (by omega), h3, by omega⟩, _, rfl⟩
    · simp [q__law_take, b__law_take, callF, startE, finO, dSeqS, dSet, slOf, dRet, dRetN, dIfS, dSkip, dVar, dBVar, dMv, dC, fz, rv, dOp, dUn, dNil, dCons, dTup, dLst, dB, dAndT, dOrT, dNotT, dAnd, dOr, dNot, dIf, dIfR, dCall, dBlt, dOp2, dSeq, itemsOf, dFrz, frzE, dPar, rCons, rNil, setSls, dAug, dUnp, bindTg, bindTgs, wipeE, dYes, dChain, Res.bind, Res.map, R.val, O.toD, fIx_tup, fIx_lst, fIx_loc, fIx_scr, ixD, fGt_i, fLt_i, fLe_i, fGe_i, fSub_i, fIAdd_i, fMod, fDiv, fAdd, fPow, fEq, fNe, fIsN, fNotN, isNon, bLen, bList, bTuple, bAbs, bInt, bMax2, bMin2, dPutL, listSlot, isL, mutL, fPut, dIxL, dMut1, fApp, List.getElem?_cons_zero, List.getElem?_cons_succ, List.set_cons_zero, List.set_cons_succ, List.map_cons, List.map_nil, List.cons_append, List.nil_append, List.length_cons, List.length_nil, List.replicate, if_true, if_false, ite_true, ite_false, Bool.false_eq_true, reduceIte, decide_true, decide_false, Option.map_some, Option.bind_some, h1, c, hm, hmb]
    · rw [List.getElem?_set_self hbl]
  · have c0 : x = 0 := by omega
    subst c0
    refine ⟨takeV y (z + 1) m, S.set b (.l [.int 0, .int y, .int (z + 1)]), ?_, Int.emod_nonneg _ (by omega), Int.emod_lt_of_pos _ hm, ⟨0, y, z + 1, ?_, by omega, by omega, by omega⟩, _, rfl⟩
    · have m1 : ∀ i, mulOk i (39373 + (z + 1)) = true := fun i => mulOk_small (by omega)
      have m2 : ∀ i j : Int, mulOk i (j % 40009 + 7) = true := fun i j => mulOk_small (by have := Int.emod_nonneg j (show (40009 : Int) ≠ 0 by decide); have := Int.emod_lt_of_pos j (show (0 : Int) < 40009 by decide); omega)
      have m3 : ∀ i : Int, mulOk i 48271 = true := fun i => mulOk_small (by decide)
      have m4 : ∀ i : Int, mulOk 48271 i = true := fun i => mulOk_small1 (by decide)
      have b1 : (1000003 : Nat) < big := Nat.lt_trans (by decide) big_gt
      have b2 : (64 : Nat) < big := Nat.lt_trans (by decide) big_gt
      have hm3 : ¬ 10000000 < m := by omega
      simp [q__law_take, b__law_take, callF, startE, finO, dSeqS, dSet, slOf, dRet, dRetN, dIfS, dSkip, dVar, dBVar, dMv, dC, fz, rv, dOp, dUn, dNil, dCons, dTup, dLst, dB, dAndT, dOrT, dNotT, dAnd, dOr, dNot, dIf, dIfR, dCall, dBlt, dOp2, dSeq, itemsOf, dFrz, frzE, dPar, rCons, rNil, setSls, dAug, dUnp, bindTg, bindTgs, wipeE, dYes, dChain, Res.bind, Res.map, R.val, O.toD, fIx_tup, fIx_lst, fIx_loc, fIx_scr, ixD, fGt_i, fLt_i, fLe_i, fGe_i, fSub_i, fIAdd_i, fMod, fDiv, fAdd, fPow, fEq, fNe, fIsN, fNotN, isNon, bLen, bList, bTuple, bAbs, bInt, bMax2, bMin2, dPutL, listSlot, isL, mutL, fPut, dIxL, dMut1, fApp, List.getElem?_cons_zero, List.getElem?_cons_succ, List.set_cons_zero, List.set_cons_succ, List.map_cons, List.map_nil, List.cons_append, List.nil_append, List.length_cons, List.length_nil, List.replicate, if_true, if_false, ite_true, ite_false, Bool.false_eq_true, reduceIte, decide_true, decide_false, Option.map_some, Option.bind_some, fMul, h1, hm, hmb, hm3, m1, m2, m3, m4, b1, b2, List.getElem?_set_self hbl, takeV]
    · rw [List.getElem?_set_self hbl]

theorem sp_takeF {B : Tb} {m0 : Nat} {y0 : O} {n b k : Nat} {S : Sto} {m : Int} (hB : B i__law_take = some q__law_take) (hb : BxF m0 y0 S b (k + 1)) (hm : 0 < m) (hm2 : m ≤ 10000000) :
    ∃ (r : Int) (S' : Sto), callN B (n + 1) i__law_take [.loc b, .int m] S = .ok (.v (.int r)) S' ∧ 0 ≤ r ∧ r < m ∧ BxF m0 y0 S' b k := by
  obtain ⟨r, S', h1, h2, h3, h4, o, h5⟩ := sp_takeX (n := n) hB hb.bx hm hm2
  refine ⟨r, S', h1, h2, h3, h4, ?_, hb.ne⟩
  rw [h5, List.getElem?_set_ne fun e => hb.ne e.symm]
  exact hb.kp
theorem sp_ofF {B : Tb} {m0 : Nat} {y0 : O} {n b k : Nat} {S : Sto} {d : D} {xs : List D} (hT : B i__law_take = some q__law_take) (hO : B i__law_of = some q__law_of) (hb : BxF m0 y0 S b (k + 1)) (hd : SeqD d xs) (h0 : 0 < xs.length) (h1 : xs.length ≤ 10000000) :
    ∃ (x : D) (S' : Sto), callN B (n + 2) i__law_of [.loc b, d] S = .ok (.v x) S' ∧ x ∈ xs ∧ BxF m0 y0 S' b k := by
  obtain ⟨r, S', e1, e2, e3, e4⟩ := sp_takeF (n := n) (m := xs.length) hT hb (by omega) (by omega)
  have hr : r.toNat < xs.length := by omega
  refine ⟨xs[r.toNat], S', ?_, List.getElem_mem hr, e4⟩
  have e5 : xs[r.toNat]? = some xs[r.toNat] := List.getElem?_eq_getElem hr
  rw [callN_eq hO]
  cases hd <;> simp [q__law_of, b__law_of, callF, startE, finO, dSeqS, dSet, slOf, dRet, dRetN, dIfS, dSkip, dVar, dBVar, dMv, dC, fz, rv, dOp, dUn, dNil, dCons, dTup, dLst, dB, dAndT, dOrT, dNotT, dAnd, dOr, dNot, dIf, dIfR, dCall, dBlt, dOp2, dSeq, itemsOf, dFrz, frzE, dPar, rCons, rNil, setSls, dAug, dUnp, bindTg, bindTgs, wipeE, dYes, dChain, Res.bind, Res.map, R.val, O.toD, fIx_tup, fIx_lst, fIx_loc, fIx_scr, ixD, fGt_i, fLt_i, fLe_i, fGe_i, fSub_i, fIAdd_i, fMod, fDiv, fAdd, fPow, fEq, fNe, fIsN, fNotN, isNon, bLen, bList, bTuple, bAbs, bInt, bMax2, bMin2, dPutL, listSlot, isL, mutL, fPut, dIxL, dMut1, fApp, List.getElem?_cons_zero, List.getElem?_cons_succ, List.set_cons_zero, List.set_cons_succ, List.map_cons, List.map_nil, List.cons_append, List.nil_append, List.length_cons, List.length_nil, List.replicate, if_true, if_false, ite_true, ite_false, Bool.false_eq_true, reduceIte, decide_true, decide_false, Option.map_some, Option.bind_some, e1, e2, e5]
theorem bent_endF {B : Tb} {m0 : Nat} {y0 : O} {n b k : Nat} {S : Sto} {xs : List D} {P : D → Prop} (hT : B i__law_take = some q__law_take) (hO : B i__law_of = some q__law_of) (hb : BxF m0 y0 S b (k + 1)) (h : ∀ x ∈ xs, P x) (h0 : 0 < xs.length) (h1 : xs.length ≤ 1000) :
    okE (callN B (n + 2) 110 [.loc b, .lst xs] S) fun r S' => P r.val ∧ BxF m0 y0 S' b k := by
  obtain ⟨x, S', e1, e2, e3⟩ := sp_ofF (B := B) (n := n) (b := b) (k := k) (S := S) (d := .lst xs) hT hO hb (.lst _) h0 (by omega)
  exact ⟨_, _, e1, h x e2, e3⟩
local macro_rules | `(tactic| simp! only [$xs,*] $[$l:location]?) => `(tactic| simp only [bun_0, bun_1, bun_2, bun_3, bun_4, bun_5, bun_6, sv_at, sv_ta, sv_it, sv_ti, sv_dt, sv_df, sv_ft, sv_nt, sv_nn, sv_tt, sv_fn, sv_c0, sv_c1, sv_c2, sv_c3, sv_c4, sv_c5, sv_c6, sv_dT, sv_dF, sv_nT, sv_nF, sv_ifT, sv_ifF, sv_iP, sv_iQ, reduceDIte, reduceIte, reduceCtorEq, Nat.reduceEqDiff, Nat.reduceGT, Nat.reduceSubDiff, Nat.reduceMod, Nat.reduceAdd, Nat.reduceBNe, Nat.reduceLeDiff, Nat.reduceSub, Nat.reduceDiv, Nat.reduceMul, Nat.reduceBEq, Nat.reduceSucc, Nat.reduceLT, Nat.reducePow, Int.reduceGE, Int.reduceToNat, Int.reduceEq, Int.reduceOfNat, Int.reduceGT, Int.reducePow, Int.reduceDiv, Int.reduceMul, Int.reduceBEq, Int.reduceNe, Int.reduceSub, Int.reduceLT, Int.reduceNeg, Int.reduceBNe, Int.reduceAdd, Int.reduceLE, Int.reduceMod, Int.reduceNegSucc, $xs,*] $[$l:location]?)
/-- what a changed value is, with its weight -/
theorem sp_bentF {B : Tb} {m0 : Nat} {y0 : O} {b L I : Nat} (hT : B i__law_take = some q__law_take) (hO : B i__law_of = some q__law_of) (hB : B 13 = some q_bent) (hL : 2 ≤ L) (hL2 : L ≤ 1000) (hI : 1000000000000000000000000000000 ≤ I) (hI2 : I < 2 ^ 1800) :
    ∀ (m n k : Nat) (S : Sto) (d : D), vD L I m d → BxF m0 y0 S b (k + 2 * m + 2) → okE (callN B (n + m + 3) 13 [.loc b, d] S) fun r S' => (vD (L + 1) (I + 1) (m + 1) r.val ∧ wD r.val ≤ 2 * wD d + 40000) ∧ BxF m0 y0 S' b k := by
  intro m
  induction m using Nat.strongRecOn with
  | ind m ih =>
  intro n k S d hd hb
  obtain ⟨w, S1, a1, a2, a3, a4⟩ := sp_takeF (B := B) (n := n + m + 1) (m := 6) (k := k + 2 * m + 1) (S := S) hT hb (by decide) (by decide)
  have a1 : callN B (n + m + 2) 238 [.loc b, .int 6] S = .ok (.v (.int w)) S1 := a1
  refine ok_call (hB.trans rfl) rfl ?_
  unfold b_bent
  refine ok_seqG fun N1 hN1 => ?_
  simp! only [a1]
  refine hN1 _ _ ?_
  rcases vD_cases hd with h | h | h | h | ⟨t, l, m', rfl, rfl, l1, l2⟩
  case inr.inr.inr.inr =>
    have up : ∀ e ∈ l, vD (L + 1) (I + 1) (m' + 1) e := fun e he => vD_mono (Nat.le_succ _) (Nat.le_succ _) (Nat.le_succ _) (l2 e he)
    have wq : wD (sqD t l) = 3 + wDs l := by cases t <;> rfl
    have fin : ∀ ds : List D, ds.length ≤ L + 1 → wDs ds ≤ 2 * wDs l + 40000 → (∀ e ∈ ds, vD (L + 1) (I + 1) (m' + 1) e) → (vD (L + 1) (I + 1) (m' + 1 + 1) (.tup ds) ∧ wD (.tup ds) ≤ 2 * wD (sqD t l) + 40000) ∧ (vD (L + 1) (I + 1) (m' + 1 + 1) (.lst ds) ∧ wD (.lst ds) ≤ 2 * wD (sqD t l) + 40000) := fun ds h1 h3 h2 => ⟨⟨vD_tup h1 h2, by rw [wq]; show 3 + wDs ds ≤ _; omega⟩, vD_lst h1 h2, by rw [wq]; show 3 + wDs ds ≤ _; omega⟩
    refine ok_seqG fun N2 hN2 => ?_
    have rest : N2 [.va (.loc b), .va (sqD t l), .va (.int w), .no, .no, .no] S1 := by
      refine hN2 _ _ ?_
      refine ok_seqG fun N3 hN3 => ?_
      obtain ⟨f1, f2⟩ := fin l (by omega) (by omega) up
      by_cases c : w = 0
      · cases t
        · simp! only [c, qi2, qiT, qtup]
          exact ⟨f1, a4.mono (by omega)⟩
        · simp! only [c, qi2, qiT, qlist]
          exact ⟨f2, a4.mono (by omega)⟩
      · simp! only [c]
        refine hN3 _ _ ?_
        simp! only [pow30, qiI]
        have h8 := bent_endF (B := B) (n := n + m' + 1) (b := b) (k := k) (P := fun x => vD (L + 1) (I + 1) (m' + 1 + 1) x ∧ wD x ≤ 2 * wD (sqD t l) + 40000) (S := S1) (xs := oddL) hT hO (a4.mono (by omega)) (fun e he => ⟨oddL_ok (by omega) (by omega) e he, by have := oddL_w e he; omega⟩) (by decide) (by decide)
        exact h8
    simp! only [qi2, qlen]
    by_cases c0 : (0 : Int) < (l.length : Int)
    · by_cases c1 : (1 : Int) < w
      · simp! only [c0, c1]
        obtain ⟨at0, S2, b1, b2, b3, b4⟩ := sp_takeF (B := B) (n := n + m' + 2) (m := (l.length : Int)) (k := k + 2 * m' + 2) (S := S1) hT (a4.mono (by omega)) (by omega) (by omega)
        have b1 : callN B (n + (m' + 1) + 2) 238 [.loc b, .int (l.length : Int)] S1 = .ok (.v (.int at0)) S2 := b1
        obtain ⟨z, rfl⟩ : ∃ z : Nat, at0 = z := ⟨at0.toNat, by omega⟩
        have zl : z < l.length := by omega
        have ix : ixD l z = some l[z] := by
          show (if (0 : Int) ≤ (z : Int) then l[((z : Int)).toNat]? else _) = _
          rw [if_pos (by omega), Int.toNat_natCast]
          exact List.getElem?_eq_getElem zl
        simp! only [qlen, qlist, b1]
        have pt : ∀ v, fPut (.int z) v l = some (l.set z v) := fun v => by
          rw [put_ok (by omega) (by omega), Int.toNat_natCast]
        by_cases c2 : w = 2
        · obtain ⟨f1, f2⟩ := fin (l.eraseIdx z) (by rw [List.length_eraseIdx]; split <;> omega) (by have := w_erase l z; omega) (fun e he => up e (mem_erase' he))
          cases t
          · simp! only [c2, pop_ok zl (by omega), qiT]
            exact ⟨f2, b4.mono (by omega)⟩
          · simp! only [c2, pop_ok zl (by omega), qiT]
            exact ⟨f1, b4.mono (by omega)⟩
        · by_cases c3 : w = 3
          · obtain ⟨f1, f2⟩ := fin (l.take z ++ [l[z]] ++ l.drop z) (by simp only [List.length_append, List.length_take, List.length_drop, List.length_cons, List.length_nil]; omega) (by have := w_ins zl; omega) (fun e he => by
              rcases List.mem_append.mp he with he | he
              · rcases List.mem_append.mp he with he | he
                · exact up e (List.mem_of_mem_take he)
                · rw [List.mem_singleton.mp he]
                  exact up _ (List.getElem_mem zl)
              · exact up e (List.mem_of_mem_drop he))
            simp! only [c3]
            refine (ok_dIns _ _ rfl).mpr ?_
            simp! only [ix]
            refine ⟨_, rfl, ?_⟩
            rw [ins_ok (by omega) (by omega)]
            cases t
            · simp! only [qiT]
              exact ⟨f2, b4.mono (by omega)⟩
            · simp! only [qiT]
              exact ⟨f1, b4.mono (by omega)⟩
          · simp! only [c2, c3, ix]
            obtain ⟨r, S3, g1, g2, g3⟩ := ih m' (Nat.lt_succ_self _) n k S2 l[z] (l2 _ (List.getElem_mem zl)) (b4.mono (by omega))
            have g1 : callN B (n + (m' + 1) + 2) 13 [.loc b, l[z]] S2 = .ok r S3 := by
              rw [show n + (m' + 1) + 2 = n + m' + 3 by omega]
              exact g1
            obtain ⟨f1, f2⟩ := fin (l.set z r.val) (by rw [List.length_set]; omega) (by have := w_set (v := r.val) zl; have := w_mem (List.getElem_mem zl); have := g2.2; omega) (fun e he => by
              rcases set_mem he with rfl | he
              · exact g2.1
              · exact up e he)
            cases t
            · simp! only [g1, pt, qiT]
              exact ⟨f2, g3⟩
            · simp! only [g1, pt, qiT]
              exact ⟨f1, g3⟩
      · simp! only [c0, c1]
        exact rest
    · simp! only [c0]
      exact rest
  all_goals
    have ha : atmD d = true := by
      first
        | (subst h; rfl)
        | (obtain ⟨x, rfl⟩ := h; rfl)
        | (obtain ⟨x, rfl, _⟩ := h; rfl)
    refine ok_seqG fun N2 hN2 => ?_
    simp! only [ai2 ha]
    refine hN2 _ _ ?_
    refine ok_seqG fun N3 hN3 => ?_
    have h3 : N3 [.va (.loc b), .va d, .va (.int w), .no, .no, .no] S1 := by
      refine hN3 _ _ ?_
      have h8 := bent_endF (B := B) (n := n + m) (b := b) (k := k) (P := fun x => vD (L + 1) (I + 1) (m + 1) x ∧ wD x ≤ 2 * wD d + 40000) (S := S1) (xs := oddL) hT hO (a4.mono (by omega)) (fun e he => ⟨oddL_ok (by omega) (by omega) e he, by have := oddL_w e he; omega⟩) (by decide) (by decide)
      first
        | (subst h; simp! only [pow30, iiI ha, iiB ha, isI, isB, Bool.or_true, Bool.or_false, Bool.true_or, Bool.false_or]; exact h8)
        | (obtain ⟨x, rfl⟩ := h; simp! only [pow30, iiI ha, iiB ha, isI, isB, Bool.or_true, Bool.or_false, Bool.true_or, Bool.false_or]; exact h8)
        | (obtain ⟨x, rfl, hx⟩ := h
           have hx : PyData.strOk x = true ∧ x.length ≤ 1921 := hx
           simp! only [pow30, iiI ha, iiB ha, isI, isB, Bool.or_true, Bool.or_false, Bool.true_or, Bool.false_or]
           exact h8)
        | (obtain ⟨x, rfl, hx⟩ := h
           have hx : x.natAbs ≤ I := hx
           have st : ∀ S, bStr [.int x] S = .ok (.v (.str (toString x))) S := fun S => by
             show (if x.natAbs.log2 < 1920 then Res.ok (R.v (.str (toString x))) S else .bad) = _
             rw [if_pos (log_int (Nat.lt_of_le_of_lt hx (Nat.lt_trans hI2 (Nat.pow_lt_pow_right (by decide) (by decide)))))]
           have ad : ∀ S, fAdd (.lst oddL) (.lst [.int (x + 1), .int (x - 1), .int (x + 1), .str (toString x)]) S = .ok (.o (.l (oddL ++ [.int (x + 1), .int (x - 1), .int (x + 1), .str (toString x)]))) S := fun S => add_l (by simp [oddL]) S
           have ad : ∀ S, fAdd (.lst [.non, .bl true, .bl false, .int (-1), .int 0, .int 1, .str "", .str "end", .tup [], .lst [], .tup [.int 0], .lst [.int 0], .tup [.int 0, .int 1], .tup [.int 0, .str "end", .int 0], .int 1000000000000000000000000000000]) (.lst [.int (x + 1), .int (x - 1), .int (x + 1), .str (toString x)]) S = .ok (.o (.l (oddL ++ [.int (x + 1), .int (x - 1), .int (x + 1), .str (toString x)]))) S := ad
           simp! only [pow30, iiI ha, iiB ha, isI, isB, Bool.or_true, Bool.or_false, Bool.true_or, Bool.false_or, st, ad]
           exact bent_endF (B := B) (n := n + m) (b := b) (k := k) (P := fun y => vD (L + 1) (I + 1) (m + 1) y ∧ wD y ≤ 2 * wD (.int x) + 40000) (S := S1) (xs := oddL ++ [.int (x + 1), .int (x - 1), .int (x + 1), .str (toString x)]) hT hO (a4.mono (by omega)) (fun e he => by
             rcases List.mem_append.mp he with he | he
             · exact ⟨oddL_ok (by omega) (by omega) e he, by have := oddL_w e he; omega⟩
             · simp only [List.mem_cons, List.not_mem_nil, or_false] at he
               rcases he with rfl | rfl | rfl | rfl
               · exact ⟨vD_int (by omega), by show 1921 ≤ 2 * 1921 + 40000; omega⟩
               · exact ⟨vD_int (by omega), by show 1921 ≤ 2 * 1921 + 40000; omega⟩
               · exact ⟨vD_int (by omega), by show 1921 ≤ 2 * 1921 + 40000; omega⟩
               · have sl := PyProof.Rows.int_text_len_1921 (log_int (Nat.lt_of_le_of_lt hx (Nat.lt_trans hI2 (Nat.pow_lt_pow_right (by decide) (by decide)))))
                 refine ⟨?_, by show 10 * (Str.ofString (toString x)).length + 2 ≤ 2 * 1921 + 40000; omega⟩
                 exact vD_str ⟨strOk_of _, PyProof.Rows.int_text_len_1921 (log_int (Nat.lt_of_le_of_lt hx (Nat.lt_trans hI2 (Nat.pow_lt_pow_right (by decide) (by decide)))))⟩) (by simp [oddL]) (by simp [oddL]))
    by_cases c : w = 0
    · simp! only [c, ai2 ha]
      rw [← c]
      exact h3
    · simp! only [c]
      exact h3
end MP

namespace K01
open PySem PySem.Spec PyProof.Rows L2 MP
def top (i : Nat) : Stmt := PySem.Challenge.pw_lastroads_k01_trees_or_not.main.body.getD i (.Pass ⟨0, 0, 0, 0⟩)

def b_is_tree_b (C : Calls) : DS :=
  (dSeqS
  (dIfS (dOrT (dNotT (dB (fz (dBlt bIsi (dCons (dBVar 0) (dCons (dC (.ty "tuple")) dNil)))))) (dOrT (dB (fz (dOp fNe (fz (dBlt bLen (dCons (dBVar 0) dNil))) (dC (.int 2))))) (dOrT (dNotT (dB (fz (dCall C 312 (dCons (fz (dOp fIx (dBVar 0) (dC (.int 0)))) dNil))))) (dB (fz (dOp fLt (fz (dOp fIx (dBVar 0) (dC (.int 0)))) (dC (.int 1)))))))) (dRet (rv (dC (.bl false)))) dSkip)
  (dSeqS
  (dIfS (dOrT (dNotT (dB (fz (dBlt bIsi (dCons (fz (dOp fIx (dBVar 0) (dC (.int 1)))) (dCons (dC (.ty "tuple")) dNil)))))) (dNotT (dB (fz (dBlt bAll (dCons (fz (dComp (dSeq (fz (dOp fIx (dBVar 0) (dC (.int 1))))) [1] (.nm 1) dYes (fz (dCall C 316 (dCons (dVar 1) (dCons (fz (dOp fIx (dBVar 0) (dC (.int 0)))) dNil)))))) dNil)))))) (dRet (rv (dC (.bl false)))) dSkip)
  (dSeqS
  (dIfS (dOrT (dB (fz (dOp fNe (fz (dBlt bLen (dCons (fz (dOp fIx (dBVar 0) (dC (.int 1)))) dNil))) (fz (dOp fSub (fz (dOp fIx (dBVar 0) (dC (.int 0)))) (dC (.int 1))))))) (dB (fz (dOp fNe (fz (dBlt bList (dCons (fz (dOp fIx (dBVar 0) (dC (.int 1)))) dNil))) (fz (dSortSetP (fz (dOp fIx (dBVar 0) (dC (.int 1)))))))))) (dRet (rv (dC (.bl false)))) dSkip)
  (dRet (dOp fEq (fz (dBlt bLen (dCons (fz (dCall C 410 (dCons (fz (dOp fIx (dBVar 0) (dC (.int 0)))) (dCons (fz (dOp fIx (dBVar 0) (dC (.int 1)))) dNil)))) dNil))) (fz (dOp fIx (dBVar 0) (dC (.int 0)))))))))
def q_is_tree_b : FD := ⟨"is_tree", 1, 2, b_is_tree_b⟩

def b__law_bent (C : Calls) : DS :=
  (dSeqS
  (dSet 2 (dCall C 238 (dCons (dVar 0) (dCons (dC (.int 6)) dNil))))
  (dSeqS
  (dIfS (dAndT (dB (fz (dBlt bIsi (dCons (dBVar 1) (dCons (dTup (dCons (dC (.ty "tuple")) (dCons (dC (.ty "list")) dNil))) dNil))))) (dAndT (dB (fz (dOp fGt (fz (dBlt bLen (dCons (dBVar 1) dNil))) (dC (.int 0))))) (dB (fz (dOp fGt (dBVar 2) (dC (.int 1))))))) (dSeqS
  (dPar [4, 5] (rCons (dCall C 238 (dCons (dVar 0) (dCons (fz (dBlt bLen (dCons (dBVar 1) dNil))) dNil))) (rCons (dBlt bList (dCons (dBVar 1) dNil)) rNil)))
  (dSeqS
  (dIfS (dB (fz (dOp fEq (dBVar 2) (dC (.int 2))))) (dMut1 5 fPopI (dVar 4)) (dIfS (dB (fz (dOp fEq (dBVar 2) (dC (.int 3))))) (dIns 5 (dVar 4) (fz (dOp fIx (dBVar 5) (dBVar 4)))) (dPutL 5 (dVar 4) (fz (dCall C 13 (dCons (dVar 0) (dCons (fz (dOp fIx (dBVar 5) (dBVar 4))) dNil)))))))
  (dFrz 5 (dRet (dIfR (dB (fz (dBlt bIsi (dCons (dBVar 1) (dCons (dC (.ty "tuple")) dNil))))) (dBlt bTuple (dCons (dBVar 5) dNil)) (rv (dVar 5))))))) dSkip)
  (dSeqS
  (dIfS (dAndT (dB (fz (dOp fEq (dBVar 2) (dC (.int 0))))) (dB (fz (dBlt bIsi (dCons (dBVar 1) (dCons (dTup (dCons (dC (.ty "tuple")) (dCons (dC (.ty "list")) dNil))) dNil)))))) (dRet (dIfR (dB (fz (dBlt bIsi (dCons (dBVar 1) (dCons (dC (.ty "tuple")) dNil))))) (dBlt bList (dCons (dBVar 1) dNil)) (dBlt bTuple (dCons (dBVar 1) dNil)))) dSkip)
  (dSeqS
  (dSet 3 (dLst (dCons (dC .non) (dCons (dC (.bl true)) (dCons (dC (.bl false)) (dCons (fz (dUn fNeg (dC (.int 1)))) (dCons (dC (.int 0)) (dCons (dC (.int 1)) (dCons (dC (.str "")) (dCons (dC (.str "end")) (dCons (dTup dNil) (dCons (fz (dLst dNil)) (dCons (dTup (dCons (dC (.int 0)) dNil)) (dCons (fz (dLst (dCons (dC (.int 0)) dNil))) (dCons (dTup (dCons (dC (.int 0)) (dCons (dC (.int 1)) dNil))) (dCons (dTup (dCons (dC (.int 0)) (dCons (dC (.str "end")) (dCons (dC (.int 0)) dNil)))) (dCons (fz (dOp fPow (dC (.int 10)) (dC (.int 30)))) dNil)))))))))))))))))
  (dSeqS
  (dIfS (dAndT (dB (fz (dBlt bIsi (dCons (dBVar 1) (dCons (dC (.ty "int")) dNil))))) (dNotT (dB (fz (dBlt bIsi (dCons (dBVar 1) (dCons (dC (.ty "bool")) dNil))))))) (dSet 3 (dOp fAdd (dBVar 3) (fz (dLst (dCons (fz (dOp fAdd (dBVar 1) (dC (.int 1)))) (dCons (fz (dOp fSub (dBVar 1) (dC (.int 1)))) (dCons (fz (dOp fAdd (dBVar 1) (dC (.int 1)))) (dCons (fz (dBlt bStr (dCons (dBVar 1) dNil))) dNil)))))))) dSkip)
  (dFrz 3 (dRet (dCall C 110 (dCons (dVar 0) (dCons (dVar 3) dNil))))))))))
def q__law_bent : FD := ⟨"_law_bent", 2, 6, b__law_bent⟩

def b__law_is_wood (C : Calls) : DS :=
  (dSeqS
  (dIfS (dOrT (dNotT (dB (fz (dBlt bIsi (dCons (dBVar 0) (dCons (dC (.ty "tuple")) dNil)))))) (dOrT (dB (fz (dOp fNe (fz (dBlt bLen (dCons (dBVar 0) dNil))) (dC (.int 2))))) (dOrT (dNotT (dB (fz (dCall C 71 (dCons (fz (dOp fIx (dBVar 0) (dC (.int 0)))) dNil))))) (dB (fz (dOp fLt (fz (dOp fIx (dBVar 0) (dC (.int 0)))) (dC (.int 1)))))))) (dRet (rv (dC (.bl false)))) dSkip)
  (dSeqS
  (dIfS (dOrT (dNotT (dB (fz (dBlt bIsi (dCons (fz (dOp fIx (dBVar 0) (dC (.int 1)))) (dCons (dC (.ty "tuple")) dNil)))))) (dB (fz (dOp fNe (fz (dBlt bLen (dCons (fz (dOp fIx (dBVar 0) (dC (.int 1)))) dNil))) (fz (dOp fSub (fz (dOp fIx (dBVar 0) (dC (.int 0)))) (dC (.int 1)))))))) (dRet (rv (dC (.bl false)))) dSkip)
  (dSeqS
  (dFor (dSeq (fz (dOp fIx (dBVar 0) (dC (.int 1))))) (.nm 1) (dSeqS
  (dIfS (dOrT (dNotT (dB (fz (dBlt bIsi (dCons (dBVar 1) (dCons (dC (.ty "tuple")) dNil)))))) (dOrT (dB (fz (dOp fNe (fz (dBlt bLen (dCons (dBVar 1) dNil))) (dC (.int 2))))) (dNotT (dB (fz (dBlt bAll (dCons (fz (dComp (dSeq (dBVar 1)) [9] (.nm 9) dYes (fz (dCall C 71 (dCons (dVar 9) dNil))))) dNil))))))) (dRet (rv (dC (.bl false)))) dSkip)
  (dIfS (dNotT (dB (dChain3 fLe fLt fLt (dC (.int 0)) (fz (dOp fIx (dBVar 1) (dC (.int 0)))) (fz (dOp fIx (dBVar 1) (dC (.int 1)))) (fz (dOp fIx (dBVar 0) (dC (.int 0))))))) (dRet (rv (dC (.bl false)))) dSkip)))
  (dSeqS
  (dIfS (dB (fz (dOp fNe (fz (dBlt bList (dCons (fz (dOp fIx (dBVar 0) (dC (.int 1)))) dNil))) (fz (dBlt bSorted (dCons (fz (dOp fIx (dBVar 0) (dC (.int 1)))) dNil)))))) (dRet (rv (dC (.bl false)))) dSkip)
  (dSeqS
  (dSet 2 (dComp (dRange1 (fz (dOp fIx (dBVar 0) (dC (.int 0))))) [7] (.nm 7) dYes (fz (dLst (dCons (dVar 7) dNil)))))
  (dSeqS
  (dFor (dSeq (fz (dOp fIx (dBVar 0) (dC (.int 1))))) (.tp [(.nm 3), (.nm 4)]) (dSeqS
  (dSet 5 (dOp fIx (fz (dComp (dSeq (dBVar 2)) [8] (.nm 8) (dB (fz (dOp fIn (dBVar 3) (dBVar 8)))) (dVar 8))) (dC (.int 0))))
  (dSeqS
  (dIfS (dB (fz (dOp fIn (dBVar 4) (dBVar 5)))) (dRet (rv (dC (.bl false)))) dSkip)
  (dSeqS
  (dSet 6 (dOp fIx (fz (dComp (dSeq (dBVar 2)) [8] (.nm 8) (dB (fz (dOp fIn (dBVar 4) (dBVar 8)))) (dVar 8))) (dC (.int 0))))
  (dSet 2 (dOp fAdd (fz (dComp (dSeq (dBVar 2)) [8] (.nm 8) (dAndT (dB (fz (dOp fNe (dBVar 8) (dBVar 5)))) (dB (fz (dOp fNe (dBVar 8) (dBVar 6))))) (dVar 8))) (fz (dLst (dCons (fz (dOp fAdd (dBVar 5) (dBVar 6))) dNil)))))))))
  (dRet (rv (dC (.bl true))))))))))
def q__law_is_wood : FD := ⟨"_law_is_wood", 1, 10, b__law_is_wood⟩

def b__law_right_k01 (C : Calls) : DS :=
  (dSeqS
  (dSet 1 (dCall C 274 (dCons (dVar 0) (dCons (fz (dOp fAdd (dC (.int 1)) (fz (dCall C 238 (dCons (dVar 0) (dCons (dC (.int 9)) dNil)))))) dNil))))
  (dSeqS
  (dUnp (.tp [(.nm 7), (.nm 8)]) (dVar 1))
  (dSeqS
  (dSet 2 (dComp (dRange1 (dVar 7)) [10] (.nm 10) (dB (fz (dOp fEq (fz (dBlt bLen (dCons (fz (dCall C 90 (dCons (dVar 8) (dCons (dVar 10) dNil)))) dNil))) (dC (.int 1))))) (dVar 10)))
  (dSeqS
  (dSh 3 (dCall C 384 (dCons (dVar 1) dNil)))
  (dSeqS
  (dFrz 2 (dIfS (dNotT (dB (dLend (fz (dCall C 213 (dCons (fz (dLst (dCons (dVar 3) (dCons (fz (dCall C 384 (dPerm [0] (dCons (fz (dCall C 87 (dCons (dVar 1) dNil))) dNil)))) dNil)))) (dCons (fz (dLst (dCons (dVar 2) (dCons (dVar 2) dNil)))) dNil))))))) (dRet (rv (dC (.bl false)))) dSkip))
  (dSeqS
  (dMut1 3 fApp (dC (.str "more")))
  (dSeqS
  (dSet 4 (dLst (dCons (dVar 1) (dCons (fz (dBlt bList (dCons (dBVar 1) dNil))) (dCons (fz (dCall C 87 (dCons (dVar 1) dNil))) (dCons (dVar 8) (dCons (dTup (dCons (fz (dOp fAdd (dBVar 7) (dC (.int 1)))) (dCons (dVar 8) dNil))) (dCons (dTup (dCons (dVar 7) (dCons (fz (dRev (dBVar 8))) dNil))) dNil))))))))
  (dSeqS
  (dSet 4 (dOp fAdd (dBVar 4) (fz (dLst (dCons (dTup (dCons (dVar 7) (dCons (fz (dSl (dBVar 8) (oSome (dC (.int 1))) oNone)) dNil))) (dCons (dTup dNil) (dCons (fz (dLst dNil)) (dCons (dC .non) dNil))))))))
  (dSeqS
  (dSet 4 (dOp fAdd (dBVar 4) (fz (dLst (dCons (dTup (dCons (dC (.int 1)) (dCons (dTup dNil) dNil))) (dCons (dTup (dCons (dC (.int 0)) (dCons (dTup dNil) dNil))) (dCons (dTup (dCons (dC (.int 1)) (dCons (fz (dLst dNil)) dNil))) (dCons (dTup (dCons (dC (.bl true)) (dCons (dTup dNil) dNil))) (dCons (dTup (dCons (dC (.int 2)) (dCons (dTup (dCons (dTup (dCons (dC (.int 0)) (dCons (dC (.int 1)) dNil))) dNil)) dNil))) (dCons (dTup (dCons (dC (.int 2)) (dCons (dTup (dCons (dTup (dCons (dC (.int 1)) (dCons (dC (.int 0)) dNil))) dNil)) dNil))) dNil))))))))))
  (dSeqS
  (dSet 4 (dOp fAdd (dBVar 4) (fz (dLst (dCons (dTup (dCons (dC (.int 2)) (dCons (dTup (dCons (dTup (dCons (dC (.bl false)) (dCons (dC (.bl true)) dNil))) dNil)) dNil))) (dCons (dC (.int 0)) (dCons (dC (.str "2 0-1")) dNil)))))))
  (dSeqS
  (dSet 4 (dOp fAdd (dBVar 4) (fz (dLst (dCons (dTup (dCons (dC (.int 3)) (dCons (dTup (dCons (dTup (dCons (dC (.int 0)) (dCons (dC (.int 1)) dNil))) (dCons (dTup (dCons (dC (.int 0)) (dCons (dC (.int 1)) dNil))) dNil))) dNil))) (dCons (dTup (dCons (dC (.int 3)) (dCons (dTup (dCons (dTup (dCons (dC (.int 0)) (dCons (dC (.int 1)) dNil))) (dCons (dTup (dCons (dC (.int 1)) (dCons (dC (.int 2)) dNil))) dNil))) dNil))) (dCons (dTup (dCons (dC (.int 4)) (dCons (dTup (dCons (dTup (dCons (dC (.int 0)) (dCons (dC (.int 1)) dNil))) (dCons (dTup (dCons (dC (.int 0)) (dCons (dC (.int 2)) dNil))) (dCons (dTup (dCons (dC (.int 1)) (dCons (dC (.int 2)) dNil))) dNil)))) dNil))) dNil)))))))
  (dSeqS
  (dSet 4 (dOp fAdd (dBVar 4) (fz (dLst (dCons (dTup (dCons (dC (.int 4)) (dCons (dTup (dCons (dTup (dCons (dC (.int 0)) (dCons (dC (.int 1)) dNil))) (dCons (dTup (dCons (dC (.int 0)) (dCons (dC (.int 1)) dNil))) (dCons (dTup (dCons (dC (.int 2)) (dCons (dC (.int 3)) dNil))) dNil)))) dNil))) dNil)))))
  (dSeqS
  (dSet 4 (dOp fAdd (dBVar 4) (fz (dLst (dCons (dTup (dCons (dC (.int 2)) (dCons (dTup (dCons (dTup (dCons (dC (.int 0)) (dCons (dC (.int 1)) dNil))) (dCons (dTup (dCons (dC (.int 0)) (dCons (dC (.int 1)) dNil))) dNil))) dNil))) (dCons (dTup (dCons (dC (.int 3)) (dCons (dTup (dCons (dTup (dCons (dC (.int 0)) (dCons (dC (.int 1)) dNil))) (dCons (dTup (dCons (dC (.int 2)) (dCons (dC (.int 2)) dNil))) dNil))) dNil))) (dCons (dTup (dCons (dC (.int 3)) (dCons (dTup (dCons (dTup (dCons (dC (.int 0)) (dCons (dC (.int 1)) dNil))) (dCons (dTup (dCons (dC (.int 1)) (dCons (dC (.int 3)) dNil))) dNil))) dNil))) (dCons (dTup (dCons (dC (.int 2)) (dCons (dTup (dCons (fz (dLst (dCons (dC (.int 0)) (dCons (dC (.int 1)) dNil)))) dNil)) dNil))) dNil))))))))
  (dSeqS
  (dSet 4 (dOp fAdd (dBVar 4) (fz (dLst (dCons (dTup (dCons (dC (.int 2)) (dCons (dTup (dCons (dTup (dCons (dC (.int 0)) (dCons (dC (.int 1)) (dCons (dC (.int 1)) dNil)))) dNil)) dNil))) dNil)))))
  (dSeqS
  (dSet 4 (dOp fAdd (dBVar 4) (fz (dLst (dCons (dTup (dCons (dC (.int 3)) (dCons (dTup (dCons (dTup (dCons (dC (.int 0)) (dCons (dC (.int 1)) dNil))) (dCons (dTup (dCons (dC (.int 0)) (dCons (dC (.int 2)) dNil))) (dCons (dTup (dCons (dC (.int 1)) (dCons (dC (.int 2)) dNil))) dNil)))) dNil))) (dCons (dTup (dCons (dC (.int 2)) (dCons (dTup (dCons (dTup (dCons (fz (dUn fNeg (dC (.int 1)))) (dCons (dC (.int 0)) dNil))) dNil)) dNil))) dNil))))))
  (dSeqS
  (dFor (dRange1 (dC (.int 14))) (.nm 5) (dSeqS
  (dSet 9 (dCall C 13 (dCons (dVar 0) (dCons (dVar 1) dNil))))
  (dFrz 9 (dMut1 4 fApp (dIf (dB (fz (dOp fEq (fz (dCall C 238 (dCons (dVar 0) (dCons (dC (.int 3)) dNil)))) (dC (.int 0))))) (fz (dCall C 13 (dCons (dVar 0) (dCons (dVar 9) dNil)))) (dVar 9))))))
  (dSeqS
  (dFrz 4 (dFor (dSeq (dVar 4)) (.nm 6) (dSeqS
  (dPar [11, 2] (rCons (dBlt bRepr (dCons (dBVar 6) dNil)) (rCons (dCall C 77 (dCons (dVar 6) dNil)) rNil)))
  (dFrz 2 (dIfS (dOrT (dNotT (dB (fz (dCall C 213 (dCons (fz (dLst (dCons (fz (dCall C 319 (dCons (dVar 6) dNil))) (dCons (fz (dCall C 319 (dPerm [0] (dCons (dVar 6) dNil)))) dNil)))) (dCons (fz (dLst (dCons (dVar 2) (dCons (dVar 2) dNil)))) dNil)))))) (dB (fz (dOp fNeS (fz (dBlt bRepr (dCons (dBVar 6) dNil))) (dBVar 11))))) (dRet (rv (dC (.bl false)))) dSkip)))))
  (dRet (rv (dLend (fz (dOp fEq (fz (dCall C 384 (dCons (dVar 1) dNil))) (fz (dSl (dBVar 3) oNone (oSome (fz (dUn fNeg (dC (.int 1)))))))))))))))))))))))))))))
def q__law_right_k01 : FD := ⟨"_law_right", 1, 12, b__law_right_k01⟩

def b_law_k01 (C : Calls) : DS :=
  (dSeqS
  (dFor (dRange1 (fz (dOp fAdd (dC (.int 1)) (fz (dBlt bMin2 (dCons (dC (.int 3)) (dCons (fz (dBlt bLen (dCons (dBVar 0) dNil))) dNil))))))) (.nm 1) (dSeqS
  (dSh 2 (dCall C 24 (dCons (dVar 0) (dCons (dVar 1) dNil))))
  (dIfS (dNotT (dB (fz (dBlt bAll (dCons (fz (dComp (dRange1 (dC (.int 3))) [3] (.nm 3) dYes (fz (dCall C 148 (dCons (dVar 2) dNil))))) dNil))))) (dRet (rv (dC (.bl false)))) dSkip)))
  (dRet (rv (dC (.bl true)))))
def q_law_k01 : FD := ⟨"law", 1, 4, b_law_k01⟩

def tbl : List (Nat × FD) := [(312, q_is_number),
  (316, q_is_road),
  (410, q_reached),
  (395, q_neighbours),
  (319, q_is_tree_b),
  (385, q_leaves_of),
  (384, q_leaves),
  (28, q__law_cell_at),
  (24, q__law_box),
  (238, q__law_take),
  (110, q__law_of),
  (213, q__law_same_v0),
  (230, q__law_strewn),
  (87, q__law_lists),
  (71, q__law_is_int),
  (90, q__law_mates),
  (274, q__law_wood_v0),
  (13, q__law_bent),
  (77, q__law_is_wood),
  (148, q__law_right_k01),
  (324, q_law_k01)]

def B : Tb := fun i => tbl.lookup i
abbrev T : Nat → Option (Str × Nat) := tabOf B
section
variable {P : Program} {w : World} {K : PySem.W.Frag} {mg : Str → Option Value} {base : Heap} {f : Addr} {cdv : Value} {A : Around} {outer : List Env} {s : Shared} {H : Hp} {E : XK} {n : Nat} {C : Calls}

def N_is_number : List Str := ["thing"]

theorem s_is_number : FnScope N_is_number ["thing"] (defScope (top 1)) := ⟨rfl, rfl, rfl, by decide +kernel, rfl, by decide +kernel, by decide +kernel⟩

theorem p_is_number (F : Fx P w K mg base (A.deeper (envOfC "is_number" (defScope (top 1)) s.heap.objs.size f cdv)) n T C) (m_bool : mg "bool" = none) (m_int : mg "int" = none) (m_isinstance : mg "isinstance" = none) : PSs (XF P w K mg base N_is_number "is_number" (defScope (top 1)) f cdv A outer s H E) (defBody (top 1)) (tS K E (b_is_number C)) := by
  have nd := s_is_number.nd
  have u3 := units_of F.room
  have u0 : (A.deeper (envOfC "is_number" (defScope (top 1)) s.heap.objs.size f cdv)).units + 1 < cLine := by omega
  have u1 : (A.deeper (envOfC "is_number" (defScope (top 1)) s.heap.objs.size f cdv)).units + 64 < cLine := by omega
  have u2 : (A.deeper (envOfC "is_number" (defScope (top 1)) s.heap.objs.size f cdv)).units + 65 < cLine := by omega
  exact (mss_one (ms_ret (pe_vr (me_and (pe_fz (me_callB mb_isi rfl m_isinstance PyProof.Rows.boot_isinstance (mb_cons (me_bvar 0) (mb_cons (pe_vb (me_ty rfl m_int PyProof.Rows.boot_int)) mb_nil)))) (me_one (me_not (pe_fz (me_callB mb_isi rfl m_isinstance PyProof.Rows.boot_isinstance (mb_cons (me_bvar 0) (mb_cons (pe_vb (me_ty rfl m_bool PyProof.Rows.boot_bool)) mb_nil))))))))))

def N_is_road : List Str := ["thing", "towns"]

theorem s_is_road : FnScope N_is_road ["thing", "towns"] (defScope (top 2)) := ⟨rfl, rfl, rfl, by decide +kernel, rfl, by decide +kernel, by decide +kernel⟩

theorem p_is_road (F : Fx P w K mg base (A.deeper (envOfC "is_road" (defScope (top 2)) s.heap.objs.size f cdv)) n T C) (m_isinstance : mg "isinstance" = none) (m_len : mg "len" = none) (m_tuple : mg "tuple" = none) : PSs (XF P w K mg base N_is_road "is_road" (defScope (top 2)) f cdv A outer s H E) (defBody (top 2)) (tS K E (b_is_road C)) := by
  have nd := s_is_road.nd
  have u3 := units_of F.room
  have u0 : (A.deeper (envOfC "is_road" (defScope (top 2)) s.heap.objs.size f cdv)).units + 1 < cLine := by omega
  have u1 : (A.deeper (envOfC "is_road" (defScope (top 2)) s.heap.objs.size f cdv)).units + 64 < cLine := by omega
  have u2 : (A.deeper (envOfC "is_road" (defScope (top 2)) s.heap.objs.size f cdv)).units + 65 < cLine := by omega
  exact (mss_cons
  (ms_if (PW.pt (mw_or (mt_not (mt_val (pe_fz (me_callB mb_isi rfl m_isinstance PyProof.Rows.boot_isinstance (mb_cons (me_bvar 0) (mb_cons (pe_vb (me_ty rfl m_tuple PyProof.Rows.boot_tuple)) mb_nil)))))) (mw_or (mt_cmp (mo_ne u1) (pe_vb (pe_fz (me_callB mb_len rfl m_len boot_len (mb_cons (me_bvar 0) mb_nil)))) (pe_vb me_int) rfl) (mw_or (mt_not (mt_val (pe_fz (me_call F 312 rfl rfl (ma_cons (pe_fz (me_ix (mo_ix u2) (me_bvar 0) (pe_vb me_int) (fun _ _ => rfl))) ma_nil))))) (mw_or1 (mt_not (mt_val (pe_fz (me_call F 312 rfl rfl (ma_cons (pe_fz (me_ix (mo_ix u2) (me_bvar 0) (pe_vb me_int) (fun _ _ => rfl))) ma_nil)))))))))) (mss_one (ms_ret (pe_vr me_bl))) mss_nil)
  (mss_one (ms_ret (pe_vr (me_chain3 (mo_le u3) (mo_lt u3) (mo_lt u3) (pe_vb me_int) (pe_vb (pe_fz (me_ix (mo_ix u2) (me_bvar 0) (pe_vb me_int) (fun _ _ => rfl)))) (pe_vb (pe_fz (me_ix (mo_ix u2) (me_bvar 0) (pe_vb me_int) (fun _ _ => rfl)))) (me_bvar 1))))))

def N_reached : List Str := ["towns", "roads", "found", "fresh", "town", "other"]

theorem s_reached : FnScope N_reached ["towns", "roads"] (defScope (top 3)) := ⟨rfl, rfl, rfl, by decide +kernel, rfl, by decide +kernel, by decide +kernel⟩

theorem p_reached (F : Fx P w K mg base (A.deeper (envOfC "reached" (defScope (top 3)) s.heap.objs.size f cdv)) n T C) (m_len : mg "len" = none) : PSs (XF P w K mg base N_reached "reached" (defScope (top 3)) f cdv A outer s H E) (defBody (top 3)) (tS K E (b_reached C)) := by
  have nd := s_reached.nd
  have u3 := units_of F.room
  have u0 : (A.deeper (envOfC "reached" (defScope (top 3)) s.heap.objs.size f cdv)).units + 1 < cLine := by omega
  have u1 : (A.deeper (envOfC "reached" (defScope (top 3)) s.heap.objs.size f cdv)).units + 64 < cLine := by omega
  have u2 : (A.deeper (envOfC "reached" (defScope (top 3)) s.heap.objs.size f cdv)).units + 65 < cLine := by omega
  exact (mss_cons
  (ms_par2 (i := 2) (j := 3) rfl nd rfl rfl (by decide) rfl rfl (mr_cons (me_lst (ma_cons me_int ma_nil)) (mr_cons (me_lst (ma_cons me_int ma_nil)) mr_nil)) rfl)
  (mss_cons
  (ms_while po_nox (mt_cmp (mo_gt u3) (pe_vb (pe_fz (me_callB mb_len rfl m_len boot_len (mb_cons (me_bvar 3) mb_nil)))) (pe_vb me_int) rfl) (mss_cons
  (ms_pop nd (i := 4) (j := 3) rfl (by first | exact Or.inl rfl | exact Or.inr rfl))
  (mss_one (ms_for po_nox rfl (mi_seq (pe_fz (me_call F 395 rfl rfl (ma_cons (me_var 1) (ma_cons (me_var 4) ma_nil))))) (mg_name nd (i := 5) rfl (by first | exact Or.inl rfl | exact Or.inr rfl)) (mss_one (ms_if (mt_cmp (mo_notIn u2) (me_bvar 5) (me_bvar 2) rfl) (mss_cons
  (ms_app 2 (me_var 5))
  (mss_one (ms_app 3 (me_var 5)))) mss_nil))))))
  (mss_one (ms_retMv 2))))

def N_neighbours : List Str := ["roads", "town", "x", "y"]

theorem s_neighbours : FnScope N_neighbours ["roads", "town"] (defScope (top 4)) := ⟨rfl, rfl, rfl, by decide +kernel, rfl, by decide +kernel, by decide +kernel⟩

theorem p_neighbours (F : Fx P w K mg base (A.deeper (envOfC "neighbours" (defScope (top 4)) s.heap.objs.size f cdv)) n T C) : PSs (XF P w K mg base N_neighbours "neighbours" (defScope (top 4)) f cdv A outer s H E) (defBody (top 4)) (tS K E (b_neighbours C)) := by
  have nd := s_neighbours.nd
  have u3 := units_of F.room
  have u0 : (A.deeper (envOfC "neighbours" (defScope (top 4)) s.heap.objs.size f cdv)).units + 1 < cLine := by omega
  have u1 : (A.deeper (envOfC "neighbours" (defScope (top 4)) s.heap.objs.size f cdv)).units + 64 < cLine := by omega
  have u2 : (A.deeper (envOfC "neighbours" (defScope (top 4)) s.heap.objs.size f cdv)).units + 65 < cLine := by omega
  exact (mss_one (ms_ret (me_comp (own := [("x", 2), ("y", 3)]) rfl nd (mi_seqB (me_bvar 0)) (blk_of (by kernel_rfl)) (fun _ _ _ _ _ => (mg_tup rfl (mgs_cons (mg_name nd (i := 2) rfl (by first | exact Or.inl rfl | exact Or.inr rfl)) (mgs_cons (mg_name nd (i := 3) rfl (by first | exact Or.inl rfl | exact Or.inr rfl)) mgs_nil)) rfl)) (fun _ _ _ _ _ => (mts_one (mt_cmp (mo_in u2) (me_bvar 1) (pe_vb (me_tup (ma_cons (me_var 2) (ma_cons (me_var 3) ma_nil)))) rfl))) (fun _ _ _ _ _ => (me_if (mt_cmp (mo_eq u1) (me_bvar 2) (me_bvar 1) rfl) (me_var 3) (me_var 2))) (by decide))))

def N_is_tree : List Str := ["thing", "road"]

theorem s_is_tree : FnScope N_is_tree ["thing"] (defScope (top 5)) := ⟨rfl, rfl, rfl, by decide +kernel, rfl, by decide +kernel, by decide +kernel⟩

theorem p_is_tree (F : Fx P w K mg base (A.deeper (envOfC "is_tree" (defScope (top 5)) s.heap.objs.size f cdv)) n T C) (m_all : mg "all" = none) (m_isinstance : mg "isinstance" = none) (m_len : mg "len" = none) (m_list : mg "list" = none) (m_set : mg "set" = none) (m_sorted : mg "sorted" = none) (m_tuple : mg "tuple" = none) : PSs (XF P w K mg base N_is_tree "is_tree" (defScope (top 5)) f cdv A outer s H E) (defBody (top 5)) (tS K E (b_is_tree_b C)) := by
  have nd := s_is_tree.nd
  have u3 := units_of F.room
  have u0 : (A.deeper (envOfC "is_tree" (defScope (top 5)) s.heap.objs.size f cdv)).units + 1 < cLine := by omega
  have u1 : (A.deeper (envOfC "is_tree" (defScope (top 5)) s.heap.objs.size f cdv)).units + 64 < cLine := by omega
  have u2 : (A.deeper (envOfC "is_tree" (defScope (top 5)) s.heap.objs.size f cdv)).units + 65 < cLine := by omega
  exact (mss_cons
  (ms_if (PW.pt (mw_or (mt_not (mt_val (pe_fz (me_callB mb_isi rfl m_isinstance PyProof.Rows.boot_isinstance (mb_cons (me_bvar 0) (mb_cons (pe_vb (me_ty rfl m_tuple PyProof.Rows.boot_tuple)) mb_nil)))))) (mw_or (mt_cmp (mo_ne u1) (pe_vb (pe_fz (me_callB mb_len rfl m_len boot_len (mb_cons (me_bvar 0) mb_nil)))) (pe_vb me_int) rfl) (mw_or (mt_not (mt_val (pe_fz (me_call F 312 rfl rfl (ma_cons (pe_fz (me_ix (mo_ix u2) (me_bvar 0) (pe_vb me_int) (fun _ _ => rfl))) ma_nil))))) (mw_or1 (mt_cmp (mo_lt u3) (pe_vb (pe_fz (me_ix (mo_ix u2) (me_bvar 0) (pe_vb me_int) (fun _ _ => rfl)))) (pe_vb me_int) rfl)))))) (mss_one (ms_ret (pe_vr me_bl))) mss_nil)
  (mss_cons
  (ms_if (PW.pt (mw_or (mt_not (mt_val (pe_fz (me_callB mb_isi rfl m_isinstance PyProof.Rows.boot_isinstance (mb_cons (pe_vb (pe_fz (me_ix (mo_ix u2) (me_bvar 0) (pe_vb me_int) (fun _ _ => rfl)))) (mb_cons (pe_vb (me_ty rfl m_tuple PyProof.Rows.boot_tuple)) mb_nil)))))) (mw_or1 (mt_not (mt_val (pe_fz (me_callB (mb_all rfl) rfl m_all PyProof.Rows.boot_all (mb_cons (pe_vb (pe_fz (me_comp (own := [("road", 1)]) rfl nd (mi_seqB (pe_vb (pe_fz (me_ix (mo_ix u2) (me_bvar 0) (pe_vb me_int) (fun _ _ => rfl))))) (blk_of (by kernel_rfl)) (fun _ _ _ _ _ => (mg_name nd (i := 1) rfl (by first | exact Or.inl rfl | exact Or.inr rfl))) (fun _ _ _ _ _ => mts_nil) (fun _ _ _ _ _ => (pe_fz (me_call F 316 rfl rfl (ma_cons (me_var 1) (ma_cons (pe_fz (me_ix (mo_ix u2) (me_bvar 0) (pe_vb me_int) (fun _ _ => rfl))) ma_nil))))) (by decide)))) mb_nil)))))))) (mss_one (ms_ret (pe_vr me_bl))) mss_nil)
  (mss_cons
  (ms_if (PW.pt (mw_or (mt_cmp (mo_ne u1) (pe_vb (pe_fz (me_callB mb_len rfl m_len boot_len (mb_cons (pe_vb (pe_fz (me_ix (mo_ix u2) (me_bvar 0) (pe_vb me_int) (fun _ _ => rfl)))) mb_nil)))) (pe_vb (pe_fz (me_op mo_sub (pe_vb (pe_fz (me_ix (mo_ix u2) (me_bvar 0) (pe_vb me_int) (fun _ _ => rfl)))) (pe_vb me_int)))) rfl) (mw_or1 (mt_cmp (mo_ne u1) (pe_vb (pe_fz (me_callTy mb_list rfl m_list PyProof.Rows.boot_list (mb_cons (pe_vb (pe_fz (me_ix (mo_ix u2) (me_bvar 0) (pe_vb me_int) (fun _ _ => rfl)))) mb_nil)))) (pe_vb (pe_fz (me_sortSetP rfl u3 rfl m_sorted rfl m_set (pe_vb (pe_fz (me_ix (mo_ix u2) (me_bvar 0) (pe_vb me_int) (fun _ _ => rfl))))))) rfl)))) (mss_one (ms_ret (pe_vr me_bl))) mss_nil)
  (mss_one (ms_ret (me_cmp (mo_eq u1) (pe_vb (pe_fz (me_callB mb_len rfl m_len boot_len (mb_cons (pe_vb (pe_fz (me_call F 410 rfl rfl (ma_cons (pe_fz (me_ix (mo_ix u2) (me_bvar 0) (pe_vb me_int) (fun _ _ => rfl))) (ma_cons (pe_fz (me_ix (mo_ix u2) (me_bvar 0) (pe_vb me_int) (fun _ _ => rfl))) ma_nil))))) mb_nil)))) (pe_vb (pe_fz (me_ix (mo_ix u2) (me_bvar 0) (pe_vb me_int) (fun _ _ => rfl)))) rfl))))))

def N_leaves_of : List Str := ["towns", "roads", "town"]

theorem s_leaves_of : FnScope N_leaves_of ["towns", "roads"] (defScope (top 6)) := ⟨rfl, rfl, rfl, by decide +kernel, rfl, by decide +kernel, by decide +kernel⟩

theorem p_leaves_of (F : Fx P w K mg base (A.deeper (envOfC "leaves_of" (defScope (top 6)) s.heap.objs.size f cdv)) n T C) (m_len : mg "len" = none) (m_range : mg "range" = none) : PSs (XF P w K mg base N_leaves_of "leaves_of" (defScope (top 6)) f cdv A outer s H E) (defBody (top 6)) (tS K E (b_leaves_of C)) := by
  have nd := s_leaves_of.nd
  have u3 := units_of F.room
  have u0 : (A.deeper (envOfC "leaves_of" (defScope (top 6)) s.heap.objs.size f cdv)).units + 1 < cLine := by omega
  have u1 : (A.deeper (envOfC "leaves_of" (defScope (top 6)) s.heap.objs.size f cdv)).units + 64 < cLine := by omega
  have u2 : (A.deeper (envOfC "leaves_of" (defScope (top 6)) s.heap.objs.size f cdv)).units + 65 < cLine := by omega
  exact (mss_one (ms_ret (me_comp (own := [("town", 2)]) rfl nd (pi_fb (mi_range1 rfl m_range (me_var 0))) (blk_of (by kernel_rfl)) (fun _ _ _ _ _ => (mg_name nd (i := 2) rfl (by first | exact Or.inl rfl | exact Or.inr rfl))) (fun _ _ _ _ _ => (mts_one (mt_cmp (mo_eq u1) (pe_vb (pe_fz (me_callB mb_len rfl m_len boot_len (mb_cons (pe_vb (pe_fz (me_call F 395 rfl rfl (ma_cons (me_var 1) (ma_cons (me_var 2) ma_nil))))) mb_nil)))) (pe_vb me_int) rfl))) (fun _ _ _ _ _ => (me_var 2)) (by decide))))

def N_leaves : List Str := ["tree"]

theorem s_leaves : FnScope N_leaves ["tree"] (defScope (top 7)) := ⟨rfl, rfl, rfl, by decide +kernel, rfl, by decide +kernel, by decide +kernel⟩

theorem p_leaves (F : Fx P w K mg base (A.deeper (envOfC "leaves" (defScope (top 7)) s.heap.objs.size f cdv)) n T C) : PSs (XF P w K mg base N_leaves "leaves" (defScope (top 7)) f cdv A outer s H E) (defBody (top 7)) (tS K E (b_leaves C)) := by
  have nd := s_leaves.nd
  have u3 := units_of F.room
  have u0 : (A.deeper (envOfC "leaves" (defScope (top 7)) s.heap.objs.size f cdv)).units + 1 < cLine := by omega
  have u1 : (A.deeper (envOfC "leaves" (defScope (top 7)) s.heap.objs.size f cdv)).units + 64 < cLine := by omega
  have u2 : (A.deeper (envOfC "leaves" (defScope (top 7)) s.heap.objs.size f cdv)).units + 65 < cLine := by omega
  exact (mss_one (ms_ret (me_call F 385 rfl rfl (ma_cons (pe_fz (me_ix (mo_ix u2) (me_bvar 0) (pe_vb me_int) (fun _ _ => rfl))) (ma_cons (pe_fz (me_ix (mo_ix u2) (me_bvar 0) (pe_vb me_int) (fun _ _ => rfl))) ma_nil)))))

def N__law_cell_at : List Str := ["_law_script", "_law_k"]

theorem s__law_cell_at : FnScope N__law_cell_at ["_law_script", "_law_k"] (defScope (top 9)) := ⟨rfl, rfl, rfl, by decide +kernel, rfl, by decide +kernel, by decide +kernel⟩

theorem p__law_cell_at (F : Fx P w K mg base (A.deeper (envOfC "_law_cell_at" (defScope (top 9)) s.heap.objs.size f cdv)) n T C) (m_len : mg "len" = none) : PSs (XF P w K mg base N__law_cell_at "_law_cell_at" (defScope (top 9)) f cdv A outer s H E) (defBody (top 9)) (tS K E (b__law_cell_at C)) := by
  have nd := s__law_cell_at.nd
  have u3 := units_of F.room
  have u0 : (A.deeper (envOfC "_law_cell_at" (defScope (top 9)) s.heap.objs.size f cdv)).units + 1 < cLine := by omega
  have u1 : (A.deeper (envOfC "_law_cell_at" (defScope (top 9)) s.heap.objs.size f cdv)).units + 64 < cLine := by omega
  have u2 : (A.deeper (envOfC "_law_cell_at" (defScope (top 9)) s.heap.objs.size f cdv)).units + 65 < cLine := by omega
  exact (mss_cons
  (ms_if (mt_cmp (mo_lt u3) (me_bvar 1) (pe_vb (pe_fz (me_callB mb_len rfl m_len boot_len (mb_cons (me_bvar 0) mb_nil)))) rfl) (mss_one (ms_ret (me_ix (mo_ix u2) (me_bvar 0) (me_bvar 1) (fun _ _ => rfl)))) mss_nil)
  (mss_one (ms_ret (pe_vr me_int))))

def N__law_box : List Str := ["_law_script", "_law_k", "_law_core"]

theorem s__law_box : FnScope N__law_box ["_law_script", "_law_k"] (defScope (top 10)) := ⟨rfl, rfl, rfl, by decide +kernel, rfl, by decide +kernel, by decide +kernel⟩

theorem p__law_box (F : Fx P w K mg base (A.deeper (envOfC "_law_box" (defScope (top 10)) s.heap.objs.size f cdv)) n T C) (m_abs : mg "abs" = none) (m_int : mg "int" = none) : PSs (XF P w K mg base N__law_box "_law_box" (defScope (top 10)) f cdv A outer s H E) (defBody (top 10)) (tS K E (b__law_box C)) := by
  have nd := s__law_box.nd
  have u3 := units_of F.room
  have u0 : (A.deeper (envOfC "_law_box" (defScope (top 10)) s.heap.objs.size f cdv)).units + 1 < cLine := by omega
  have u1 : (A.deeper (envOfC "_law_box" (defScope (top 10)) s.heap.objs.size f cdv)).units + 64 < cLine := by omega
  have u2 : (A.deeper (envOfC "_law_box" (defScope (top 10)) s.heap.objs.size f cdv)).units + 65 < cLine := by omega
  exact (mss_cons
  (ms_set nd (i := 2) rfl (by first | exact Or.inl rfl | exact Or.inr rfl) (me_call F 28 rfl rfl (ma_cons (me_var 0) (ma_cons (me_var 1) ma_nil))))
  (mss_one (ms_ret (me_lst (ma_cons (pe_fz (me_op mo_mul (pe_vb (pe_fz (me_callB mb_abs rfl m_abs PyProof.Rows.boot_abs (mb_cons (me_bvar 2) mb_nil)))) (pe_vb (pe_fz (me_callTy mb_int rfl m_int PyProof.Rows.boot_int (mb_cons (pe_vb (pe_fz (me_cmp (mo_ge u3) (pe_vb (pe_fz (me_callB mb_abs rfl m_abs PyProof.Rows.boot_abs (mb_cons (me_bvar 2) mb_nil)))) (pe_vb (pe_fz (me_op mo_pow (pe_vb me_int) (pe_vb me_int)))) rfl))) mb_nil)))))) (ma_cons (pe_fz (me_op mo_add (pe_vb (pe_fz (me_op mo_add (pe_vb (pe_fz (me_op mo_mod (me_bvar 2) (pe_vb me_int)))) (pe_vb (pe_fz (me_op mo_mul (pe_vb me_int) (me_bvar 1))))))) (pe_vb me_int))) (ma_cons me_int ma_nil)))))))

def N__law_take : List Str := ["_law_box_here", "_law_below", "_law_once", "_law_twice", "_law_found"]

theorem s__law_take : FnScope N__law_take ["_law_box_here", "_law_below"] (defScope (top 11)) := ⟨rfl, rfl, rfl, by decide +kernel, rfl, by decide +kernel, by decide +kernel⟩

theorem p__law_take (F : Fx P w K mg base (A.deeper (envOfC "_law_take" (defScope (top 11)) s.heap.objs.size f cdv)) n T C) : PSs (XF P w K mg base N__law_take "_law_take" (defScope (top 11)) f cdv A outer s H E) (defBody (top 11)) (tS K E (b__law_take C)) := by
  have nd := s__law_take.nd
  have u3 := units_of F.room
  have u0 : (A.deeper (envOfC "_law_take" (defScope (top 11)) s.heap.objs.size f cdv)).units + 1 < cLine := by omega
  have u1 : (A.deeper (envOfC "_law_take" (defScope (top 11)) s.heap.objs.size f cdv)).units + 64 < cLine := by omega
  have u2 : (A.deeper (envOfC "_law_take" (defScope (top 11)) s.heap.objs.size f cdv)).units + 65 < cLine := by omega
  exact (mss_cons
  (ms_if (mt_cmp (mo_gt u3) (pe_vb (pe_fz (me_ix (mo_ix u2) (me_bvar 0) (pe_vb me_int) (fun _ _ => rfl)))) (pe_vb me_int) rfl) (mss_cons
  (ms_set nd (i := 4) rfl (by first | exact Or.inl rfl | exact Or.inr rfl) (me_op mo_mod (pe_vb (pe_fz (me_ix (mo_ix u2) (me_bvar 0) (pe_vb me_int) (fun _ _ => rfl)))) (me_bvar 1)))
  (mss_cons
  (ms_putL 0 (pe_fz (me_op mo_div (pe_vb (pe_fz (me_ix (mo_ix u2) (me_bvar 0) (pe_vb me_int) (fun _ _ => rfl)))) (me_bvar 1))) me_int)
  (mss_one (ms_retMv 4)))) mss_nil)
  (mss_cons
  (ms_if (mt_cmp (mo_gt u3) (me_bvar 1) (pe_vb (pe_fz (me_op mo_pow (pe_vb me_int) (pe_vb me_int)))) rfl) (mss_one (ms_ret (me_op mo_mod (pe_vb (pe_fz (me_op mo_add (pe_vb (pe_fz (me_call F 238 rfl rfl (ma_cons (me_var 0) (ma_cons (pe_fz (me_op mo_pow (pe_vb me_int) (pe_vb me_int))) ma_nil))))) (pe_vb (pe_fz (me_op mo_mul (pe_vb (pe_fz (me_op mo_pow (pe_vb me_int) (pe_vb me_int)))) (pe_vb (pe_fz (me_call F 238 rfl rfl (ma_cons (me_var 0) (ma_cons (pe_fz (me_op mo_add (pe_vb (pe_fz (me_op mo_div (me_bvar 1) (pe_vb (pe_fz (me_op mo_pow (pe_vb me_int) (pe_vb me_int))))))) (pe_vb me_int))) ma_nil))))))))))) (me_bvar 1)))) mss_nil)
  (mss_cons
  (ms_putL 0 (pe_fz (me_op mo_add (pe_vb (pe_fz (me_ix (mo_ix u2) (me_bvar 0) (pe_vb me_int) (fun _ _ => rfl)))) (pe_vb me_int))) me_int)
  (mss_cons
  (ms_set nd (i := 2) rfl (by first | exact Or.inl rfl | exact Or.inr rfl) (me_op mo_mod (pe_vb (pe_fz (me_op mo_mul (pe_vb (pe_fz (me_op mo_add (pe_vb (pe_fz (me_ix (mo_ix u2) (me_bvar 0) (pe_vb me_int) (fun _ _ => rfl)))) (pe_vb (pe_fz (me_op mo_mul (pe_vb me_int) (pe_vb (pe_fz (me_ix (mo_ix u2) (me_bvar 0) (pe_vb me_int) (fun _ _ => rfl)))))))))) (pe_vb (pe_fz (me_op mo_add (pe_vb me_int) (pe_vb (pe_fz (me_ix (mo_ix u2) (me_bvar 0) (pe_vb me_int) (fun _ _ => rfl)))))))))) (pe_vb me_int)))
  (mss_cons
  (ms_set nd (i := 3) rfl (by first | exact Or.inl rfl | exact Or.inr rfl) (me_op mo_mod (pe_vb (pe_fz (me_op mo_mul (pe_vb (pe_fz (me_op mo_add (pe_vb (pe_fz (me_op mo_add (me_bvar 2) (pe_vb (pe_fz (me_ix (mo_ix u2) (me_bvar 0) (pe_vb me_int) (fun _ _ => rfl))))))) (pe_vb (pe_fz (me_op mo_div (pe_vb (pe_fz (me_ix (mo_ix u2) (me_bvar 0) (pe_vb me_int) (fun _ _ => rfl)))) (pe_vb me_int))))))) (pe_vb (pe_fz (me_op mo_add (pe_vb (pe_fz (me_op mo_mod (me_bvar 2) (pe_vb me_int)))) (pe_vb me_int))))))) (pe_vb me_int)))
  (mss_one (ms_ret (me_op mo_mod (pe_vb (pe_fz (me_op mo_div (pe_vb (pe_fz (me_op mo_mod (pe_vb (pe_fz (me_op mo_add (pe_vb (pe_fz (me_op mo_mul (me_bvar 3) (pe_vb me_int)))) (me_bvar 2)))) (pe_vb me_int)))) (pe_vb me_int)))) (me_bvar 1)))))))))

def N__law_of : List Str := ["_law_box_here", "_law_some"]

theorem s__law_of : FnScope N__law_of ["_law_box_here", "_law_some"] (defScope (top 12)) := ⟨rfl, rfl, rfl, by decide +kernel, rfl, by decide +kernel, by decide +kernel⟩

theorem p__law_of (F : Fx P w K mg base (A.deeper (envOfC "_law_of" (defScope (top 12)) s.heap.objs.size f cdv)) n T C) (m_len : mg "len" = none) : PSs (XF P w K mg base N__law_of "_law_of" (defScope (top 12)) f cdv A outer s H E) (defBody (top 12)) (tS K E (b__law_of C)) := by
  have nd := s__law_of.nd
  have u3 := units_of F.room
  have u0 : (A.deeper (envOfC "_law_of" (defScope (top 12)) s.heap.objs.size f cdv)).units + 1 < cLine := by omega
  have u1 : (A.deeper (envOfC "_law_of" (defScope (top 12)) s.heap.objs.size f cdv)).units + 64 < cLine := by omega
  have u2 : (A.deeper (envOfC "_law_of" (defScope (top 12)) s.heap.objs.size f cdv)).units + 65 < cLine := by omega
  exact (mss_one (ms_ret (me_ix (mo_ix u2) (me_bvar 1) (pe_vb (pe_fz (me_call F 238 rfl rfl (ma_cons (me_var 0) (ma_cons (pe_fz (me_callB mb_len rfl m_len boot_len (mb_cons (me_bvar 1) mb_nil))) ma_nil))))) (fun _ _ => rfl))))

def N__law_same : List Str := ["_law_found", "_law_due", "_law_a", "_law_b"]

theorem s__law_same : FnScope N__law_same ["_law_found", "_law_due"] (defScope (top 13)) := ⟨rfl, rfl, rfl, by decide +kernel, rfl, by decide +kernel, by decide +kernel⟩

theorem p__law_same (F : Fx P w K mg base (A.deeper (envOfC "_law_same" (defScope (top 13)) s.heap.objs.size f cdv)) n T C) (m_all : mg "all" = none) (m_bool : mg "bool" = none) (m_int : mg "int" = none) (m_isinstance : mg "isinstance" = none) (m_len : mg "len" = none) (m_list : mg "list" = none) (m_str : mg "str" = none) (m_tuple : mg "tuple" = none) (m_zip : mg "zip" = none) : PSs (XF P w K mg base N__law_same "_law_same" (defScope (top 13)) f cdv A outer s H E) (defBody (top 13)) (tS K E (b__law_same_v0 C)) := by
  have nd := s__law_same.nd
  have u3 := units_of F.room
  have u0 : (A.deeper (envOfC "_law_same" (defScope (top 13)) s.heap.objs.size f cdv)).units + 1 < cLine := by omega
  have u1 : (A.deeper (envOfC "_law_same" (defScope (top 13)) s.heap.objs.size f cdv)).units + 64 < cLine := by omega
  have u2 : (A.deeper (envOfC "_law_same" (defScope (top 13)) s.heap.objs.size f cdv)).units + 65 < cLine := by omega
  exact (mss_cons
  (ms_if (mt_val (pe_fz (me_callB mb_isi rfl m_isinstance PyProof.Rows.boot_isinstance (mb_cons (me_bvar 1) (mb_cons (pe_vb (me_tup (ma_cons (me_ty rfl m_list PyProof.Rows.boot_list) (ma_cons (me_ty rfl m_tuple PyProof.Rows.boot_tuple) ma_nil)))) mb_nil))))) (mss_cons
  (ms_if (PW.pt (mw_or (mt_cmp (mo_ne u1) (pe_vb (pe_fz (me_callB mb_isi rfl m_isinstance PyProof.Rows.boot_isinstance (mb_cons (me_bvar 0) (mb_cons (pe_vb (me_ty rfl m_list PyProof.Rows.boot_list)) mb_nil))))) (pe_vb (pe_fz (me_callB mb_isi rfl m_isinstance PyProof.Rows.boot_isinstance (mb_cons (me_bvar 1) (mb_cons (pe_vb (me_ty rfl m_list PyProof.Rows.boot_list)) mb_nil))))) rfl) (mw_or1 (mt_cmp (mo_ne u1) (pe_vb (pe_fz (me_callB mb_isi rfl m_isinstance PyProof.Rows.boot_isinstance (mb_cons (me_bvar 0) (mb_cons (pe_vb (me_ty rfl m_tuple PyProof.Rows.boot_tuple)) mb_nil))))) (pe_vb (pe_fz (me_callB mb_isi rfl m_isinstance PyProof.Rows.boot_isinstance (mb_cons (me_bvar 1) (mb_cons (pe_vb (me_ty rfl m_tuple PyProof.Rows.boot_tuple)) mb_nil))))) rfl)))) (mss_one (ms_ret (pe_vr me_bl))) mss_nil)
  (mss_one (ms_ret (pe_vr (me_and (pe_fz (me_cmp (mo_eq u1) (pe_vb (pe_fz (me_callB mb_len rfl m_len boot_len (mb_cons (me_bvar 0) mb_nil)))) (pe_vb (pe_fz (me_callB mb_len rfl m_len boot_len (mb_cons (me_bvar 1) mb_nil)))) rfl)) (me_one (pe_fz (me_callB (mb_all rfl) rfl m_all PyProof.Rows.boot_all (mb_cons (pe_vb (pe_fz (me_comp (own := [("_law_a", 2), ("_law_b", 3)]) rfl nd (pi_fb (mi_zip rfl m_zip (me_var 0) (me_var 1))) (blk_of (by kernel_rfl)) (fun _ _ _ _ _ => (mg_tup rfl (mgs_cons (mg_name nd (i := 2) rfl (by first | exact Or.inl rfl | exact Or.inr rfl)) (mgs_cons (mg_name nd (i := 3) rfl (by first | exact Or.inl rfl | exact Or.inr rfl)) mgs_nil)) rfl)) (fun _ _ _ _ _ => mts_nil) (fun _ _ _ _ _ => (pe_fz (me_call F 213 rfl rfl (ma_cons (me_var 2) (ma_cons (me_var 3) ma_nil))))) (by decide)))) mb_nil))))))))) mss_nil)
  (mss_cons
  (ms_if (PW.pt (mw_or (mt_cmp mo_isN (me_bvar 1) (pe_vb me_non) rfl) (mw_or1 (mt_val (pe_fz (me_callB mb_isi rfl m_isinstance PyProof.Rows.boot_isinstance (mb_cons (me_bvar 1) (mb_cons (pe_vb (me_tup (ma_cons (me_ty rfl m_bool PyProof.Rows.boot_bool) (ma_cons (me_ty rfl m_str PyProof.Rows.boot_str) ma_nil)))) mb_nil)))))))) (mss_one (ms_ret (pe_vr (me_and (pe_fz (me_cmp (mo_eq u1) (me_bvar 0) (me_bvar 1) rfl)) (me_and (pe_fz (me_cmp (mo_eq u1) (pe_vb (pe_fz (me_callB mb_isi rfl m_isinstance PyProof.Rows.boot_isinstance (mb_cons (me_bvar 0) (mb_cons (pe_vb (me_ty rfl m_bool PyProof.Rows.boot_bool)) mb_nil))))) (pe_vb (pe_fz (me_callB mb_isi rfl m_isinstance PyProof.Rows.boot_isinstance (mb_cons (me_bvar 1) (mb_cons (pe_vb (me_ty rfl m_bool PyProof.Rows.boot_bool)) mb_nil))))) rfl)) (me_one (pe_fz (me_cmp (mo_eq u1) (pe_vb (pe_fz (me_cmp mo_isN (me_bvar 0) (pe_vb me_non) rfl))) (pe_vb (pe_fz (me_cmp mo_isN (me_bvar 1) (pe_vb me_non) rfl))) rfl)))))))) mss_nil)
  (mss_one (ms_ret (pe_vr (me_and (pe_fz (me_callB mb_isi rfl m_isinstance PyProof.Rows.boot_isinstance (mb_cons (me_bvar 0) (mb_cons (pe_vb (me_ty rfl m_int PyProof.Rows.boot_int)) mb_nil)))) (me_and (me_not (pe_fz (me_callB mb_isi rfl m_isinstance PyProof.Rows.boot_isinstance (mb_cons (me_bvar 0) (mb_cons (pe_vb (me_ty rfl m_bool PyProof.Rows.boot_bool)) mb_nil))))) (me_one (pe_fz (me_cmp (mo_eq u1) (me_bvar 0) (me_bvar 1) rfl))))))))))

def N__law_strewn : List Str := ["_law_box_here", "_law_some", "_law_left", "_law_found"]

theorem s__law_strewn : FnScope N__law_strewn ["_law_box_here", "_law_some"] (defScope (top 14)) := ⟨rfl, rfl, rfl, by decide +kernel, rfl, by decide +kernel, by decide +kernel⟩

theorem p__law_strewn (F : Fx P w K mg base (A.deeper (envOfC "_law_strewn" (defScope (top 14)) s.heap.objs.size f cdv)) n T C) (m_len : mg "len" = none) (m_list : mg "list" = none) : PSs (XF P w K mg base N__law_strewn "_law_strewn" (defScope (top 14)) f cdv A outer s H E) (defBody (top 14)) (tS K E (b__law_strewn C)) := by
  have nd := s__law_strewn.nd
  have u3 := units_of F.room
  have u0 : (A.deeper (envOfC "_law_strewn" (defScope (top 14)) s.heap.objs.size f cdv)).units + 1 < cLine := by omega
  have u1 : (A.deeper (envOfC "_law_strewn" (defScope (top 14)) s.heap.objs.size f cdv)).units + 64 < cLine := by omega
  have u2 : (A.deeper (envOfC "_law_strewn" (defScope (top 14)) s.heap.objs.size f cdv)).units + 65 < cLine := by omega
  exact (mss_cons
  (ms_par2 (i := 2) (j := 3) rfl nd rfl rfl (by decide) rfl rfl (mr_cons (me_callTy mb_list rfl m_list PyProof.Rows.boot_list (mb_cons (me_bvar 1) mb_nil)) (mr_cons (me_lst ma_nil) mr_nil)) rfl)
  (mss_cons
  (ms_while po_nox (mt_cmp (mo_ne u1) (me_bvar 2) (pe_vb (pe_fz (me_lst ma_nil))) rfl) (mss_one (ms_appPop 3 2 (pe_fz (me_call F 238 rfl rfl (ma_cons (me_var 0) (ma_cons (pe_fz (me_callB mb_len rfl m_len boot_len (mb_cons (me_bvar 2) mb_nil))) ma_nil)))))))
  (mss_one (ms_retMv 3))))

def N__law_lists : List Str := ["_law_part", "_law_piece"]

theorem s__law_lists : FnScope N__law_lists ["_law_part"] (defScope (top 15)) := ⟨rfl, rfl, rfl, by decide +kernel, rfl, by decide +kernel, by decide +kernel⟩

theorem p__law_lists (F : Fx P w K mg base (A.deeper (envOfC "_law_lists" (defScope (top 15)) s.heap.objs.size f cdv)) n T C) (m_isinstance : mg "isinstance" = none) (m_list : mg "list" = none) (m_tuple : mg "tuple" = none) : PSs (XF P w K mg base N__law_lists "_law_lists" (defScope (top 15)) f cdv A outer s H E) (defBody (top 15)) (tS K E (b__law_lists C)) := by
  have nd := s__law_lists.nd
  have u3 := units_of F.room
  have u0 : (A.deeper (envOfC "_law_lists" (defScope (top 15)) s.heap.objs.size f cdv)).units + 1 < cLine := by omega
  have u1 : (A.deeper (envOfC "_law_lists" (defScope (top 15)) s.heap.objs.size f cdv)).units + 64 < cLine := by omega
  have u2 : (A.deeper (envOfC "_law_lists" (defScope (top 15)) s.heap.objs.size f cdv)).units + 65 < cLine := by omega
  exact (mss_one (ms_ret (me_ifR (mt_val (pe_fz (me_callB mb_isi rfl m_isinstance PyProof.Rows.boot_isinstance (mb_cons (me_bvar 0) (mb_cons (pe_vb (me_tup (ma_cons (me_ty rfl m_list PyProof.Rows.boot_list) (ma_cons (me_ty rfl m_tuple PyProof.Rows.boot_tuple) ma_nil)))) mb_nil))))) (me_comp (own := [("_law_piece", 1)]) rfl nd (mi_seqB (me_bvar 0)) (blk_of (by kernel_rfl)) (fun _ _ _ _ _ => (mg_name nd (i := 1) rfl (by first | exact Or.inl rfl | exact Or.inr rfl))) (fun _ _ _ _ _ => mts_nil) (fun _ _ _ _ _ => (pe_fz (me_call F 87 rfl rfl (ma_cons (me_var 1) ma_nil)))) (by decide)) (pe_vr (me_var 0)))))

def N__law_is_int : List Str := ["_law_matter"]

theorem s__law_is_int : FnScope N__law_is_int ["_law_matter"] (defScope (top 16)) := ⟨rfl, rfl, rfl, by decide +kernel, rfl, by decide +kernel, by decide +kernel⟩

theorem p__law_is_int (F : Fx P w K mg base (A.deeper (envOfC "_law_is_int" (defScope (top 16)) s.heap.objs.size f cdv)) n T C) (m_bool : mg "bool" = none) (m_int : mg "int" = none) (m_isinstance : mg "isinstance" = none) : PSs (XF P w K mg base N__law_is_int "_law_is_int" (defScope (top 16)) f cdv A outer s H E) (defBody (top 16)) (tS K E (b__law_is_int C)) := by
  have nd := s__law_is_int.nd
  have u3 := units_of F.room
  have u0 : (A.deeper (envOfC "_law_is_int" (defScope (top 16)) s.heap.objs.size f cdv)).units + 1 < cLine := by omega
  have u1 : (A.deeper (envOfC "_law_is_int" (defScope (top 16)) s.heap.objs.size f cdv)).units + 64 < cLine := by omega
  have u2 : (A.deeper (envOfC "_law_is_int" (defScope (top 16)) s.heap.objs.size f cdv)).units + 65 < cLine := by omega
  exact (mss_one (ms_ret (pe_vr (me_and (pe_fz (me_callB mb_isi rfl m_isinstance PyProof.Rows.boot_isinstance (mb_cons (me_bvar 0) (mb_cons (pe_vb (me_ty rfl m_int PyProof.Rows.boot_int)) mb_nil)))) (me_one (me_not (pe_fz (me_callB mb_isi rfl m_isinstance PyProof.Rows.boot_isinstance (mb_cons (me_bvar 0) (mb_cons (pe_vb (me_ty rfl m_bool PyProof.Rows.boot_bool)) mb_nil))))))))))

def N__law_mates : List Str := ["_law_links", "_law_piece", "_law_a", "_law_b"]

theorem s__law_mates : FnScope N__law_mates ["_law_links", "_law_piece"] (defScope (top 17)) := ⟨rfl, rfl, rfl, by decide +kernel, rfl, by decide +kernel, by decide +kernel⟩

theorem p__law_mates (F : Fx P w K mg base (A.deeper (envOfC "_law_mates" (defScope (top 17)) s.heap.objs.size f cdv)) n T C) : PSs (XF P w K mg base N__law_mates "_law_mates" (defScope (top 17)) f cdv A outer s H E) (defBody (top 17)) (tS K E (b__law_mates C)) := by
  have nd := s__law_mates.nd
  have u3 := units_of F.room
  have u0 : (A.deeper (envOfC "_law_mates" (defScope (top 17)) s.heap.objs.size f cdv)).units + 1 < cLine := by omega
  have u1 : (A.deeper (envOfC "_law_mates" (defScope (top 17)) s.heap.objs.size f cdv)).units + 64 < cLine := by omega
  have u2 : (A.deeper (envOfC "_law_mates" (defScope (top 17)) s.heap.objs.size f cdv)).units + 65 < cLine := by omega
  exact (mss_one (ms_ret (me_comp (own := [("_law_a", 2), ("_law_b", 3)]) rfl nd (mi_seqB (me_bvar 0)) (blk_of (by kernel_rfl)) (fun _ _ _ _ _ => (mg_tup rfl (mgs_cons (mg_name nd (i := 2) rfl (by first | exact Or.inl rfl | exact Or.inr rfl)) (mgs_cons (mg_name nd (i := 3) rfl (by first | exact Or.inl rfl | exact Or.inr rfl)) mgs_nil)) rfl)) (fun _ _ _ _ _ => (mts_one (mt_cmp (mo_in u2) (me_bvar 1) (pe_vb (me_tup (ma_cons (me_var 2) (ma_cons (me_var 3) ma_nil)))) rfl))) (fun _ _ _ _ _ => (me_if (mt_cmp (mo_eq u1) (me_bvar 2) (me_bvar 1) rfl) (me_var 3) (me_var 2))) (by decide))))

def N__law_wood : List Str := ["_law_box_here", "_law_count", "_law_piece", "_law_tags", "_law_links", "_law_near", "_law_back"]

theorem s__law_wood : FnScope N__law_wood ["_law_box_here", "_law_count"] (defScope (top 18)) := ⟨rfl, rfl, rfl, by decide +kernel, rfl, by decide +kernel, by decide +kernel⟩

theorem p__law_wood (F : Fx P w K mg base (A.deeper (envOfC "_law_wood" (defScope (top 18)) s.heap.objs.size f cdv)) n T C) (m_list : mg "list" = none) (m_max : mg "max" = none) (m_range : mg "range" = none) (m_sorted : mg "sorted" = none) (m_tuple : mg "tuple" = none) : PSs (XF P w K mg base N__law_wood "_law_wood" (defScope (top 18)) f cdv A outer s H E) (defBody (top 18)) (tS K E (b__law_wood_v0 C)) := by
  have nd := s__law_wood.nd
  have u3 := units_of F.room
  have u0 : (A.deeper (envOfC "_law_wood" (defScope (top 18)) s.heap.objs.size f cdv)).units + 1 < cLine := by omega
  have u1 : (A.deeper (envOfC "_law_wood" (defScope (top 18)) s.heap.objs.size f cdv)).units + 64 < cLine := by omega
  have u2 : (A.deeper (envOfC "_law_wood" (defScope (top 18)) s.heap.objs.size f cdv)).units + 65 < cLine := by omega
  exact (mss_cons
  (ms_par3 (i := 3) (j := 4) (l := 5) rfl nd rfl rfl rfl (by decide) (by decide) (by decide) rfl rfl rfl (mr_cons (me_call F 230 rfl rfl (ma_cons (me_var 0) (ma_cons (pe_fz (me_listRg1 rfl rfl m_list rfl m_range (me_var 1))) ma_nil))) (mr_cons (me_lst ma_nil) (mr_cons (me_call F 238 rfl rfl (ma_cons (me_var 0) (ma_cons me_int ma_nil))) mr_nil))) rfl)
  (mss_cons
  (ms_for po_nox rfl (mi_range2 rfl m_range me_int (me_var 1)) (mg_name nd (i := 2) rfl (by first | exact Or.inl rfl | exact Or.inr rfl)) (mss_cons
  (ms_set nd (i := 6) rfl (by first | exact Or.inl rfl | exact Or.inr rfl) (me_ifR (mt_cmp (mo_gt u3) (me_bvar 5) (pe_vb me_int) rfl) (me_call F 238 rfl rfl (ma_cons (me_var 0) (ma_cons (me_var 2) ma_nil))) (me_callB (mb_max2 rfl) rfl m_max PyProof.Rows.boot_max (mb_cons (pe_vb me_int) (mb_cons (pe_vb (pe_fz (me_op mo_sub (pe_vb (pe_fz (me_op mo_sub (me_bvar 2) (pe_vb me_int)))) (pe_vb (pe_fz (me_call F 238 rfl rfl (ma_cons (me_var 0) (ma_cons me_int ma_nil)))))))) mb_nil)))))
  (mss_one (ms_app 4 (pe_fz (me_callTy mb_tuple rfl m_tuple PyProof.Rows.boot_tuple (mb_cons (pe_vb (pe_fz (me_callB (mb_sorted u3) rfl m_sorted PyProof.Rows.boot_sorted (mb_cons (pe_vb (pe_fz (me_lst (ma_cons (pe_fz (me_ix (mo_ix u2) (me_bvar 3) (me_bvar 2) (fun _ _ => rfl))) (ma_cons (pe_fz (me_ix (mo_ix u2) (me_bvar 3) (me_bvar 6) (fun _ _ => rfl))) ma_nil))))) mb_nil)))) mb_nil)))))))
  (mss_one (ms_ret (pe_vr (me_tup (ma_cons (me_var 1) (ma_cons (pe_fz (me_callTy mb_tuple rfl m_tuple PyProof.Rows.boot_tuple (mb_cons (pe_vb (pe_fz (me_callB (mb_sorted u3) rfl m_sorted PyProof.Rows.boot_sorted (mb_cons (me_bvar 4) mb_nil)))) mb_nil))) ma_nil))))))))

def N__law_bent : List Str := ["_law_box_here", "_law_part", "_law_way", "_law_odd", "_law_at", "_law_some"]

theorem s__law_bent : FnScope N__law_bent ["_law_box_here", "_law_part"] (defScope (top 19)) := ⟨rfl, rfl, rfl, by decide +kernel, rfl, by decide +kernel, by decide +kernel⟩

theorem p__law_bent (F : Fx P w K mg base (A.deeper (envOfC "_law_bent" (defScope (top 19)) s.heap.objs.size f cdv)) n T C) (m_bool : mg "bool" = none) (m_int : mg "int" = none) (m_isinstance : mg "isinstance" = none) (m_len : mg "len" = none) (m_list : mg "list" = none) (m_str : mg "str" = none) (m_tuple : mg "tuple" = none) : PSs (XF P w K mg base N__law_bent "_law_bent" (defScope (top 19)) f cdv A outer s H E) (defBody (top 19)) (tS K E (b__law_bent C)) := by
  have nd := s__law_bent.nd
  have u3 := units_of F.room
  have u0 : (A.deeper (envOfC "_law_bent" (defScope (top 19)) s.heap.objs.size f cdv)).units + 1 < cLine := by omega
  have u1 : (A.deeper (envOfC "_law_bent" (defScope (top 19)) s.heap.objs.size f cdv)).units + 64 < cLine := by omega
  have u2 : (A.deeper (envOfC "_law_bent" (defScope (top 19)) s.heap.objs.size f cdv)).units + 65 < cLine := by omega
  exact (mss_cons
  (ms_set nd (i := 2) rfl (by first | exact Or.inl rfl | exact Or.inr rfl) (me_call F 238 rfl rfl (ma_cons (me_var 0) (ma_cons me_int ma_nil))))
  (mss_cons
  (ms_if (PW.pt (mw_and (mt_val (pe_fz (me_callB mb_isi rfl m_isinstance PyProof.Rows.boot_isinstance (mb_cons (me_bvar 1) (mb_cons (pe_vb (me_tup (ma_cons (me_ty rfl m_tuple PyProof.Rows.boot_tuple) (ma_cons (me_ty rfl m_list PyProof.Rows.boot_list) ma_nil)))) mb_nil))))) (mw_and (mt_cmp (mo_gt u3) (pe_vb (pe_fz (me_callB mb_len rfl m_len boot_len (mb_cons (me_bvar 1) mb_nil)))) (pe_vb me_int) rfl) (mw_and1 (mt_cmp (mo_gt u3) (me_bvar 2) (pe_vb me_int) rfl))))) (mss_cons
  (ms_par2 (i := 4) (j := 5) rfl nd rfl rfl (by decide) rfl rfl (mr_cons (me_call F 238 rfl rfl (ma_cons (me_var 0) (ma_cons (pe_fz (me_callB mb_len rfl m_len boot_len (mb_cons (me_bvar 1) mb_nil))) ma_nil))) (mr_cons (me_callTy mb_list rfl m_list PyProof.Rows.boot_list (mb_cons (me_bvar 1) mb_nil)) mr_nil)) rfl)
  (mss_cons
  (ms_if (mt_cmp (mo_eq u1) (me_bvar 2) (pe_vb me_int) rfl) (mss_one (ms_popI 5 (me_var 4))) (mss_one (ms_if (mt_cmp (mo_eq u1) (me_bvar 2) (pe_vb me_int) rfl) (mss_one (ms_ins 5 (me_var 4) (pe_fz (me_ix (mo_ix u2) (me_bvar 5) (me_bvar 4) (fun _ _ => rfl))))) (mss_one (ms_putL 5 (pe_fz (me_call F 13 rfl rfl (ma_cons (me_var 0) (ma_cons (pe_fz (me_ix (mo_ix u2) (me_bvar 5) (me_bvar 4) (fun _ _ => rfl))) ma_nil)))) (me_var 4))))))
  (mss_one (ms_frz 5 (ms_ret (me_ifR (mt_val (pe_fz (me_callB mb_isi rfl m_isinstance PyProof.Rows.boot_isinstance (mb_cons (me_bvar 1) (mb_cons (pe_vb (me_ty rfl m_tuple PyProof.Rows.boot_tuple)) mb_nil))))) (me_callTy mb_tuple rfl m_tuple PyProof.Rows.boot_tuple (mb_cons (me_bvar 5) mb_nil)) (pe_vr (me_var 5)))))))) mss_nil)
  (mss_cons
  (ms_if (PW.pt (mw_and (mt_cmp (mo_eq u1) (me_bvar 2) (pe_vb me_int) rfl) (mw_and1 (mt_val (pe_fz (me_callB mb_isi rfl m_isinstance PyProof.Rows.boot_isinstance (mb_cons (me_bvar 1) (mb_cons (pe_vb (me_tup (ma_cons (me_ty rfl m_tuple PyProof.Rows.boot_tuple) (ma_cons (me_ty rfl m_list PyProof.Rows.boot_list) ma_nil)))) mb_nil)))))))) (mss_one (ms_ret (me_ifR (mt_val (pe_fz (me_callB mb_isi rfl m_isinstance PyProof.Rows.boot_isinstance (mb_cons (me_bvar 1) (mb_cons (pe_vb (me_ty rfl m_tuple PyProof.Rows.boot_tuple)) mb_nil))))) (me_callTy mb_list rfl m_list PyProof.Rows.boot_list (mb_cons (me_bvar 1) mb_nil)) (me_callTy mb_tuple rfl m_tuple PyProof.Rows.boot_tuple (mb_cons (me_bvar 1) mb_nil))))) mss_nil)
  (mss_cons
  (ms_set nd (i := 3) rfl (by first | exact Or.inl rfl | exact Or.inr rfl) (me_lst (ma_cons me_non (ma_cons me_bl (ma_cons me_bl (ma_cons (pe_fz (me_un mo_neg (pe_vb me_int))) (ma_cons me_int (ma_cons me_int (ma_cons me_str (ma_cons me_str (ma_cons (me_tup ma_nil) (ma_cons (pe_fz (me_lst ma_nil)) (ma_cons (me_tup (ma_cons me_int ma_nil)) (ma_cons (pe_fz (me_lst (ma_cons me_int ma_nil))) (ma_cons (me_tup (ma_cons me_int (ma_cons me_int ma_nil))) (ma_cons (me_tup (ma_cons me_int (ma_cons me_str (ma_cons me_int ma_nil)))) (ma_cons (pe_fz (me_op mo_pow (pe_vb me_int) (pe_vb me_int))) ma_nil)))))))))))))))))
  (mss_cons
  (ms_if (PW.pt (mw_and (mt_val (pe_fz (me_callB mb_isi rfl m_isinstance PyProof.Rows.boot_isinstance (mb_cons (me_bvar 1) (mb_cons (pe_vb (me_ty rfl m_int PyProof.Rows.boot_int)) mb_nil))))) (mw_and1 (mt_not (mt_val (pe_fz (me_callB mb_isi rfl m_isinstance PyProof.Rows.boot_isinstance (mb_cons (me_bvar 1) (mb_cons (pe_vb (me_ty rfl m_bool PyProof.Rows.boot_bool)) mb_nil))))))))) (mss_one (ms_set nd (i := 3) rfl (by first | exact Or.inl rfl | exact Or.inr rfl) (me_op mo_add (me_bvar 3) (pe_vb (pe_fz (me_lst (ma_cons (pe_fz (me_op mo_add (me_bvar 1) (pe_vb me_int))) (ma_cons (pe_fz (me_op mo_sub (me_bvar 1) (pe_vb me_int))) (ma_cons (pe_fz (me_op mo_add (me_bvar 1) (pe_vb me_int))) (ma_cons (pe_fz (me_callTy mb_str rfl m_str PyProof.Rows.boot_str (mb_cons (me_bvar 1) mb_nil))) ma_nil)))))))))) mss_nil)
  (mss_one (ms_frz 3 (ms_ret (me_call F 110 rfl rfl (ma_cons (me_var 0) (ma_cons (me_var 3) ma_nil)))))))))))

def N__law_is_wood : List Str := ["_law_matter", "_law_link", "_law_groups_so", "_law_a", "_law_b", "_law_mine", "_law_its", "_law_piece", "_law_some", "_law_end"]

theorem s__law_is_wood : FnScope N__law_is_wood ["_law_matter"] (defScope (top 20)) := ⟨rfl, rfl, rfl, by decide +kernel, rfl, by decide +kernel, by decide +kernel⟩

theorem p__law_is_wood (F : Fx P w K mg base (A.deeper (envOfC "_law_is_wood" (defScope (top 20)) s.heap.objs.size f cdv)) n T C) (m_all : mg "all" = none) (m_isinstance : mg "isinstance" = none) (m_len : mg "len" = none) (m_list : mg "list" = none) (m_range : mg "range" = none) (m_sorted : mg "sorted" = none) (m_tuple : mg "tuple" = none) : PSs (XF P w K mg base N__law_is_wood "_law_is_wood" (defScope (top 20)) f cdv A outer s H E) (defBody (top 20)) (tS K E (b__law_is_wood C)) := by
  have nd := s__law_is_wood.nd
  have u3 := units_of F.room
  have u0 : (A.deeper (envOfC "_law_is_wood" (defScope (top 20)) s.heap.objs.size f cdv)).units + 1 < cLine := by omega
  have u1 : (A.deeper (envOfC "_law_is_wood" (defScope (top 20)) s.heap.objs.size f cdv)).units + 64 < cLine := by omega
  have u2 : (A.deeper (envOfC "_law_is_wood" (defScope (top 20)) s.heap.objs.size f cdv)).units + 65 < cLine := by omega
  exact (mss_cons
  (ms_if (PW.pt (mw_or (mt_not (mt_val (pe_fz (me_callB mb_isi rfl m_isinstance PyProof.Rows.boot_isinstance (mb_cons (me_bvar 0) (mb_cons (pe_vb (me_ty rfl m_tuple PyProof.Rows.boot_tuple)) mb_nil)))))) (mw_or (mt_cmp (mo_ne u1) (pe_vb (pe_fz (me_callB mb_len rfl m_len boot_len (mb_cons (me_bvar 0) mb_nil)))) (pe_vb me_int) rfl) (mw_or (mt_not (mt_val (pe_fz (me_call F 71 rfl rfl (ma_cons (pe_fz (me_ix (mo_ix u2) (me_bvar 0) (pe_vb me_int) (fun _ _ => rfl))) ma_nil))))) (mw_or1 (mt_cmp (mo_lt u3) (pe_vb (pe_fz (me_ix (mo_ix u2) (me_bvar 0) (pe_vb me_int) (fun _ _ => rfl)))) (pe_vb me_int) rfl)))))) (mss_one (ms_ret (pe_vr me_bl))) mss_nil)
  (mss_cons
  (ms_if (PW.pt (mw_or (mt_not (mt_val (pe_fz (me_callB mb_isi rfl m_isinstance PyProof.Rows.boot_isinstance (mb_cons (pe_vb (pe_fz (me_ix (mo_ix u2) (me_bvar 0) (pe_vb me_int) (fun _ _ => rfl)))) (mb_cons (pe_vb (me_ty rfl m_tuple PyProof.Rows.boot_tuple)) mb_nil)))))) (mw_or1 (mt_cmp (mo_ne u1) (pe_vb (pe_fz (me_callB mb_len rfl m_len boot_len (mb_cons (pe_vb (pe_fz (me_ix (mo_ix u2) (me_bvar 0) (pe_vb me_int) (fun _ _ => rfl)))) mb_nil)))) (pe_vb (pe_fz (me_op mo_sub (pe_vb (pe_fz (me_ix (mo_ix u2) (me_bvar 0) (pe_vb me_int) (fun _ _ => rfl)))) (pe_vb me_int)))) rfl)))) (mss_one (ms_ret (pe_vr me_bl))) mss_nil)
  (mss_cons
  (ms_for po_nox rfl (mi_seq (pe_fz (me_ix (mo_ix u2) (me_bvar 0) (pe_vb me_int) (fun _ _ => rfl)))) (mg_name nd (i := 1) rfl (by first | exact Or.inl rfl | exact Or.inr rfl)) (mss_cons
  (ms_if (PW.pt (mw_or (mt_not (mt_val (pe_fz (me_callB mb_isi rfl m_isinstance PyProof.Rows.boot_isinstance (mb_cons (me_bvar 1) (mb_cons (pe_vb (me_ty rfl m_tuple PyProof.Rows.boot_tuple)) mb_nil)))))) (mw_or (mt_cmp (mo_ne u1) (pe_vb (pe_fz (me_callB mb_len rfl m_len boot_len (mb_cons (me_bvar 1) mb_nil)))) (pe_vb me_int) rfl) (mw_or1 (mt_not (mt_val (pe_fz (me_callB (mb_all rfl) rfl m_all PyProof.Rows.boot_all (mb_cons (pe_vb (pe_fz (me_comp (own := [("_law_end", 9)]) rfl nd (mi_seqB (me_bvar 1)) (blk_of (by kernel_rfl)) (fun _ _ _ _ _ => (mg_name nd (i := 9) rfl (by first | exact Or.inl rfl | exact Or.inr rfl))) (fun _ _ _ _ _ => mts_nil) (fun _ _ _ _ _ => (pe_fz (me_call F 71 rfl rfl (ma_cons (me_var 9) ma_nil)))) (by decide)))) mb_nil))))))))) (mss_one (ms_ret (pe_vr me_bl))) mss_nil)
  (mss_one (ms_if (mt_not (mt_chain3 (mo_le u3) (mo_lt u3) (mo_lt u3) (pe_vb me_int) (pe_vb (pe_fz (me_ix (mo_ix u2) (me_bvar 1) (pe_vb me_int) (fun _ _ => rfl)))) (pe_vb (pe_fz (me_ix (mo_ix u2) (me_bvar 1) (pe_vb me_int) (fun _ _ => rfl)))) (pe_vb (pe_fz (me_ix (mo_ix u2) (me_bvar 0) (pe_vb me_int) (fun _ _ => rfl)))))) (mss_one (ms_ret (pe_vr me_bl))) mss_nil))))
  (mss_cons
  (ms_if (mt_cmp (mo_ne u1) (pe_vb (pe_fz (me_callTy mb_list rfl m_list PyProof.Rows.boot_list (mb_cons (pe_vb (pe_fz (me_ix (mo_ix u2) (me_bvar 0) (pe_vb me_int) (fun _ _ => rfl)))) mb_nil)))) (pe_vb (pe_fz (me_callB (mb_sorted u3) rfl m_sorted PyProof.Rows.boot_sorted (mb_cons (pe_vb (pe_fz (me_ix (mo_ix u2) (me_bvar 0) (pe_vb me_int) (fun _ _ => rfl)))) mb_nil)))) rfl) (mss_one (ms_ret (pe_vr me_bl))) mss_nil)
  (mss_cons
  (ms_setLc (i := 2) (own := [("_law_piece", 7)]) rfl nd rfl rfl rfl (pi_fb (mi_range1 rfl m_range (pe_fz (me_ix (mo_ix u2) (me_bvar 0) (pe_vb me_int) (fun _ _ => rfl))))) (blk_of (by kernel_rfl)) (fun _ _ _ _ _ => (mg_name nd (i := 7) rfl (by first | exact Or.inl rfl | exact Or.inr rfl))) (fun _ _ _ _ _ => mts_nil) (fun _ _ _ _ _ => (pe_fz (me_lst (ma_cons (me_var 7) ma_nil)))) (by decide))
  (mss_cons
  (ms_for po_nox rfl (mi_seq (pe_fz (me_ix (mo_ix u2) (me_bvar 0) (pe_vb me_int) (fun _ _ => rfl)))) (mg_tup rfl (mgs_cons (mg_name nd (i := 3) rfl (by first | exact Or.inl rfl | exact Or.inr rfl)) (mgs_cons (mg_name nd (i := 4) rfl (by first | exact Or.inl rfl | exact Or.inr rfl)) mgs_nil)) rfl) (mss_cons
  (ms_set nd (i := 5) rfl (by first | exact Or.inl rfl | exact Or.inr rfl) (me_ix (mo_ix u2) (pe_vb (pe_fz (me_comp (own := [("_law_some", 8)]) rfl nd (mi_seqB (me_bvar 2)) (blk_of (by kernel_rfl)) (fun _ _ _ _ _ => (mg_name nd (i := 8) rfl (by first | exact Or.inl rfl | exact Or.inr rfl))) (fun _ _ _ _ _ => (mts_one (mt_cmp (mo_in u2) (me_bvar 3) (me_bvar 8) rfl))) (fun _ _ _ _ _ => (me_var 8)) (by decide)))) (pe_vb me_int) (fun _ _ => rfl)))
  (mss_cons
  (ms_if (mt_cmp (mo_in u2) (me_bvar 4) (me_bvar 5) rfl) (mss_one (ms_ret (pe_vr me_bl))) mss_nil)
  (mss_cons
  (ms_set nd (i := 6) rfl (by first | exact Or.inl rfl | exact Or.inr rfl) (me_ix (mo_ix u2) (pe_vb (pe_fz (me_comp (own := [("_law_some", 8)]) rfl nd (mi_seqB (me_bvar 2)) (blk_of (by kernel_rfl)) (fun _ _ _ _ _ => (mg_name nd (i := 8) rfl (by first | exact Or.inl rfl | exact Or.inr rfl))) (fun _ _ _ _ _ => (mts_one (mt_cmp (mo_in u2) (me_bvar 4) (me_bvar 8) rfl))) (fun _ _ _ _ _ => (me_var 8)) (by decide)))) (pe_vb me_int) (fun _ _ => rfl)))
  (mss_one (ms_set nd (i := 2) rfl (by first | exact Or.inl rfl | exact Or.inr rfl) (me_op mo_add (pe_vb (pe_fz (me_comp (own := [("_law_some", 8)]) rfl nd (mi_seqB (me_bvar 2)) (blk_of (by kernel_rfl)) (fun _ _ _ _ _ => (mg_name nd (i := 8) rfl (by first | exact Or.inl rfl | exact Or.inr rfl))) (fun _ _ _ _ _ => (mts_one (PW.pt (mw_and (mt_cmp (mo_ne u1) (me_bvar 8) (me_bvar 5) rfl) (mw_and1 (mt_cmp (mo_ne u1) (me_bvar 8) (me_bvar 6) rfl)))))) (fun _ _ _ _ _ => (me_var 8)) (by decide)))) (pe_vb (pe_fz (me_lst (ma_cons (pe_fz (me_op mo_add (me_bvar 5) (me_bvar 6))) ma_nil)))))))))))
  (mss_one (ms_ret (pe_vr me_bl)))))))))

def N__law_right : List Str := ["_law_box_here", "_law_wood_here", "_law_due", "_law_found", "_law_matters", "_law_turn", "_law_matter", "_law_count", "_law_links", "_law_bent_here", "_law_piece", "_law_kept"]

theorem s__law_right : FnScope N__law_right ["_law_box_here"] (defScope (top 21)) := ⟨rfl, rfl, rfl, by decide +kernel, rfl, by decide +kernel, by decide +kernel⟩

theorem p__law_right (F : Fx P w K mg base (A.deeper (envOfC "_law_right" (defScope (top 21)) s.heap.objs.size f cdv)) n T C) (w_is_tree_thing : KwOk K mg "is_tree" ["thing"] [0]) (w_leaves_tree : KwOk K mg "leaves" ["tree"] [0]) (m_len : mg "len" = none) (m_list : mg "list" = none) (m_range : mg "range" = none) (m_repr : mg "repr" = none) : PSs (XF P w K mg base N__law_right "_law_right" (defScope (top 21)) f cdv A outer s H E) (defBody (top 21)) (tS K E (b__law_right_k01 C)) := by
  have nd := s__law_right.nd
  have u3 := units_of F.room
  have u0 : (A.deeper (envOfC "_law_right" (defScope (top 21)) s.heap.objs.size f cdv)).units + 1 < cLine := by omega
  have u1 : (A.deeper (envOfC "_law_right" (defScope (top 21)) s.heap.objs.size f cdv)).units + 64 < cLine := by omega
  have u2 : (A.deeper (envOfC "_law_right" (defScope (top 21)) s.heap.objs.size f cdv)).units + 65 < cLine := by omega
  exact (mss_cons
  (ms_set nd (i := 1) rfl (by first | exact Or.inl rfl | exact Or.inr rfl) (me_call F 274 rfl rfl (ma_cons (me_var 0) (ma_cons (pe_fz (me_op mo_add (pe_vb me_int) (pe_vb (pe_fz (me_call F 238 rfl rfl (ma_cons (me_var 0) (ma_cons me_int ma_nil))))))) ma_nil))))
  (mss_cons
  (ms_unp (me_var 1) (mg_tup rfl (mgs_cons (mg_name nd (i := 7) rfl (by first | exact Or.inl rfl | exact Or.inr rfl)) (mgs_cons (mg_name nd (i := 8) rfl (by first | exact Or.inl rfl | exact Or.inr rfl)) mgs_nil)) rfl))
  (mss_cons
  (ms_setLc (i := 2) (own := [("_law_piece", 10)]) rfl nd rfl rfl rfl (pi_fb (mi_range1 rfl m_range (me_var 7))) (blk_of (by kernel_rfl)) (fun _ _ _ _ _ => (mg_name nd (i := 10) rfl (by first | exact Or.inl rfl | exact Or.inr rfl))) (fun _ _ _ _ _ => (mts_one (mt_cmp (mo_eq u1) (pe_vb (pe_fz (me_callB mb_len rfl m_len boot_len (mb_cons (pe_vb (pe_fz (me_call F 90 rfl rfl (ma_cons (me_var 8) (ma_cons (me_var 10) ma_nil))))) mb_nil)))) (pe_vb me_int) rfl))) (fun _ _ _ _ _ => (me_var 10)) (by decide))
  (mss_cons
  (ms_sh nd (i := 3) rfl (by first | exact Or.inl rfl | exact Or.inr rfl) (me_call F 384 rfl rfl (ma_cons (me_var 1) ma_nil)))
  (mss_cons
  (ms_frz 2 (ms_if (mt_not (mt_val (pe_lend (pe_fz (me_call F 213 rfl rfl (ma_cons (pe_fz (me_lst (ma_cons (me_var 3) (ma_cons (pe_fz (me_callK F 384 [0] rfl w_leaves_tree rfl (mk_cons (pe_fz (me_call F 87 rfl rfl (ma_cons (me_var 1) ma_nil))) mk_nil) (len_cons len_nil))) ma_nil)))) (ma_cons (pe_fz (me_lst (ma_cons (me_var 2) (ma_cons (me_var 2) ma_nil)))) ma_nil))))))) (mss_one (ms_ret (pe_vr me_bl))) mss_nil))
  (mss_cons
  (ms_app 3 me_str)
  (mss_cons
  (ms_set nd (i := 4) rfl (by first | exact Or.inl rfl | exact Or.inr rfl) (me_lst (ma_cons (me_var 1) (ma_cons (pe_fz (me_callTy mb_list rfl m_list PyProof.Rows.boot_list (mb_cons (me_bvar 1) mb_nil))) (ma_cons (pe_fz (me_call F 87 rfl rfl (ma_cons (me_var 1) ma_nil))) (ma_cons (me_var 8) (ma_cons (me_tup (ma_cons (pe_fz (me_op mo_add (me_bvar 7) (pe_vb me_int))) (ma_cons (me_var 8) ma_nil))) (ma_cons (me_tup (ma_cons (me_var 7) (ma_cons (pe_fz (me_rev (me_bvar 8))) ma_nil))) ma_nil))))))))
  (mss_cons
  (ms_set nd (i := 4) rfl (by first | exact Or.inl rfl | exact Or.inr rfl) (me_op mo_add (me_bvar 4) (pe_vb (pe_fz (me_lst (ma_cons (me_tup (ma_cons (me_var 7) (ma_cons (pe_fz (me_sl (me_bvar 8) (mp_some me_int) mp_none)) ma_nil))) (ma_cons (me_tup ma_nil) (ma_cons (pe_fz (me_lst ma_nil)) (ma_cons me_non ma_nil)))))))))
  (mss_cons
  (ms_set nd (i := 4) rfl (by first | exact Or.inl rfl | exact Or.inr rfl) (me_op mo_add (me_bvar 4) (pe_vb (pe_fz (me_lst (ma_cons (me_tup (ma_cons me_int (ma_cons (me_tup ma_nil) ma_nil))) (ma_cons (me_tup (ma_cons me_int (ma_cons (me_tup ma_nil) ma_nil))) (ma_cons (me_tup (ma_cons me_int (ma_cons (pe_fz (me_lst ma_nil)) ma_nil))) (ma_cons (me_tup (ma_cons me_bl (ma_cons (me_tup ma_nil) ma_nil))) (ma_cons (me_tup (ma_cons me_int (ma_cons (me_tup (ma_cons (me_tup (ma_cons me_int (ma_cons me_int ma_nil))) ma_nil)) ma_nil))) (ma_cons (me_tup (ma_cons me_int (ma_cons (me_tup (ma_cons (me_tup (ma_cons me_int (ma_cons me_int ma_nil))) ma_nil)) ma_nil))) ma_nil)))))))))))
  (mss_cons
  (ms_set nd (i := 4) rfl (by first | exact Or.inl rfl | exact Or.inr rfl) (me_op mo_add (me_bvar 4) (pe_vb (pe_fz (me_lst (ma_cons (me_tup (ma_cons me_int (ma_cons (me_tup (ma_cons (me_tup (ma_cons me_bl (ma_cons me_bl ma_nil))) ma_nil)) ma_nil))) (ma_cons me_int (ma_cons me_str ma_nil))))))))
  (mss_cons
  (ms_set nd (i := 4) rfl (by first | exact Or.inl rfl | exact Or.inr rfl) (me_op mo_add (me_bvar 4) (pe_vb (pe_fz (me_lst (ma_cons (me_tup (ma_cons me_int (ma_cons (me_tup (ma_cons (me_tup (ma_cons me_int (ma_cons me_int ma_nil))) (ma_cons (me_tup (ma_cons me_int (ma_cons me_int ma_nil))) ma_nil))) ma_nil))) (ma_cons (me_tup (ma_cons me_int (ma_cons (me_tup (ma_cons (me_tup (ma_cons me_int (ma_cons me_int ma_nil))) (ma_cons (me_tup (ma_cons me_int (ma_cons me_int ma_nil))) ma_nil))) ma_nil))) (ma_cons (me_tup (ma_cons me_int (ma_cons (me_tup (ma_cons (me_tup (ma_cons me_int (ma_cons me_int ma_nil))) (ma_cons (me_tup (ma_cons me_int (ma_cons me_int ma_nil))) (ma_cons (me_tup (ma_cons me_int (ma_cons me_int ma_nil))) ma_nil)))) ma_nil))) ma_nil))))))))
  (mss_cons
  (ms_set nd (i := 4) rfl (by first | exact Or.inl rfl | exact Or.inr rfl) (me_op mo_add (me_bvar 4) (pe_vb (pe_fz (me_lst (ma_cons (me_tup (ma_cons me_int (ma_cons (me_tup (ma_cons (me_tup (ma_cons me_int (ma_cons me_int ma_nil))) (ma_cons (me_tup (ma_cons me_int (ma_cons me_int ma_nil))) (ma_cons (me_tup (ma_cons me_int (ma_cons me_int ma_nil))) ma_nil)))) ma_nil))) ma_nil))))))
  (mss_cons
  (ms_set nd (i := 4) rfl (by first | exact Or.inl rfl | exact Or.inr rfl) (me_op mo_add (me_bvar 4) (pe_vb (pe_fz (me_lst (ma_cons (me_tup (ma_cons me_int (ma_cons (me_tup (ma_cons (me_tup (ma_cons me_int (ma_cons me_int ma_nil))) (ma_cons (me_tup (ma_cons me_int (ma_cons me_int ma_nil))) ma_nil))) ma_nil))) (ma_cons (me_tup (ma_cons me_int (ma_cons (me_tup (ma_cons (me_tup (ma_cons me_int (ma_cons me_int ma_nil))) (ma_cons (me_tup (ma_cons me_int (ma_cons me_int ma_nil))) ma_nil))) ma_nil))) (ma_cons (me_tup (ma_cons me_int (ma_cons (me_tup (ma_cons (me_tup (ma_cons me_int (ma_cons me_int ma_nil))) (ma_cons (me_tup (ma_cons me_int (ma_cons me_int ma_nil))) ma_nil))) ma_nil))) (ma_cons (me_tup (ma_cons me_int (ma_cons (me_tup (ma_cons (pe_fz (me_lst (ma_cons me_int (ma_cons me_int ma_nil)))) ma_nil)) ma_nil))) ma_nil)))))))))
  (mss_cons
  (ms_set nd (i := 4) rfl (by first | exact Or.inl rfl | exact Or.inr rfl) (me_op mo_add (me_bvar 4) (pe_vb (pe_fz (me_lst (ma_cons (me_tup (ma_cons me_int (ma_cons (me_tup (ma_cons (me_tup (ma_cons me_int (ma_cons me_int (ma_cons me_int ma_nil)))) ma_nil)) ma_nil))) ma_nil))))))
  (mss_cons
  (ms_set nd (i := 4) rfl (by first | exact Or.inl rfl | exact Or.inr rfl) (me_op mo_add (me_bvar 4) (pe_vb (pe_fz (me_lst (ma_cons (me_tup (ma_cons me_int (ma_cons (me_tup (ma_cons (me_tup (ma_cons me_int (ma_cons me_int ma_nil))) (ma_cons (me_tup (ma_cons me_int (ma_cons me_int ma_nil))) (ma_cons (me_tup (ma_cons me_int (ma_cons me_int ma_nil))) ma_nil)))) ma_nil))) (ma_cons (me_tup (ma_cons me_int (ma_cons (me_tup (ma_cons (me_tup (ma_cons (pe_fz (me_un mo_neg (pe_vb me_int))) (ma_cons me_int ma_nil))) ma_nil)) ma_nil))) ma_nil)))))))
  (mss_cons
  (ms_for po_nox rfl (mi_range1 rfl m_range me_int) (mg_name nd (i := 5) rfl (by first | exact Or.inl rfl | exact Or.inr rfl)) (mss_cons
  (ms_set nd (i := 9) rfl (by first | exact Or.inl rfl | exact Or.inr rfl) (me_call F 13 rfl rfl (ma_cons (me_var 0) (ma_cons (me_var 1) ma_nil))))
  (mss_one (ms_frz 9 (ms_app 4 (me_if (mt_cmp (mo_eq u1) (pe_vb (pe_fz (me_call F 238 rfl rfl (ma_cons (me_var 0) (ma_cons me_int ma_nil))))) (pe_vb me_int) rfl) (pe_fz (me_call F 13 rfl rfl (ma_cons (me_var 0) (ma_cons (me_var 9) ma_nil)))) (me_var 9)))))))
  (mss_cons
  (ms_frz 4 (ms_for po_nox rfl (mi_seq (me_var 4)) (mg_name nd (i := 6) rfl (by first | exact Or.inl rfl | exact Or.inr rfl)) (mss_cons
  (ms_par2 (i := 11) (j := 2) rfl nd rfl rfl (by decide) rfl rfl (mr_cons (me_callB (mb_repr F.gd u1) rfl m_repr PyProof.Rows.boot_repr (mb_cons (me_bvar 6) mb_nil)) (mr_cons (me_call F 77 rfl rfl (ma_cons (me_var 6) ma_nil)) mr_nil)) rfl)
  (mss_one (ms_frz 2 (ms_if (PW.pt (mw_or (mt_not (mt_val (pe_fz (me_call F 213 rfl rfl (ma_cons (pe_fz (me_lst (ma_cons (pe_fz (me_call F 319 rfl rfl (ma_cons (me_var 6) ma_nil))) (ma_cons (pe_fz (me_callK F 319 [0] rfl w_is_tree_thing rfl (mk_cons (me_var 6) mk_nil) (len_cons len_nil))) ma_nil)))) (ma_cons (pe_fz (me_lst (ma_cons (me_var 2) (ma_cons (me_var 2) ma_nil)))) ma_nil)))))) (mw_or1 (mt_cmp mo_neS (pe_vb (pe_fz (me_callB (mb_repr F.gd u1) rfl m_repr PyProof.Rows.boot_repr (mb_cons (me_bvar 6) mb_nil)))) (me_bvar 11) rfl)))) (mss_one (ms_ret (pe_vr me_bl))) mss_nil))))))
  (mss_one (ms_ret (pe_vr (pe_lend (pe_fz (me_cmp (mo_eq u1) (pe_vb (pe_fz (me_call F 384 rfl rfl (ma_cons (me_var 1) ma_nil)))) (pe_vb (pe_fz (me_sl (me_bvar 3) mp_none (mp_some (pe_fz (me_un mo_neg (pe_vb me_int))))))) rfl)))))))))))))))))))))))

def N_law : List Str := ["_law_script", "_law_k", "_law_box_here", "_law_turn"]

theorem s_law : FnScope N_law ["_law_script"] (defScope (top 22)) := ⟨rfl, rfl, rfl, by decide +kernel, rfl, by decide +kernel, by decide +kernel⟩

theorem p_law (F : Fx P w K mg base (A.deeper (envOfC "law" (defScope (top 22)) s.heap.objs.size f cdv)) n T C) (m_all : mg "all" = none) (m_len : mg "len" = none) (m_min : mg "min" = none) (m_range : mg "range" = none) : PSs (XF P w K mg base N_law "law" (defScope (top 22)) f cdv A outer s H E) (defBody (top 22)) (tS K E (b_law_k01 C)) := by
  have nd := s_law.nd
  have u3 := units_of F.room
  have u0 : (A.deeper (envOfC "law" (defScope (top 22)) s.heap.objs.size f cdv)).units + 1 < cLine := by omega
  have u1 : (A.deeper (envOfC "law" (defScope (top 22)) s.heap.objs.size f cdv)).units + 64 < cLine := by omega
  have u2 : (A.deeper (envOfC "law" (defScope (top 22)) s.heap.objs.size f cdv)).units + 65 < cLine := by omega
  exact (mss_cons
  (ms_for po_nox rfl (mi_range1 rfl m_range (pe_fz (me_op mo_add (pe_vb me_int) (pe_vb (pe_fz (me_callB (mb_min2 rfl) rfl m_min PyProof.Rows.boot_min (mb_cons (pe_vb me_int) (mb_cons (pe_vb (pe_fz (me_callB mb_len rfl m_len boot_len (mb_cons (me_bvar 0) mb_nil)))) mb_nil)))))))) (mg_name nd (i := 1) rfl (by first | exact Or.inl rfl | exact Or.inr rfl)) (mss_cons
  (ms_sh nd (i := 2) rfl (by first | exact Or.inl rfl | exact Or.inr rfl) (me_call F 24 rfl rfl (ma_cons (me_var 0) (ma_cons (me_var 1) ma_nil))))
  (mss_one (ms_if (mt_not (mt_val (pe_fz (me_callB (mb_all rfl) rfl m_all PyProof.Rows.boot_all (mb_cons (pe_vb (pe_fz (me_comp (own := [("_law_turn", 3)]) rfl nd (pi_fb (mi_range1 rfl m_range me_int)) (blk_of (by kernel_rfl)) (fun _ _ _ _ _ => (mg_name nd (i := 3) rfl (by first | exact Or.inl rfl | exact Or.inr rfl))) (fun _ _ _ _ _ => mts_nil) (fun _ _ _ _ _ => (pe_fz (me_call F 148 rfl rfl (ma_cons (me_var 2) ma_nil)))) (by decide)))) mb_nil))))) (mss_one (ms_ret (pe_vr me_bl))) mss_nil))))
  (mss_one (ms_ret (pe_vr me_bl))))

end
section
variable {P : Program} {w : World} {K : PySem.W.Frag} {mg : Str → Option Value} {base : Heap}
abbrev FnP (K : PySem.W.Frag) (x : Str) (i : Nat) (f : Addr) (fd : FuncData) : Prop := FunD K x x (defArgs (top i)) (defBody (top i)) (defScope (top i)) [] [] f fd
structure Facts (K : PySem.W.Frag) (mg : Str → Option Value) : Prop where
  d312 : ∃ a fd, FnP K "is_number" 1 a fd ∧ mg "is_number" = some (.ref a)
  d316 : ∃ a fd, FnP K "is_road" 2 a fd ∧ mg "is_road" = some (.ref a)
  d410 : ∃ a fd, FnP K "reached" 3 a fd ∧ mg "reached" = some (.ref a)
  d395 : ∃ a fd, FnP K "neighbours" 4 a fd ∧ mg "neighbours" = some (.ref a)
  d319 : ∃ a fd, FnP K "is_tree" 5 a fd ∧ mg "is_tree" = some (.ref a)
  d385 : ∃ a fd, FnP K "leaves_of" 6 a fd ∧ mg "leaves_of" = some (.ref a)
  d384 : ∃ a fd, FnP K "leaves" 7 a fd ∧ mg "leaves" = some (.ref a)
  d28 : ∃ a fd, FnP K "_law_cell_at" 9 a fd ∧ mg "_law_cell_at" = some (.ref a)
  d24 : ∃ a fd, FnP K "_law_box" 10 a fd ∧ mg "_law_box" = some (.ref a)
  d238 : ∃ a fd, FnP K "_law_take" 11 a fd ∧ mg "_law_take" = some (.ref a)
  d110 : ∃ a fd, FnP K "_law_of" 12 a fd ∧ mg "_law_of" = some (.ref a)
  d213 : ∃ a fd, FnP K "_law_same" 13 a fd ∧ mg "_law_same" = some (.ref a)
  d230 : ∃ a fd, FnP K "_law_strewn" 14 a fd ∧ mg "_law_strewn" = some (.ref a)
  d87 : ∃ a fd, FnP K "_law_lists" 15 a fd ∧ mg "_law_lists" = some (.ref a)
  d71 : ∃ a fd, FnP K "_law_is_int" 16 a fd ∧ mg "_law_is_int" = some (.ref a)
  d90 : ∃ a fd, FnP K "_law_mates" 17 a fd ∧ mg "_law_mates" = some (.ref a)
  d274 : ∃ a fd, FnP K "_law_wood" 18 a fd ∧ mg "_law_wood" = some (.ref a)
  d13 : ∃ a fd, FnP K "_law_bent" 19 a fd ∧ mg "_law_bent" = some (.ref a)
  d77 : ∃ a fd, FnP K "_law_is_wood" 20 a fd ∧ mg "_law_is_wood" = some (.ref a)
  d148 : ∃ a fd, FnP K "_law_right" 21 a fd ∧ mg "_law_right" = some (.ref a)
  d324 : ∃ a fd, FnP K "law" 22 a fd ∧ mg "law" = some (.ref a)
  m_abs : mg "abs" = none
  m_all : mg "all" = none
  m_bool : mg "bool" = none
  m_int : mg "int" = none
  m_isinstance : mg "isinstance" = none
  m_len : mg "len" = none
  m_list : mg "list" = none
  m_max : mg "max" = none
  m_min : mg "min" = none
  m_range : mg "range" = none
  m_repr : mg "repr" = none
  m_set : mg "set" = none
  m_sorted : mg "sorted" = none
  m_str : mg "str" = none
  m_tuple : mg "tuple" = none
  m_zip : mg "zip" = none
  w_is_tree_thing : KwOk K mg "is_tree" ["thing"] [0]
  w_leaves_tree : KwOk K mg "leaves" ["tree"] [0]
theorem k_is_number (fc : Facts K mg) : DefOk P w K mg base B 312 q_is_number := by
  obtain ⟨a, fd, F, g⟩ := fc.d312
  exact ⟨a, fd, ["thing"], g, F.kp, F.bindsN (fun _ _ _ _ _ _ us hl => match us, hl with | [_], _ => rfl), rfl, at_of F rfl, fun n ih => fn_step F s_is_number rfl rfl rfl fun cdv A outer s H E gd hr => p_is_number (ih _ hr gd) fc.m_bool fc.m_int fc.m_isinstance⟩
theorem k_is_road (fc : Facts K mg) : DefOk P w K mg base B 316 q_is_road := by
  obtain ⟨a, fd, F, g⟩ := fc.d316
  exact ⟨a, fd, ["thing", "towns"], g, F.kp, F.bindsN (fun _ _ _ _ _ _ us hl => match us, hl with | [_, _], _ => rfl), rfl, at_of F rfl, fun n ih => fn_step F s_is_road rfl rfl rfl fun cdv A outer s H E gd hr => p_is_road (ih _ hr gd) fc.m_isinstance fc.m_len fc.m_tuple⟩
theorem k_reached (fc : Facts K mg) : DefOk P w K mg base B 410 q_reached := by
  obtain ⟨a, fd, F, g⟩ := fc.d410
  exact ⟨a, fd, ["towns", "roads"], g, F.kp, F.bindsN (fun _ _ _ _ _ _ us hl => match us, hl with | [_, _], _ => rfl), rfl, at_of F rfl, fun n ih => fn_step F s_reached rfl rfl rfl fun cdv A outer s H E gd hr => p_reached (ih _ hr gd) fc.m_len⟩
theorem k_neighbours (fc : Facts K mg) : DefOk P w K mg base B 395 q_neighbours := by
  obtain ⟨a, fd, F, g⟩ := fc.d395
  exact ⟨a, fd, ["roads", "town"], g, F.kp, F.bindsN (fun _ _ _ _ _ _ us hl => match us, hl with | [_, _], _ => rfl), rfl, at_of F rfl, fun n ih => fn_step F s_neighbours rfl rfl rfl fun cdv A outer s H E gd hr => p_neighbours (ih _ hr gd)⟩
theorem k_is_tree (fc : Facts K mg) : DefOk P w K mg base B 319 q_is_tree_b := by
  obtain ⟨a, fd, F, g⟩ := fc.d319
  exact ⟨a, fd, ["thing"], g, F.kp, F.bindsN (fun _ _ _ _ _ _ us hl => match us, hl with | [_], _ => rfl), rfl, at_of F rfl, fun n ih => fn_step F s_is_tree rfl rfl rfl fun cdv A outer s H E gd hr => p_is_tree (ih _ hr gd) fc.m_all fc.m_isinstance fc.m_len fc.m_list fc.m_set fc.m_sorted fc.m_tuple⟩
theorem k_leaves_of (fc : Facts K mg) : DefOk P w K mg base B 385 q_leaves_of := by
  obtain ⟨a, fd, F, g⟩ := fc.d385
  exact ⟨a, fd, ["towns", "roads"], g, F.kp, F.bindsN (fun _ _ _ _ _ _ us hl => match us, hl with | [_, _], _ => rfl), rfl, at_of F rfl, fun n ih => fn_step F s_leaves_of rfl rfl rfl fun cdv A outer s H E gd hr => p_leaves_of (ih _ hr gd) fc.m_len fc.m_range⟩
theorem k_leaves (fc : Facts K mg) : DefOk P w K mg base B 384 q_leaves := by
  obtain ⟨a, fd, F, g⟩ := fc.d384
  exact ⟨a, fd, ["tree"], g, F.kp, F.bindsN (fun _ _ _ _ _ _ us hl => match us, hl with | [_], _ => rfl), rfl, at_of F rfl, fun n ih => fn_step F s_leaves rfl rfl rfl fun cdv A outer s H E gd hr => p_leaves (ih _ hr gd)⟩
theorem k__law_cell_at (fc : Facts K mg) : DefOk P w K mg base B 28 q__law_cell_at := by
  obtain ⟨a, fd, F, g⟩ := fc.d28
  exact ⟨a, fd, ["_law_script", "_law_k"], g, F.kp, F.bindsN (fun _ _ _ _ _ _ us hl => match us, hl with | [_, _], _ => rfl), rfl, at_of F rfl, fun n ih => fn_step F s__law_cell_at rfl rfl rfl fun cdv A outer s H E gd hr => p__law_cell_at (ih _ hr gd) fc.m_len⟩
theorem k__law_box (fc : Facts K mg) : DefOk P w K mg base B 24 q__law_box := by
  obtain ⟨a, fd, F, g⟩ := fc.d24
  exact ⟨a, fd, ["_law_script", "_law_k"], g, F.kp, F.bindsN (fun _ _ _ _ _ _ us hl => match us, hl with | [_, _], _ => rfl), rfl, at_of F rfl, fun n ih => fn_step F s__law_box rfl rfl rfl fun cdv A outer s H E gd hr => p__law_box (ih _ hr gd) fc.m_abs fc.m_int⟩
theorem k__law_take (fc : Facts K mg) : DefOk P w K mg base B 238 q__law_take := by
  obtain ⟨a, fd, F, g⟩ := fc.d238
  exact ⟨a, fd, ["_law_box_here", "_law_below"], g, F.kp, F.bindsN (fun _ _ _ _ _ _ us hl => match us, hl with | [_, _], _ => rfl), rfl, at_of F rfl, fun n ih => fn_step F s__law_take rfl rfl rfl fun cdv A outer s H E gd hr => p__law_take (ih _ hr gd)⟩
theorem k__law_of (fc : Facts K mg) : DefOk P w K mg base B 110 q__law_of := by
  obtain ⟨a, fd, F, g⟩ := fc.d110
  exact ⟨a, fd, ["_law_box_here", "_law_some"], g, F.kp, F.bindsN (fun _ _ _ _ _ _ us hl => match us, hl with | [_, _], _ => rfl), rfl, at_of F rfl, fun n ih => fn_step F s__law_of rfl rfl rfl fun cdv A outer s H E gd hr => p__law_of (ih _ hr gd) fc.m_len⟩
theorem k__law_same (fc : Facts K mg) : DefOk P w K mg base B 213 q__law_same_v0 := by
  obtain ⟨a, fd, F, g⟩ := fc.d213
  exact ⟨a, fd, ["_law_found", "_law_due"], g, F.kp, F.bindsN (fun _ _ _ _ _ _ us hl => match us, hl with | [_, _], _ => rfl), rfl, at_of F rfl, fun n ih => fn_step F s__law_same rfl rfl rfl fun cdv A outer s H E gd hr => p__law_same (ih _ hr gd) fc.m_all fc.m_bool fc.m_int fc.m_isinstance fc.m_len fc.m_list fc.m_str fc.m_tuple fc.m_zip⟩
theorem k__law_strewn (fc : Facts K mg) : DefOk P w K mg base B 230 q__law_strewn := by
  obtain ⟨a, fd, F, g⟩ := fc.d230
  exact ⟨a, fd, ["_law_box_here", "_law_some"], g, F.kp, F.bindsN (fun _ _ _ _ _ _ us hl => match us, hl with | [_, _], _ => rfl), rfl, at_of F rfl, fun n ih => fn_step F s__law_strewn rfl rfl rfl fun cdv A outer s H E gd hr => p__law_strewn (ih _ hr gd) fc.m_len fc.m_list⟩
theorem k__law_lists (fc : Facts K mg) : DefOk P w K mg base B 87 q__law_lists := by
  obtain ⟨a, fd, F, g⟩ := fc.d87
  exact ⟨a, fd, ["_law_part"], g, F.kp, F.bindsN (fun _ _ _ _ _ _ us hl => match us, hl with | [_], _ => rfl), rfl, at_of F rfl, fun n ih => fn_step F s__law_lists rfl rfl rfl fun cdv A outer s H E gd hr => p__law_lists (ih _ hr gd) fc.m_isinstance fc.m_list fc.m_tuple⟩
theorem k__law_is_int (fc : Facts K mg) : DefOk P w K mg base B 71 q__law_is_int := by
  obtain ⟨a, fd, F, g⟩ := fc.d71
  exact ⟨a, fd, ["_law_matter"], g, F.kp, F.bindsN (fun _ _ _ _ _ _ us hl => match us, hl with | [_], _ => rfl), rfl, at_of F rfl, fun n ih => fn_step F s__law_is_int rfl rfl rfl fun cdv A outer s H E gd hr => p__law_is_int (ih _ hr gd) fc.m_bool fc.m_int fc.m_isinstance⟩
theorem k__law_mates (fc : Facts K mg) : DefOk P w K mg base B 90 q__law_mates := by
  obtain ⟨a, fd, F, g⟩ := fc.d90
  exact ⟨a, fd, ["_law_links", "_law_piece"], g, F.kp, F.bindsN (fun _ _ _ _ _ _ us hl => match us, hl with | [_, _], _ => rfl), rfl, at_of F rfl, fun n ih => fn_step F s__law_mates rfl rfl rfl fun cdv A outer s H E gd hr => p__law_mates (ih _ hr gd)⟩
theorem k__law_wood (fc : Facts K mg) : DefOk P w K mg base B 274 q__law_wood_v0 := by
  obtain ⟨a, fd, F, g⟩ := fc.d274
  exact ⟨a, fd, ["_law_box_here", "_law_count"], g, F.kp, F.bindsN (fun _ _ _ _ _ _ us hl => match us, hl with | [_, _], _ => rfl), rfl, at_of F rfl, fun n ih => fn_step F s__law_wood rfl rfl rfl fun cdv A outer s H E gd hr => p__law_wood (ih _ hr gd) fc.m_list fc.m_max fc.m_range fc.m_sorted fc.m_tuple⟩
theorem k__law_bent (fc : Facts K mg) : DefOk P w K mg base B 13 q__law_bent := by
  obtain ⟨a, fd, F, g⟩ := fc.d13
  exact ⟨a, fd, ["_law_box_here", "_law_part"], g, F.kp, F.bindsN (fun _ _ _ _ _ _ us hl => match us, hl with | [_, _], _ => rfl), rfl, at_of F rfl, fun n ih => fn_step F s__law_bent rfl rfl rfl fun cdv A outer s H E gd hr => p__law_bent (ih _ hr gd) fc.m_bool fc.m_int fc.m_isinstance fc.m_len fc.m_list fc.m_str fc.m_tuple⟩
theorem k__law_is_wood (fc : Facts K mg) : DefOk P w K mg base B 77 q__law_is_wood := by
  obtain ⟨a, fd, F, g⟩ := fc.d77
  exact ⟨a, fd, ["_law_matter"], g, F.kp, F.bindsN (fun _ _ _ _ _ _ us hl => match us, hl with | [_], _ => rfl), rfl, at_of F rfl, fun n ih => fn_step F s__law_is_wood rfl rfl rfl fun cdv A outer s H E gd hr => p__law_is_wood (ih _ hr gd) fc.m_all fc.m_isinstance fc.m_len fc.m_list fc.m_range fc.m_sorted fc.m_tuple⟩
theorem k__law_right (fc : Facts K mg) : DefOk P w K mg base B 148 q__law_right_k01 := by
  obtain ⟨a, fd, F, g⟩ := fc.d148
  exact ⟨a, fd, ["_law_box_here"], g, F.kp, F.bindsN (fun _ _ _ _ _ _ us hl => match us, hl with | [_], _ => rfl), rfl, at_of F rfl, fun n ih => fn_step F s__law_right rfl rfl rfl fun cdv A outer s H E gd hr => p__law_right (ih _ hr gd) fc.w_is_tree_thing fc.w_leaves_tree fc.m_len fc.m_list fc.m_range fc.m_repr⟩
theorem k_law (fc : Facts K mg) : DefOk P w K mg base B 324 q_law_k01 := by
  obtain ⟨a, fd, F, g⟩ := fc.d324
  exact ⟨a, fd, ["_law_script"], g, F.kp, F.bindsN (fun _ _ _ _ _ _ us hl => match us, hl with | [_], _ => rfl), rfl, at_of F rfl, fun n ih => fn_step F s_law rfl rfl rfl fun cdv A outer s H E gd hr => p_law (ih _ hr gd) fc.m_all fc.m_len fc.m_min fc.m_range⟩
theorem lookup_all {β : Type} {Q : Nat → β → Prop} : ∀ {l : List (Nat × β)}, (∀ p ∈ l, Q p.1 p.2) → ∀ i d, l.lookup i = some d → Q i d
  | [], _, _, _, h => by simp at h
  | (k, v) :: r, H, i, d, h => by
    rw [List.lookup_cons] at h
    split at h
    · rename_i e
      have e : i = k := by simpa using e
      cases h
      subst e
      exact H _ List.mem_cons_self
    · exact lookup_all (fun p hp => H p (List.mem_cons_of_mem _ hp)) i d h
theorem defs_ok (fc : Facts K mg) : ∀ i d, B i = some d → DefOk P w K mg base B i d := by
  refine lookup_all (l := tbl) ?_
  intro p hp
  unfold tbl at hp
  simp only [List.mem_cons, List.not_mem_nil, or_false] at hp
  rcases hp with rfl | rfl | rfl | rfl | rfl | rfl | rfl | rfl | rfl | rfl | rfl | rfl | rfl | rfl | rfl | rfl | rfl | rfl | rfl | rfl | rfl
  · exact k_is_number fc
  · exact k_is_road fc
  · exact k_reached fc
  · exact k_neighbours fc
  · exact k_is_tree fc
  · exact k_leaves_of fc
  · exact k_leaves fc
  · exact k__law_cell_at fc
  · exact k__law_box fc
  · exact k__law_take fc
  · exact k__law_of fc
  · exact k__law_same fc
  · exact k__law_strewn fc
  · exact k__law_lists fc
  · exact k__law_is_int fc
  · exact k__law_mates fc
  · exact k__law_wood fc
  · exact k__law_bent fc
  · exact k__law_is_wood fc
  · exact k__law_right fc
  · exact k_law fc
end
/-! ### the head -/
def e312 : He.DefD := ⟨("is_number", none), "is_number", "is_number", defArgs (top 1), defBody (top 1), defScope (top 1), [], []⟩
def e316 : He.DefD := ⟨("is_road", none), "is_road", "is_road", defArgs (top 2), defBody (top 2), defScope (top 2), [], []⟩
def e410 : He.DefD := ⟨("reached", none), "reached", "reached", defArgs (top 3), defBody (top 3), defScope (top 3), [], []⟩
def e395 : He.DefD := ⟨("neighbours", none), "neighbours", "neighbours", defArgs (top 4), defBody (top 4), defScope (top 4), [], []⟩
def e319 : He.DefD := ⟨("is_tree", none), "is_tree", "is_tree", defArgs (top 5), defBody (top 5), defScope (top 5), [], []⟩
def e385 : He.DefD := ⟨("leaves_of", none), "leaves_of", "leaves_of", defArgs (top 6), defBody (top 6), defScope (top 6), [], []⟩
def e384 : He.DefD := ⟨("leaves", none), "leaves", "leaves", defArgs (top 7), defBody (top 7), defScope (top 7), [], []⟩
def e28 : He.DefD := ⟨("_law_cell_at", none), "_law_cell_at", "_law_cell_at", defArgs (top 9), defBody (top 9), defScope (top 9), [], []⟩
def e24 : He.DefD := ⟨("_law_box", none), "_law_box", "_law_box", defArgs (top 10), defBody (top 10), defScope (top 10), [], []⟩
def e238 : He.DefD := ⟨("_law_take", none), "_law_take", "_law_take", defArgs (top 11), defBody (top 11), defScope (top 11), [], []⟩
def e110 : He.DefD := ⟨("_law_of", none), "_law_of", "_law_of", defArgs (top 12), defBody (top 12), defScope (top 12), [], []⟩
def e213 : He.DefD := ⟨("_law_same", none), "_law_same", "_law_same", defArgs (top 13), defBody (top 13), defScope (top 13), [], []⟩
def e230 : He.DefD := ⟨("_law_strewn", none), "_law_strewn", "_law_strewn", defArgs (top 14), defBody (top 14), defScope (top 14), [], []⟩
def e87 : He.DefD := ⟨("_law_lists", none), "_law_lists", "_law_lists", defArgs (top 15), defBody (top 15), defScope (top 15), [], []⟩
def e71 : He.DefD := ⟨("_law_is_int", none), "_law_is_int", "_law_is_int", defArgs (top 16), defBody (top 16), defScope (top 16), [], []⟩
def e90 : He.DefD := ⟨("_law_mates", none), "_law_mates", "_law_mates", defArgs (top 17), defBody (top 17), defScope (top 17), [], []⟩
def e274 : He.DefD := ⟨("_law_wood", none), "_law_wood", "_law_wood", defArgs (top 18), defBody (top 18), defScope (top 18), [], []⟩
def e13 : He.DefD := ⟨("_law_bent", none), "_law_bent", "_law_bent", defArgs (top 19), defBody (top 19), defScope (top 19), [], []⟩
def e77 : He.DefD := ⟨("_law_is_wood", none), "_law_is_wood", "_law_is_wood", defArgs (top 20), defBody (top 20), defScope (top 20), [], []⟩
def e148 : He.DefD := ⟨("_law_right", none), "_law_right", "_law_right", defArgs (top 21), defBody (top 21), defScope (top 21), [], []⟩
def e324 : He.DefD := ⟨("law", none), "law", "law", defArgs (top 22), defBody (top 22), defScope (top 22), [], []⟩
def fn : List He.DefD := [e312, e316, e410, e395, e319, e385, e384, e28, e24, e238, e110, e213, e230, e87, e71, e90, e274, e13, e77, e148, e324]
def bx (K : PySem.W.Frag) : Bool := true
def fa_0 : List He.Fa := [.glo "is_number", .glo "is_road", .glo "reached", .glo "neighbours", .glo "is_tree", .glo "leaves_of", .glo "leaves", .glo "_law_cell_at", .glo "_law_box", .glo "_law_take", .glo "_law_of", .glo "_law_same", .glo "_law_strewn", .glo "_law_lists", .glo "_law_is_int", .glo "_law_mates", .glo "_law_wood", .glo "_law_bent", .glo "_law_is_wood", .glo "_law_right", .glo "law", .free "abs", .free "all", .free "bool", .free "int"]
def fa_1 : List He.Fa := [.free "isinstance", .free "len", .free "list", .free "max", .free "min", .free "range", .free "repr", .free "set", .free "sorted", .free "str", .free "tuple", .free "zip"]
def fa : List He.Fa := fa_0 ++ fa_1
abbrev Rw : PySem.W.OpenRow := PySem.W.OpenLaw.row PySem.Challenge.rw_lastroads_k01_trees_or_not
abbrev hk : PySem.W.Hook := MP.hookX 5 bx fa fn
def ob (s : PySem.W.SharedT) : Bool × He.AlD := MP.obsXG 5 bx fa fn (HandSHeadRun.getT s)
theorem ob_eq (s : PySem.W.SharedT) : ob s = hk.obs s.abs := MP.obsXG_eq (HandSHeadRun.getT_eq s)
def names : List Str := ["is_number", "is_road", "reached", "neighbours", "is_tree", "leaves_of", "leaves", "_law_cell_at", "_law_box", "_law_take", "_law_of", "_law_same", "_law_strewn", "_law_lists", "_law_is_int", "_law_mates", "_law_wood", "_law_bent", "_law_is_wood", "_law_right"]
theorem run (w : World) : HandSHeadRun.RunEq Rw (PySem.W.view Rw.prog [22]) hk ob 4000 names w := by
  intro os
  kernel_rfl
theorem facts {K : PySem.W.Frag} {h : Heap} {mg : Str → Option Value} (X : K.In h) (G : h.Ns mainGlobals mg) (cb : bx K = true) (c : He.SaysD fa fn K) : Facts K mg where
  d312 := by
    obtain ⟨fd, F⟩ := c.def_ 0 (d := e312) rfl
    exact ⟨_, fd, F, He.glo_ok X G (c.fact 0 (f := .glo "is_number") rfl)⟩
  d316 := by
    obtain ⟨fd, F⟩ := c.def_ 1 (d := e316) rfl
    exact ⟨_, fd, F, He.glo_ok X G (c.fact 1 (f := .glo "is_road") rfl)⟩
  d410 := by
    obtain ⟨fd, F⟩ := c.def_ 2 (d := e410) rfl
    exact ⟨_, fd, F, He.glo_ok X G (c.fact 2 (f := .glo "reached") rfl)⟩
  d395 := by
    obtain ⟨fd, F⟩ := c.def_ 3 (d := e395) rfl
    exact ⟨_, fd, F, He.glo_ok X G (c.fact 3 (f := .glo "neighbours") rfl)⟩
  d319 := by
    obtain ⟨fd, F⟩ := c.def_ 4 (d := e319) rfl
    exact ⟨_, fd, F, He.glo_ok X G (c.fact 4 (f := .glo "is_tree") rfl)⟩
  d385 := by
    obtain ⟨fd, F⟩ := c.def_ 5 (d := e385) rfl
    exact ⟨_, fd, F, He.glo_ok X G (c.fact 5 (f := .glo "leaves_of") rfl)⟩
  d384 := by
    obtain ⟨fd, F⟩ := c.def_ 6 (d := e384) rfl
    exact ⟨_, fd, F, He.glo_ok X G (c.fact 6 (f := .glo "leaves") rfl)⟩
  d28 := by
    obtain ⟨fd, F⟩ := c.def_ 7 (d := e28) rfl
    exact ⟨_, fd, F, He.glo_ok X G (c.fact 7 (f := .glo "_law_cell_at") rfl)⟩
  d24 := by
    obtain ⟨fd, F⟩ := c.def_ 8 (d := e24) rfl
    exact ⟨_, fd, F, He.glo_ok X G (c.fact 8 (f := .glo "_law_box") rfl)⟩
  d238 := by
    obtain ⟨fd, F⟩ := c.def_ 9 (d := e238) rfl
    exact ⟨_, fd, F, He.glo_ok X G (c.fact 9 (f := .glo "_law_take") rfl)⟩
  d110 := by
    obtain ⟨fd, F⟩ := c.def_ 10 (d := e110) rfl
    exact ⟨_, fd, F, He.glo_ok X G (c.fact 10 (f := .glo "_law_of") rfl)⟩
  d213 := by
    obtain ⟨fd, F⟩ := c.def_ 11 (d := e213) rfl
    exact ⟨_, fd, F, He.glo_ok X G (c.fact 11 (f := .glo "_law_same") rfl)⟩
  d230 := by
    obtain ⟨fd, F⟩ := c.def_ 12 (d := e230) rfl
    exact ⟨_, fd, F, He.glo_ok X G (c.fact 12 (f := .glo "_law_strewn") rfl)⟩
  d87 := by
    obtain ⟨fd, F⟩ := c.def_ 13 (d := e87) rfl
    exact ⟨_, fd, F, He.glo_ok X G (c.fact 13 (f := .glo "_law_lists") rfl)⟩
  d71 := by
    obtain ⟨fd, F⟩ := c.def_ 14 (d := e71) rfl
    exact ⟨_, fd, F, He.glo_ok X G (c.fact 14 (f := .glo "_law_is_int") rfl)⟩
  d90 := by
    obtain ⟨fd, F⟩ := c.def_ 15 (d := e90) rfl
    exact ⟨_, fd, F, He.glo_ok X G (c.fact 15 (f := .glo "_law_mates") rfl)⟩
  d274 := by
    obtain ⟨fd, F⟩ := c.def_ 16 (d := e274) rfl
    exact ⟨_, fd, F, He.glo_ok X G (c.fact 16 (f := .glo "_law_wood") rfl)⟩
  d13 := by
    obtain ⟨fd, F⟩ := c.def_ 17 (d := e13) rfl
    exact ⟨_, fd, F, He.glo_ok X G (c.fact 17 (f := .glo "_law_bent") rfl)⟩
  d77 := by
    obtain ⟨fd, F⟩ := c.def_ 18 (d := e77) rfl
    exact ⟨_, fd, F, He.glo_ok X G (c.fact 18 (f := .glo "_law_is_wood") rfl)⟩
  d148 := by
    obtain ⟨fd, F⟩ := c.def_ 19 (d := e148) rfl
    exact ⟨_, fd, F, He.glo_ok X G (c.fact 19 (f := .glo "_law_right") rfl)⟩
  d324 := by
    obtain ⟨fd, F⟩ := c.def_ 20 (d := e324) rfl
    exact ⟨_, fd, F, He.glo_ok X G (c.fact 20 (f := .glo "law") rfl)⟩
  m_abs := He.free_ok X G (c.fact 21 (f := .free "abs") rfl)
  m_all := He.free_ok X G (c.fact 22 (f := .free "all") rfl)
  m_bool := He.free_ok X G (c.fact 23 (f := .free "bool") rfl)
  m_int := He.free_ok X G (c.fact 24 (f := .free "int") rfl)
  m_isinstance := He.free_ok X G (c.fact 25 (f := .free "isinstance") rfl)
  m_len := He.free_ok X G (c.fact 26 (f := .free "len") rfl)
  m_list := He.free_ok X G (c.fact 27 (f := .free "list") rfl)
  m_max := He.free_ok X G (c.fact 28 (f := .free "max") rfl)
  m_min := He.free_ok X G (c.fact 29 (f := .free "min") rfl)
  m_range := He.free_ok X G (c.fact 30 (f := .free "range") rfl)
  m_repr := He.free_ok X G (c.fact 31 (f := .free "repr") rfl)
  m_set := He.free_ok X G (c.fact 32 (f := .free "set") rfl)
  m_sorted := He.free_ok X G (c.fact 33 (f := .free "sorted") rfl)
  m_str := He.free_ok X G (c.fact 34 (f := .free "str") rfl)
  m_tuple := He.free_ok X G (c.fact 35 (f := .free "tuple") rfl)
  m_zip := He.free_ok X G (c.fact 36 (f := .free "zip") rfl)
  w_is_tree_thing := by
    obtain ⟨fd, F⟩ := c.def_ 4 (d := e319) rfl
    exact MP.kwOk_of F (He.glo_ok X G (c.fact 4 (f := .glo "is_tree") rfl)) fun _ _ _ _ _ _ ws hl => match ws, hl with | [_], _ => rfl
  w_leaves_tree := by
    obtain ⟨fd, F⟩ := c.def_ 6 (d := e384) rfl
    exact MP.kwOk_of F (He.glo_ok X G (c.fact 6 (f := .glo "leaves") rfl)) fun _ _ _ _ _ _ ws hl => match ws, hl with | [_], _ => rfl
end K01

namespace K01
open PySem PySem.Spec MP
theorem tr0 {M I k : Nat} {y : D} (h : vD M I k y) : ∀ n S, callN B (n + 1) 71 [y] S = .ok (.v (.bl (isI y))) S := fun n S => isint_any5 (B := B) (n := n) rfl h
local macro_rules | `(tactic| simp! only [$xs,*] $[$l:location]?) => `(tactic| simp only [bun_0, bun_1, bun_2, bun_3, bun_4, bun_5, bun_6, sv_at, sv_ta, sv_it, sv_ti, sv_dt, sv_df, sv_ft, sv_nt, sv_nn, sv_tt, sv_fn, sv_c0, sv_c1, sv_c2, sv_c3, sv_c4, sv_c5, sv_c6, sv_dT, sv_dF, sv_nT, sv_nF, sv_ifT, sv_ifF, sv_iP, sv_iQ, reduceDIte, reduceIte, reduceCtorEq, Nat.reduceEqDiff, Nat.reduceGT, Nat.reduceSubDiff, Nat.reduceMod, Nat.reduceAdd, Nat.reduceBNe, Nat.reduceLeDiff, Nat.reduceSub, Nat.reduceDiv, Nat.reduceMul, Nat.reduceBEq, Nat.reduceSucc, Nat.reduceLT, Nat.reducePow, Int.reduceGE, Int.reduceToNat, Int.reduceEq, Int.reduceOfNat, Int.reduceGT, Int.reducePow, Int.reduceDiv, Int.reduceMul, Int.reduceBEq, Int.reduceNe, Int.reduceSub, Int.reduceLT, Int.reduceNeg, Int.reduceBNe, Int.reduceAdd, Int.reduceLE, Int.reduceMod, Int.reduceNegSucc, $xs,*] $[$l:location]?)
/-- the law's check of each road -/
theorem link_loop {n M I k : Nat} {i : Int} {l0 : D} {S : Sto} {N : PN} {T : PT} {K C : PN} (h0 : ∀ S, fIx l0 (.int 0) S = .ok (.v (.int i)) S) (l : List D) (l2 : ∀ e ∈ l, vD M I k e) (v1 : Sl)
    (hN : ∀ v1, l.all (rdV i) = true → N [.va l0, v1, .no, .no, .no, .no, .no, .no, .no, .no] S) (hT : l.all (rdV i) = false → T (.v (.bl false)) S) :
    okO (forL (.nm 1) (dSeqS
  (dIfS (dOrT (dNotT (dB (fz (dBlt bIsi (dCons (dBVar 1) (dCons (dC (.ty "tuple")) dNil)))))) (dOrT (dB (fz (dOp fNe (fz (dBlt bLen (dCons (dBVar 1) dNil))) (dC (.int 2))))) (dNotT (dB (fz (dBlt bAll (dCons (fz (dComp (dSeq (dBVar 1)) [9] (.nm 9) dYes (fz (dCall (callN B (n + 1)) 71 (dCons (dVar 9) dNil))))) dNil))))))) (dRet (rv (dC (.bl false)))) dSkip)
  (dIfS (dNotT (dB (dChain3 fLe fLt fLt (dC (.int 0)) (fz (dOp fIx (dBVar 1) (dC (.int 0)))) (fz (dOp fIx (dBVar 1) (dC (.int 1)))) (fz (dOp fIx (dBVar 0) (dC (.int 0))))))) (dRet (rv (dC (.bl false)))) dSkip)) l [.va l0, v1, .no, .no, .no, .no, .no, .no, .no, .no] S) N T K C := by
  have it : ∀ (l : List D) S, bIsi [.tup l, .ty "tuple"] S = .ok (.v (.bl true)) S := fun l S => rfl
  rw [show l = l.map id from (List.map_id _).symm]
  refine ok_for0 [1] l id (fun j vs S' => (∃ a, vs = [a]) ∧ S' = S ∧ (l.take j).all (rdV i) = true) [_] rfl ⟨⟨_, rfl⟩, rfl, rfl⟩ ?_ ?_
  · rintro N2 K2 T2 hK hT2 j e vs S' hx ⟨⟨a, rfl⟩, rfl, ha⟩ hN2
    have hm := List.mem_of_getElem? hx
    have nall : rdV i e = false → l.all (rdV i) = false := fun h => by
      cases z : l.all (rdV i) with
      | false => rfl
      | true =>
        have := List.all_eq_true.mp z e hm
        rw [h] at this; cases this
    have go : rdV i e = true → N2 (setL [.va l0, v1, .no, .no, .no, .no, .no, .no, .no, .no] [1] [.va e]) S' := fun h => hN2 [.va e] _ ⟨⟨_, rfl⟩, rfl, by
      rw [List.take_add_one, hx, List.all_append, ha]
      show (true && (rdV i e && true)) = true
      rw [h]
      rfl⟩
    have hc := rd_cases (l2 e hm)
    refine ok_seqG fun N3 hN3 => ?_
    cases hc with
    | nt x h =>
      simp! only [id, h]
      exact hT2 _ _ (hT (nall (rdV_nt h)))
    | len l h =>
      simp! only [id, it, h]
      exact hT2 _ _ (hT (nall (rdV_len h)))
    | ni a b ha' hb h =>
      have na := tr0 ha' n
      have nb := tr0 hb n
      simp! only [id, it]
      refine ok_compA [a, b] id (fun e => .bl (isI e)) (by simp! only [List.map_id]) (show 2 ≤ 100000 by decide) (fun e he => ?_) ?_
      · simp only [List.mem_cons, List.not_mem_nil, or_false] at he
        rcases he with rfl | rfl <;> simp! only [id, na, nb]
      · have f : [a, b].all isI = false := by
          show (isI a && (isI b && true)) = false
          rcases h with h | h <;> rw [h] <;> simp
        simp! only [bAll_map, f]
        exact hT2 _ _ (hT (nall (rdV_ni h)))
    | lk x =>
      have na : ∀ (i : Int) S, callN B (n + 1) 71 [.int i] S = .ok (.v (.bl true)) S := fun i S => tr0 (M := 0) (I := i.natAbs) (k := 0) (y := .int i) (Nat.le_refl _) n S
      have e2 : lkD x = .tup [.int x.1, .int x.2] := rfl
      have e : rdV i (.tup [.int x.1, .int x.2]) = (decide (0 ≤ x.1) && (decide (x.1 < x.2) && decide (x.2 < i))) := rfl
      simp only [e2] at go nall
      rw [e] at go nall
      simp! only [id, it, e2]
      refine ok_compA [D.int x.1, D.int x.2] id (fun _ => .bl true) (by simp! only [List.map_id]) (show 2 ≤ 100000 by decide) (fun e he => ?_) ?_
      · simp only [List.mem_cons, List.not_mem_nil, or_false] at he
        rcases he with rfl | rfl <;> simp! only [id, na]
      · have al : ∀ S, bAll [.lst ([D.int x.1, D.int x.2].map fun _ => D.bl true)] S = .ok (.v (.bl true)) S := fun S => rfl
        simp! only [al]
        refine hN3 _ _ ?_
        by_cases c0 : 0 ≤ x.1
        · by_cases c1 : x.1 < x.2
          · by_cases c2 : x.2 < i
            · simp! only [c0, c1, c2, h0]
              exact go (by simp [c0, c1, c2])
            · simp! only [c0, c1, c2, h0]
              exact hT2 _ _ (hT (nall (by simp [c2])))
          · simp! only [c0, c1]
            exact hT2 _ _ (hT (nall (by simp [c1])))
        · simp! only [c0]
          exact hT2 _ _ (hT (nall (by simp [c0])))
  · rintro vs S' ⟨⟨a, rfl⟩, rfl, ha⟩
    rw [List.take_length] at ha
    exact hN a ha
def gD (g : List Int) : D := .lst (g.map D.int)
theorem at0 {c : Int} {G : List (List Int)} (p : Part c G) {x : Int} (x0 : 0 ≤ x) (x1 : x < c) (S : Sto) : fIx (.lst ((G.filter fun g => decide (x ∈ g)).map gD)) (.int 0) S = .ok (.v (gD (grAt G x))) S := by
  obtain ⟨g, hg, hx⟩ := p.cov x x0 x1
  have hm : g ∈ G.filter fun g => decide (x ∈ g) := List.mem_filter.mpr ⟨hg, decide_eq_true hx⟩
  unfold grAt
  cases e : G.filter fun g => decide (x ∈ g) with
  | nil => rw [e] at hm; cases hm
  | cons a l => rfl
theorem ne_g (a b : List Int) (S : Sto) : fNe (gD a) (gD b) S = .ok (.v (.bl (!decide (a = b)))) S := fNe_il a b S
theorem in_g (x : Int) (g : List Int) (S : Sto) : fIn (.int x) (gD g) S = .ok (.v (.bl (decide (x ∈ g)))) S := fIn_lst x g S
theorem add_g (a b : List Int) (h : a.length + b.length ≤ 100000) (S : Sto) : fAdd (gD a) (gD b) S = .ok (.o (.l ((a ++ b).map D.int))) S := by
  show fAdd (.lst (a.map D.int)) (.lst (b.map D.int)) S = _
  rw [add_l (by rw [List.length_map, List.length_map]; exact h), List.map_append]
theorem part_small {c : Nat} {G : List (List Int)} (p : Part (c : Int) G) : G.length ≤ c := by
  have h := nodup_sub_len (l := G.map fun g => g.headD 0) (m := rng c) (by
    rw [List.Nodup, List.pairwise_map]
    refine p.dis.imp_of_mem fun {a b} ha hb h e => ?_
    cases a with
    | nil => exact p.ne _ ha rfl
    | cons x l =>
      cases b with
      | nil => exact p.ne _ hb rfl
      | cons y l' =>
        have e : x = y := e
        exact h x List.mem_cons_self (e ▸ List.mem_cons_self)) fun x hx => by
    obtain ⟨g, hg, rfl⟩ := List.mem_map.mp hx
    cases g with
    | nil => exact absurd rfl (p.ne _ hg)
    | cons y l => exact mem_rng.mpr (p.inr _ hg y List.mem_cons_self)
  rw [List.length_map, rng_len] at h
  exact h
structure PartN (c : Nat) (G : List (List Int)) : Prop where
  p : Part (c : Int) G
  n : ∀ g ∈ G, g.Nodup
theorem PartN.len {c : Nat} {G : List (List Int)} (p : PartN c G) {g : List Int} (hg : g ∈ G) : g.length ≤ c := too_many (p.n g hg) (p.p.inr g hg)
theorem PartN.join {c : Nat} {G : List (List Int)} (p : PartN c G) {l : Lk} (a0 : 0 ≤ l.1) (a1 : l.1 < c) (b0 : 0 ≤ l.2) (b1 : l.2 < c) (n : l.2 ∉ grAt G l.1) : PartN c (grJoin G l) := by
  refine ⟨(p.p.join a0 a1 b0 b1 n).1, fun g hg => ?_⟩
  obtain ⟨m1, m2⟩ := p.p.at_ a0 a1
  obtain ⟨i1, i2⟩ := p.p.at_ b0 b1
  rcases List.mem_append.mp hg with hg | hg
  · exact p.n g (List.mem_filter.mp hg).1
  · rw [List.mem_singleton.mp hg]
    refine List.nodup_append.mpr ⟨p.n _ m1, p.n _ i1, fun a ha b hb e => ?_⟩
    subst e
    have := dis_eq p.p.dis m1 i1 ha hb
    exact n (this ▸ i2)
theorem ones_partN (c : Nat) : PartN c (ones c) := ⟨ones_part c, fun g hg => by
  obtain ⟨x, _, rfl⟩ := List.mem_map.mp hg
  simp⟩
/-- the law's judgement of roads -/
theorem sp_wood_rows {n c : Nat} {S : Sto} {L : List Lk} (hl : L.length + 1 = c) (hc : c ≤ 60) (hr : ∀ l ∈ L, 0 ≤ l.1 ∧ l.1 < l.2 ∧ l.2 < (c : Int)) :
    callN B (n + 2) 77 [.tup [.int c, .tup (L.map lkD)]] S = .ok (.v (.bl (decide (L = srt L) && noRing (ones c) L))) S := by
  have na : ∀ (i : Int) S, callN B (n + 1) 71 [.int i] S = .ok (.v (.bl true)) S := fun i S => tr0 (M := 0) (I := i.natAbs) (k := 0) (y := .int i) (Nat.le_refl _) n S
  have i0 : ∀ S, fIx (.tup [.int c, .tup (L.map lkD)]) (.int 0) S = .ok (.v (.int c)) S := fun S => rfl
  have i1 : ∀ S, fIx (.tup [.int c, .tup (L.map lkD)]) (.int 1) S = .ok (.v (.tup (L.map lkD))) S := fun S => rfl
  have all : (L.map lkD).all (rdV (c : Int)) = true := by
    rw [List.all_eq_true]
    intro x hx
    obtain ⟨l, hm, rfl⟩ := List.mem_map.mp hx
    exact okRd_iff.mpr (hr l hm)
  have lv : ∀ e ∈ L.map lkD, vD 60 60 2 e := fun e he => by
    obtain ⟨l, hm, rfl⟩ := List.mem_map.mp he
    have := hr l hm
    refine vD_tup (show 2 ≤ 60 by decide) fun x hx => ?_
    simp only [List.mem_cons, List.not_mem_nil, or_false] at hx
    rcases hx with rfl | rfl <;> exact vD_int (by omega)
  have c1 : ¬ ((c : Int) < 1) := by omega
  have c2 : ((L.length : Int) = (c : Int) - 1) = True := eq_true (by omega)
  have bl : ∀ (x : List D) S, bList [.tup x] S = .ok (.o (.l x)) S := fun x S => rfl
  have so : ∀ S, bSorted [.tup (L.map lkD)] S = .ok (.o (.l ((srt L).map lkD))) S := fun S => by
    show (if sortOk (L.map lkD) = true then Res.ok (R.o (.l (dSort (L.map lkD)))) S else .bad) = _
    rw [if_pos (sortOk_lks (by omega)), dSort_lks]
  have ne : ∀ S, fNe (.lst (L.map lkD)) (.lst ((srt L).map lkD)) S = .ok (.v (.bl (!decide (L = srt L)))) S := fun S => fNe_lks L (srt L) S
  refine eq_of_ok (ok_call (show B 77 = some q__law_is_wood from rfl) rfl ?_)
  unfold b__law_is_wood
  refine ok_seqG fun N1 hN1 => ?_
  simp! only [na, c1, decide_false]
  refine hN1 _ _ ?_
  refine ok_seqG fun N1 hN1 => ?_
  simp! only [c2, decide_true]
  refine hN1 _ _ ?_
  refine ok_seqG fun N1 hN1 => ?_
  simp! only []
  refine link_loop (n := n) (i := (c : Int)) i0 _ lv _ (fun v1 _ => hN1 _ _ ?_) fun h => by rw [all] at h; cases h
  refine ok_seqG fun N1 hN1 => ?_
  by_cases e : L = srt L
  · have dt : decide (L = srt L) = true := decide_eq_true e
    simp! only [bl, so, ne, dt, Bool.not_true]
    refine hN1 _ _ ?_
    refine ok_seqG fun N1 hN1 => ?_
    simp! only []
    refine ok_compA (rng c) D.int (fun x => .lst [.int x]) ?_ (by rw [rng_len]; omega) (fun x _ => ?_) ?_
    · simp! only []
      rw [rg1_i _ (by omega)]
      simp! only [rangeD_rng]
    · simp! only []
    have e0 : ((rng c).map fun x => D.lst [.int x]) = (ones c).map gD := by
      unfold ones
      rw [List.map_map]
      rfl
    simp! only [e0]
    refine hN1 _ _ ?_
    refine ok_seqG fun N1 hN1 => ?_
    simp! only []
    refine ok_for0 [2, 3, 4, 5, 6] L lkD (fun j vs S' => S' = S ∧ ∃ (G : List (List Int)) (v3 v4 v5 v6 : Sl), vs = [.ow (.l (G.map gD)), v3, v4, v5, v6] ∧ PartN c G ∧ noRing (ones c) L = noRing G (L.drop j)) [.ow (.l ((ones c).map gD)), .no, .no, .no, .no] rfl ⟨rfl, _, _, _, _, _, rfl, ones_partN c, rfl⟩ ?_ ?_
    · rintro N2 K2 T2 hK hT j l vs S' hx ⟨rfl, G, v3, v4, v5, v6, rfl, pn, hG⟩ hN2
      obtain ⟨hj, ex⟩ := List.getElem?_eq_some_iff.mp hx
      have hm := List.mem_of_getElem? hx
      have r := hr l hm
      have p := pn.p
      have dr : L.drop j = l :: L.drop (j + 1) := by rw [List.drop_eq_getElem_cons hj, ex]
      rw [dr, show noRing G (l :: L.drop (j + 1)) = if l.2 ∈ grAt G l.1 then false else noRing (grJoin G l) (L.drop (j + 1)) from rfl] at hG
      have a1 := at0 p (x := l.1) (by omega) (by omega)
      have a2 := at0 p (x := l.2) (by omega) (by omega)
      have gl := part_small p
      have m1 := (p.at_ (x := l.1) (by omega) (by omega)).1
      have m2 := (p.at_ (x := l.2) (by omega) (by omega)).1
      have ad : ∀ S, fAdd (gD (grAt G l.1)) (gD (grAt G l.2)) S = .ok (.o (.l ((grAt G l.1 ++ grAt G l.2).map D.int))) S := fun S => add_g _ _ (by have := pn.len m1; have := pn.len m2; omega) S
      refine ok_seqG fun N3 hN3 => ?_
      simp! only [lkD]
      refine ok_comp G gD (fun g => decide (l.1 ∈ g)) gD ?_ (by omega) (fun g _ => ?_) ?_
      · simp! only []
      · simp! only [in_g]
      simp! only [a1]
      refine hN3 _ _ ?_
      refine ok_seqG fun N3 hN3 => ?_
      by_cases ci : l.2 ∈ grAt G l.1
      · rw [if_pos ci] at hG
        simp! only [in_g, ci]
        refine hT _ _ ?_
        rw [hG, Bool.and_false]
        exact ⟨rfl, rfl⟩
      · rw [if_neg ci] at hG
        simp! only [in_g, ci]
        refine hN3 _ _ ?_
        refine ok_seqG fun N3 hN3 => ?_
        simp! only []
        refine ok_comp G gD (fun g => decide (l.2 ∈ g)) gD ?_ (by omega) (fun g _ => ?_) ?_
        · simp! only []
        · simp! only [in_g]
        simp! only [a2]
        refine hN3 _ _ ?_
        simp! only []
        refine ok_comp G gD (fun g => decide (g ≠ grAt G l.1) && decide (g ≠ grAt G l.2)) gD ?_ (by omega) (fun g _ => ?_) ?_
        · simp! only []
        · have q1 : decide (g ≠ grAt G l.1) = !decide (g = grAt G l.1) := decide_not
          have q2 : decide (g ≠ grAt G l.2) = !decide (g = grAt G l.2) := decide_not
          have n1 : ∀ S, fNe (gD g) (gD (grAt G l.1)) S = .ok (.v (.bl (!decide (g = grAt G l.1)))) S := fun S => ne_g _ _ S
          have n2 : ∀ S, fNe (gD g) (gD (grAt G l.2)) S = .ok (.v (.bl (!decide (g = grAt G l.2)))) S := fun S => ne_g _ _ S
          rw [q1, q2]
          generalize decide (g = grAt G l.1) = d1 at n1 ⊢
          generalize decide (g = grAt G l.2) = d2 at n2 ⊢
          cases d1 <;> cases d2 <;> simp! only [n1, n2, Bool.not_true, Bool.not_false, Bool.and_true, Bool.and_false]
        have ad2 : ∀ S, fAdd (.lst ((G.filter fun g => decide (g ≠ grAt G l.1) && decide (g ≠ grAt G l.2)).map gD)) (.lst [.lst ((grAt G l.1 ++ grAt G l.2).map D.int)]) S = .ok (.o (.l ((grJoin G l).map gD))) S := fun S => by
          rw [add_l (by rw [List.length_map]; have := List.length_filter_le (fun g => decide (g ≠ grAt G l.1) && decide (g ≠ grAt G l.2)) G; show _ + 1 ≤ _; omega)]
          unfold grJoin
          rw [List.map_append (f := gD)]
          rfl
        simp! only [ad, ad2]
        refine hN2 [_, _, _, _, _] _ ⟨rfl, _, _, _, _, _, rfl, pn.join (by omega) (by omega) (by omega) (by omega) ci, hG⟩
    · rintro vs S' ⟨rfl, G, v3, v4, v5, v6, rfl, pn, hG⟩
      rw [List.drop_length] at hG
      refine hN1 _ _ ?_
      have hG : noRing (ones c) L = true := hG
      simp! only [hG, dt, Bool.and_true]
  · have df : decide (L = srt L) = false := decide_eq_false e
    simp! only [bl, so, ne, df, Bool.not_false, Bool.false_and]
section
variable {M I k : Nat} {x : D}
local macro_rules | `(tactic| simp! only [$xs,*] $[$l:location]?) => `(tactic| simp only [bun_0, bun_1, bun_2, bun_3, bun_4, bun_5, bun_6, sv_at, sv_ta, sv_it, sv_ti, sv_dt, sv_df, sv_ft, sv_nt, sv_nn, sv_tt, sv_fn, sv_c0, sv_c1, sv_c2, sv_c3, sv_c4, sv_c5, sv_c6, sv_dT, sv_dF, sv_nT, sv_nF, sv_ifT, sv_ifF, sv_iP, sv_iQ, reduceDIte, reduceIte, reduceCtorEq, Nat.reduceEqDiff, Nat.reduceGT, Nat.reduceSubDiff, Nat.reduceMod, Nat.reduceAdd, Nat.reduceBNe, Nat.reduceLeDiff, Nat.reduceSub, Nat.reduceDiv, Nat.reduceMul, Nat.reduceBEq, Nat.reduceSucc, Nat.reduceLT, Nat.reducePow, Int.reduceGE, Int.reduceToNat, Int.reduceEq, Int.reduceOfNat, Int.reduceGT, Int.reducePow, Int.reduceDiv, Int.reduceMul, Int.reduceBEq, Int.reduceNe, Int.reduceSub, Int.reduceLT, Int.reduceNeg, Int.reduceBNe, Int.reduceAdd, Int.reduceLE, Int.reduceMod, Int.reduceNegSucc, $xs,*] $[$l:location]?)
theorem wood_no {n : Nat} {S : Sto} (h : TrC M I k x) (hn : ∀ i l, x ≠ .tup [.int i, .tup l]) : callN B (n + 2) 77 [x] S = .ok (.v (.bl false)) S := by
  have it : ∀ (l : List D) S, bIsi [.tup l, .ty "tuple"] S = .ok (.v (.bl true)) S := fun l S => rfl
  have nu : ∀ (i : Int) S, callN B (n + 1) 71 [.int i] S = .ok (.v (.bl true)) S := fun i S => tr0 (M := 0) (I := i.natAbs) (k := 0) (y := .int i) (Nat.le_refl _) n S
  refine eq_of_ok (ok_call (show B 77 = some q__law_is_wood from rfl) rfl ?_)
  unfold b__law_is_wood
  refine ok_seqG fun N1 hN1 => ?_
  cases h with
  | nt x h => simp! only [h]
  | len l h => simp! only [it, h]
  | ni a b ha h =>
    have na : ∀ S, callN B (n + 1) 71 [a] S = .ok (.v (.bl false)) S := fun S => by rw [← h]; exact tr0 ha n S
    simp! only [it, na]
  | lo i b h => simp! only [it, nu, h]
  | nb i b h hb =>
    have h' : ¬ i < 1 := by omega
    simp! only [it, nu, h']
    refine hN1 _ _ ?_
    refine ok_seqG fun N1 hN1 => ?_
    simp! only [hb]
  | rs i l => exact absurd rfl (hn i l)
theorem wood_bad {n : Nat} {S : Sto} {i : Int} {l : List D} (h1 : 1 ≤ i) (l2 : ∀ e ∈ l, vD M I k e) (h : ¬ (l.length : Int) = i - 1 ∨ l.all (rdV i) = false) : callN B (n + 2) 77 [.tup [.int i, .tup l]] S = .ok (.v (.bl false)) S := by
  have it : ∀ (l : List D) S, bIsi [.tup l, .ty "tuple"] S = .ok (.v (.bl true)) S := fun l S => rfl
  have nu : ∀ (i : Int) S, callN B (n + 1) 71 [.int i] S = .ok (.v (.bl true)) S := fun i S => tr0 (M := 0) (I := i.natAbs) (k := 0) (y := .int i) (Nat.le_refl _) n S
  have h' : ¬ i < 1 := by omega
  have i0 : ∀ S, fIx (.tup [.int i, .tup l]) (.int 0) S = .ok (.v (.int i)) S := fun S => rfl
  refine eq_of_ok (ok_call (show B 77 = some q__law_is_wood from rfl) rfl ?_)
  unfold b__law_is_wood
  refine ok_seqG fun N1 hN1 => ?_
  simp! only [it, nu, h']
  refine hN1 _ _ ?_
  refine ok_seqG fun N1 hN1 => ?_
  by_cases c : (l.length : Int) = i - 1
  · have al := h.resolve_left fun z => z c
    simp! only [it, c]
    refine hN1 _ _ ?_
    refine ok_seqG fun N1 hN1 => ?_
    simp! only []
    refine link_loop (n := n) (i := i) i0 _ l2 _ (fun v1 h => ?_) fun _ => ⟨rfl, rfl⟩
    rw [al] at h
    cases h
  · simp! only [it, c]
/-- the two judgements of any value -/
theorem two_tree (hM : M ≤ 50) (h : vD M I k x) : ∃ v : Bool, (∀ n S, callN B (n + 3) 77 [x] S = .ok (.v (.bl v)) S) ∧ ∀ n S, callN B (n + 3) 319 [x] S = .ok (.v (.bl v)) S := by
  have t := tr_cases h
  by_cases hn : ∀ i l, x ≠ .tup [.int i, .tup l]
  · exact ⟨false, fun n S => wood_no (n := n + 1) t hn, fun n S => sp_tree_no (B := B) rfl rfl t hn⟩
  · have ⟨i, l, e⟩ : ∃ i l, x = .tup [.int i, .tup l] := Classical.byContradiction fun z => hn fun i l e => z ⟨i, l, e⟩
    subst e
    have key : i < 1 ∨ (1 ≤ i ∧ l.length ≤ M ∧ ∀ e ∈ l, vD M I k e) := by
      by_cases i1 : i < 1
      · exact .inl i1
      · rcases nt_or h with z | ⟨l', e, _, l2⟩
        · have := z []
          cases this
        · injection e with e
          subst e
          have hb := l2 (.tup l) (by simp)
          rcases nt_or hb with z | ⟨l', e, l1, l2⟩
          · have := z []
            cases this
          · injection e with e
            subst e
            exact .inr ⟨by omega, l1, l2⟩
    rcases key with i1 | ⟨i1, l1, l2⟩
    · refine ⟨false, fun n S => ?_, fun n S => ?_⟩
      · have nu : ∀ (i : Int) S, callN B (n + 1 + 1) 71 [.int i] S = .ok (.v (.bl true)) S := fun i S => tr0 (M := 0) (I := i.natAbs) (k := 0) (y := .int i) (Nat.le_refl _) (n + 1) S
        refine eq_of_ok (ok_call (show B 77 = some q__law_is_wood from rfl) rfl ?_)
        unfold b__law_is_wood
        simp! only [nu, i1]
      · have nu : ∀ (p : Int) S, callN B (n + 2) 312 [.int p] S = .ok (.v (.bl true)) S := fun p S => sp_number (B := B) rfl
        refine eq_of_ok (ok_call (show B 319 = some q_is_tree_b from rfl) rfl ?_)
        unfold b_is_tree_b
        simp! only [nu, i1]
    · by_cases g : (l.length : Int) = i - 1 ∧ l.all (rdV i) = true
      · obtain ⟨L, rfl, hL⟩ := rd_all g.2
        rw [List.length_map] at g l1
        obtain ⟨c, rfl⟩ : ∃ c : Nat, i = c := ⟨i.toNat, by omega⟩
        exact ⟨decide (L = srt L) && noRing (ones c) L, fun n S => sp_wood_rows (n := n + 1) (by omega) (by omega) hL, fun n S => sp_tree_rows (B := B) rfl rfl rfl rfl rfl (by omega) (by omega) hL⟩
      · have g2 : ¬ (l.length : Int) = i - 1 ∨ l.all (rdV i) = false := by
          by_cases z : (l.length : Int) = i - 1
          · exact .inr (Bool.eq_false_iff.mpr fun w => g ⟨z, w⟩)
          · exact .inl z
        exact ⟨false, fun n S => wood_bad (n := n + 1) i1 l2 g2, fun n S => sp_tree_bad (B := B) rfl rfl rfl i1 (by omega) l2 g2.symm⟩
end
section
variable {n c : Nat} {S : Sto} {d : D} {L : List Lk}
local macro_rules | `(tactic| simp! only [$xs,*] $[$l:location]?) => `(tactic| simp only [bun_0, bun_1, bun_2, bun_3, bun_4, bun_5, bun_6, sv_at, sv_ta, sv_it, sv_ti, sv_dt, sv_df, sv_ft, sv_nt, sv_nn, sv_tt, sv_fn, sv_c0, sv_c1, sv_c2, sv_c3, sv_c4, sv_c5, sv_c6, sv_dT, sv_dF, sv_nT, sv_nF, sv_ifT, sv_ifF, sv_iP, sv_iQ, reduceDIte, reduceIte, reduceCtorEq, Nat.reduceEqDiff, Nat.reduceGT, Nat.reduceSubDiff, Nat.reduceMod, Nat.reduceAdd, Nat.reduceBNe, Nat.reduceLeDiff, Nat.reduceSub, Nat.reduceDiv, Nat.reduceMul, Nat.reduceBEq, Nat.reduceSucc, Nat.reduceLT, Nat.reducePow, Int.reduceGE, Int.reduceToNat, Int.reduceEq, Int.reduceOfNat, Int.reduceGT, Int.reducePow, Int.reduceDiv, Int.reduceMul, Int.reduceBEq, Int.reduceNe, Int.reduceSub, Int.reduceLT, Int.reduceNeg, Int.reduceBNe, Int.reduceAdd, Int.reduceLE, Int.reduceMod, Int.reduceNegSucc, $xs,*] $[$l:location]?)
theorem sp_lvo1 (hd : SeqL d L) (hl : L.length ≤ 1000) (hc : c ≤ 1000) : callN B (n + 2) 385 [.int c, d] S = .ok (.o (.l ((lvs c L).map D.int))) S := by
  have nb : ∀ (p : Int) S, callN B (n + 1) 395 [d, .int p] S = .ok (.o (.l ((mates L p).map D.int))) S := fun p S => sp_neigh (B := B) rfl hd (by omega)
  refine eq_of_ok (ok_call (show B 385 = some q_leaves_of from rfl) rfl ?_)
  unfold b_leaves_of
  simp! only []
  refine ok_comp (rng c) D.int (fun v => decide (((mates L v).length : Int) = 1)) D.int ?_ (by rw [rng_len]; omega) (fun v _ => ?_) ?_
  · simp! only []
    rw [rg1_i _ (by omega)]
    simp! only [rangeD_rng]
  · simp! only [nb]
  · simp! only []
    rfl
theorem sp_lv1 (hd : SeqL d L) (hl : L.length ≤ 1000) (hc : c ≤ 1000) : callN B (n + 3) 384 [.tup [.int c, d]] S = .ok (.o (.l ((lvs c L).map D.int))) S := by
  have lo : ∀ S, callN B (n + 2) 385 [.int c, d] S = .ok (.o (.l ((lvs c L).map D.int))) S := fun S => sp_lvo1 hd hl hc
  refine eq_of_ok (ok_call (show B 384 = some q_leaves from rfl) rfl ?_)
  unfold b_leaves
  simp! only [lo]
theorem sp_lv2 (hd : SeqL d L) (hl : L.length ≤ 1000) (hc : c ≤ 1000) : callN B (n + 3) 384 [.lst [.int c, d]] S = .ok (.o (.l ((lvs c L).map D.int))) S := by
  have lo : ∀ S, callN B (n + 2) 385 [.int c, d] S = .ok (.o (.l ((lvs c L).map D.int))) S := fun S => sp_lvo1 hd hl hc
  refine eq_of_ok (ok_call (show B 384 = some q_leaves from rfl) rfl ?_)
  unfold b_leaves
  simp! only [lo]
theorem sp_listsT {c : Int} (hl : L.length ≤ 1000) : callN B (n + 4) 87 [.tup [.int c, .tup (L.map lkD)]] S = .ok (.o (.l [.int c, .lst (L.map lkLD)])) S := by
  have a1 : ∀ (n : Nat) (x : Int) S, callN B (n + 1) 87 [.int x] S = .ok (.v (.int x)) S := fun n x S => by
    refine eq_of_ok (ok_call (show B 87 = some q__law_lists from rfl) rfl ?_)
    unfold b__law_lists
    simp! only []
  have a3 : ∀ (n : Nat) (x : Lk) S, callN B (n + 2) 87 [lkD x] S = .ok (.o (.l [.int x.1, .int x.2])) S := fun n x S => by
    refine eq_of_ok (ok_call (show B 87 = some q__law_lists from rfl) rfl ?_)
    unfold b__law_lists
    simp! only [lkD]
    refine ok_compA [D.int x.1, .int x.2] id id (by simp! only [List.map_id]) (show 2 ≤ 100000 by decide) (fun y hy => ?_) ?_
    · simp only [List.mem_cons, List.not_mem_nil, or_false] at hy
      rcases hy with rfl | rfl <;> simp! only [a1, id]
    · simp! only [List.map_id]
  have a4 : ∀ (n : Nat) S, callN B (n + 3) 87 [.tup (L.map lkD)] S = .ok (.o (.l (L.map lkLD))) S := fun n S => by
    refine eq_of_ok (ok_call (show B 87 = some q__law_lists from rfl) rfl ?_)
    unfold b__law_lists
    simp! only []
    refine ok_compA L lkD lkLD (by simp! only []) (by omega) (fun y hy => ?_) ?_
    · simp! only [a3, lkLD]
    · simp! only []
  refine eq_of_ok (ok_call (show B 87 = some q__law_lists from rfl) rfl ?_)
  unfold b__law_lists
  simp! only []
  refine ok_compA [(D.int c, D.int c), (.tup (L.map lkD), .lst (L.map lkLD))] (·.1) (·.2) (by simp! only [List.map_cons, List.map_nil]) (show 2 ≤ 100000 by decide) (fun y hy => ?_) ?_
  · simp only [List.mem_cons, List.not_mem_nil, or_false] at hy
    rcases hy with rfl | rfl <;> simp! only [a1, a4]
  · simp! only [List.map_cons, List.map_nil]
end
/-- values as the law lists them, told by a check -/
def vB (L I : Nat) : Nat → D → Bool
  | _, .non => true
  | _, .bl _ => true
  | _, .int i => decide (i.natAbs ≤ I)
  | _, .str x => PyData.strOk x && decide (x.length ≤ 1921)
  | n + 1, .tup l => decide (l.length ≤ L) && l.all (vB L I n)
  | n + 1, .lst l => decide (l.length ≤ L) && l.all (vB L I n)
  | _, _ => false
theorem vB_ok {L I : Nat} : ∀ {n : Nat} {d : D}, vB L I n d = true → vD L I n d := by
  intro n
  induction n with
  | zero =>
    intro d h
    cases d with
    | non => exact vD_non
    | bl b => exact vD_bl
    | int i => exact vD_int (of_decide_eq_true (p := i.natAbs ≤ I) h)
    | str x =>
      have h : (PyData.strOk x && decide (x.length ≤ 1921)) = true := h
      rw [Bool.and_eq_true, decide_eq_true_eq] at h
      exact vD_str h
    | _ => exact absurd h Bool.false_ne_true
  | succ n ih =>
    intro d h
    cases d with
    | non => exact vD_non
    | bl b => exact vD_bl
    | int i => exact vD_int (of_decide_eq_true (p := i.natAbs ≤ I) h)
    | str x =>
      have h : (PyData.strOk x && decide (x.length ≤ 1921)) = true := h
      rw [Bool.and_eq_true, decide_eq_true_eq] at h
      exact vD_str h
    | tup l =>
      have h : (decide (l.length ≤ L) && l.all (vB L I n)) = true := h
      rw [Bool.and_eq_true, decide_eq_true_eq] at h
      exact vD_tup h.1 fun e he => ih (List.all_eq_true.mp h.2 e he)
    | lst l =>
      have h : (decide (l.length ≤ L) && l.all (vB L I n)) = true := h
      rw [Bool.and_eq_true, decide_eq_true_eq] at h
      exact vD_lst h.1 fun e he => ih (List.all_eq_true.mp h.2 e he)
    | _ => exact absurd h Bool.false_ne_true
theorem app2 {a b : List D} {P : D → Prop} (h1 : ∀ d ∈ a, P d) (h2 : ∀ d ∈ b, P d) : ∀ d ∈ a ++ b, P d := fun d hd => (List.mem_append.mp hd).elim (h1 d) (h2 d)
def I0 : Nat := 1000000000000000000000000000000
abbrev Pw (d : D) : Prop := vD 8 I0 3 d ∧ wD d ≤ 40000
abbrev Pm (d : D) : Prop := vD 10 (I0 + 1 + 1) 5 d ∧ wD d ≤ 400000
theorem up {d : D} (h : Pw d) : Pm d := ⟨vD_mono (by decide) (by omega) (by decide) h.1, by have := h.2; omega⟩
theorem consts {l : List D} (h : (l.all fun d => vB 8 I0 3 d && decide (wD d ≤ 40000)) = true) : ∀ d ∈ l, Pw d := fun d hd => by
  have := List.all_eq_true.mp h d hd
  rw [Bool.and_eq_true, decide_eq_true_eq] at this
  exact ⟨vB_ok this.1, this.2⟩
/-- roads of few towns -/
structure Rl (c : Nat) (L : List Lk) : Prop where
  c9 : c ≤ 9
  l8 : L.length ≤ 8
  rr : ∀ l ∈ L, 0 ≤ l.1 ∧ l.1 < (c : Int) ∧ 0 ≤ l.2 ∧ l.2 < (c : Int)
section
variable {c : Nat} {L : List Lk}
theorem Rl.lk (h : Rl c L) {n : Nat} : ∀ e ∈ L.map lkD, vD 8 I0 (n + 1) e ∧ wD e ≤ 3849 := fun e he => by
  obtain ⟨l, hm, rfl⟩ := List.mem_map.mp he
  have := h.rr l hm
  have := h.c9
  refine ⟨vD_tup (show 2 ≤ 8 by decide) fun x hx => ?_, by show 3 + (1921 + 2 + (1921 + 2 + 0)) ≤ 3849; omega⟩
  simp only [List.mem_cons, List.not_mem_nil, or_false] at hx
  rcases hx with rfl | rfl <;> exact vD_int (Nat.le_trans (show _ ≤ 10 by omega) (by decide))
theorem Rl.sub (h : Rl c L) {l : List D} (hl : l.length ≤ 8) (hs : ∀ e ∈ l, e ∈ L.map lkD) {n : Nat} : vD 8 I0 (n + 2) (.tup l) ∧ wD (.tup l) ≤ 31000 := by
  refine ⟨vD_tup hl fun e he => (h.lk e (hs e he)).1, ?_⟩
  have := wDs_le (c := 3849) (l := l) fun e he => (h.lk (n := 0) e (hs e he)).2
  have : l.length * (3849 + 2) ≤ 8 * (3849 + 2) := Nat.mul_le_mul_right _ hl
  show 3 + wDs l ≤ _
  omega
theorem Rl.two (h : Rl c L) {l : List D} {i : Int} (hi : i.natAbs ≤ 100) (hl : l.length ≤ 8) (hs : ∀ e ∈ l, e ∈ L.map lkD) : Pw (.tup [.int i, .tup l]) := by
  obtain ⟨a, b⟩ := h.sub hl hs (n := 0)
  refine ⟨vD_tup (show 2 ≤ 8 by decide) fun x hx => ?_, ?_⟩
  · simp only [List.mem_cons, List.not_mem_nil, or_false] at hx
    rcases hx with rfl | rfl
    · exact vD_int (Nat.le_trans hi (by decide))
    · exact a
  · show 3 + (1921 + 2 + (wD (.tup l) + 2 + 0)) ≤ _
    omega
def A0 (c : Nat) (L : List Lk) : List D := [.tup [.int c, .tup (L.map lkD)], .lst [.int c, .tup (L.map lkD)], .lst [.int c, .lst (L.map lkLD)], .tup (L.map lkD), .tup [.int ((c : Int) + 1), .tup (L.map lkD)], .tup [.int c, .tup (L.map lkD).reverse]]
theorem a0_ok (h : Rl c L) : ∀ d ∈ A0 c L, Pw d := by
  intro d hd
  have hc := h.c9
  have hl := h.l8
  simp only [A0, List.mem_cons, List.not_mem_nil, or_false] at hd
  have ll : (L.map lkD).length ≤ 8 := by rw [List.length_map]; exact hl
  rcases hd with rfl | rfl | rfl | rfl | rfl | rfl
  · exact h.two (by omega) ll fun e he => he
  · have z := h.two (i := c) (by omega) ll fun e he => he
    exact ⟨vD_lst z.1.1 z.1.2, z.2⟩
  · refine ⟨vD_lst (show 2 ≤ 8 by decide) fun x hx => ?_, ?_⟩
    · simp only [List.mem_cons, List.not_mem_nil, or_false] at hx
      rcases hx with rfl | rfl
      · exact vD_int (Nat.le_trans (show _ ≤ 10 by omega) (by decide))
      · refine vD_lst (by rw [List.length_map]; exact hl) fun e he => ?_
        obtain ⟨l, hm, rfl⟩ := List.mem_map.mp he
        have := (h.lk (n := 0) (lkD l) (List.mem_map.mpr ⟨l, hm, rfl⟩)).1
        exact vD_lst this.1 this.2
    · have := wDs_le (c := 3849) (l := L.map lkLD) fun e he => by
        obtain ⟨l, hm, rfl⟩ := List.mem_map.mp he
        show 3 + (1921 + 2 + (1921 + 2 + 0)) ≤ 3849
        omega
      rw [List.length_map] at this
      have : L.length * (3849 + 2) ≤ 8 * (3849 + 2) := Nat.mul_le_mul_right _ hl
      show 3 + (1921 + 2 + (3 + wDs (L.map lkLD) + 2 + 0)) ≤ _
      omega
  · obtain ⟨a, b⟩ := h.sub ll (fun e he => he) (n := 1)
    exact ⟨a, by omega⟩
  · exact h.two (by omega) ll fun e he => he
  · exact h.two (by omega) (by rw [List.length_reverse]; exact ll) fun e he => List.mem_reverse.mp he
theorem cut_mem {l : List D} {a b : Option Int} {e : D} (h : e ∈ cutD l a b) : e ∈ l := List.mem_of_mem_drop (List.mem_of_mem_take h)
theorem cut_len (l : List D) (a b : Option Int) : (cutD l a b).length ≤ l.length := by
  unfold cutD
  rw [List.length_take, List.length_drop]
  omega
def A1 (c : Nat) (L : List Lk) : List D := [.tup [.int c, .tup (cutD (L.map lkD) (some 1) none)], .tup [], .lst [], .non]
theorem a1_ok (h : Rl c L) : ∀ d ∈ A1 c L, Pw d := by
  intro d hd
  have hc := h.c9
  have hl := h.l8
  simp only [A1, List.mem_cons, List.not_mem_nil, or_false] at hd
  rcases hd with rfl | rfl | rfl | rfl
  · refine h.two (by omega) ?_ fun e he => cut_mem he
    have := cut_len (L.map lkD) (some 1) none
    rw [List.length_map] at this
    omega
  · exact consts (l := [.tup []]) (by decide +kernel) _ (by simp)
  · exact consts (l := [.lst []]) (by decide +kernel) _ (by simp)
  · exact consts (l := [.non]) (by decide +kernel) _ (by simp)
end
abbrev tw (a b : Int) : D := .tup [.int a, .int b]
def A2 : List D := [.tup [.int 1, .tup []], .tup [.int 0, .tup []], .tup [.int 1, .lst []], .tup [.bl true, .tup []], .tup [.int 2, .tup [tw 0 1]], .tup [.int 2, .tup [tw 1 0]]]
def A3 : List D := [.tup [.int 2, .tup [.tup [.bl false, .bl true]]], .int 0, .str "2 0-1"]
def A4 : List D := [.tup [.int 3, .tup [tw 0 1, tw 0 1]], .tup [.int 3, .tup [tw 0 1, tw 1 2]], .tup [.int 4, .tup [tw 0 1, tw 0 2, tw 1 2]]]
def A5 : List D := [.tup [.int 4, .tup [tw 0 1, tw 0 1, tw 2 3]]]
def A6 : List D := [.tup [.int 2, .tup [tw 0 1, tw 0 1]], .tup [.int 3, .tup [tw 0 1, tw 2 2]], .tup [.int 3, .tup [tw 0 1, tw 1 3]], .tup [.int 2, .tup [.lst [.int 0, .int 1]]]]
def A7 : List D := [.tup [.int 2, .tup [.tup [.int 0, .int 1, .int 1]]]]
def A8 : List D := [.tup [.int 3, .tup [tw 0 1, tw 0 2, tw 1 2]], .tup [.int 2, .tup [tw (-1) 0]]]
theorem c_ok : ∀ d ∈ A2 ++ A3 ++ A4 ++ A5 ++ A6 ++ A7 ++ A8, Pw d := consts (by decide +kernel)
theorem cut_last (l : List D) (x : D) : cutD (l ++ [x]) none (some (-1)) = l := by
  have e : HT.sIx (l ++ [x]).length (l ++ [x]).length (some (-1)) = l.length := by
    show (if (-1 : Int) < 0 then ((((l ++ [x]).length : Nat) : Int) + -1).toNat else min (-1 : Int).toNat (l ++ [x]).length) = _
    rw [if_pos (by decide), List.length_append]
    show ((((l.length + 1 : Nat)) : Int) + -1).toNat = _
    omega
  unfold cutD
  rw [e]
  show ((l ++ [x]).drop 0).take (l.length - 0) = l
  rw [List.drop_zero, Nat.sub_zero, List.take_left' rfl]
def rvT : D → Sto → Res R := fun d S1 => match d with
  | .lst xs => .ok (.o (.l xs.reverse)) S1
  | .tup xs => .ok (.v (.tup xs.reverse)) S1
  | _ => .bad
theorem ev_rev (de : DE) (env : Envm) (S : Sto) : dRev de env S = (de env S).bind rvT := rfl
theorem rv_t (l : List D) (S : Sto) : rvT (.tup l) S = .ok (.v (.tup l.reverse)) S := rfl
theorem bRepr_ok {d : D} (h : repOk d = true) (S : Sto) : bRepr [d] S = .ok (.v (.str (shownD d))) S := by
  show (if repOk d = true then Res.ok (R.v (.str (shownD d))) S else .bad) = _
  rw [if_pos h]
theorem sam_2 (v : Bool) : samOk 1 (.lst [.bl v, .bl v]) = true := by cases v <;> rfl
theorem pm_rep {d : D} (h : Pm d) : repOk d = true :=
  rep_ok (vD_sh (Nat.lt_of_lt_of_le (show I0 + 1 + 1 < 2 ^ 200 by decide +kernel) (Nat.pow_le_pow_right (by decide) (by decide))) (vD_mono (Nat.le_refl _) (Nat.le_refl _) (by decide) h.1)) (Nat.le_trans h.2 (by decide))
theorem bl2 (I : Nat) (h : I ≤ I0 + 1) : I < 2 ^ 1800 := Nat.lt_of_le_of_lt h (Nat.lt_of_lt_of_le (show I0 + 1 < 2 ^ 200 by decide +kernel) (Nat.pow_le_pow_right (by decide) (by decide)))
local macro_rules | `(tactic| simp! only [$xs,*] $[$l:location]?) => `(tactic| simp only [bun_0, bun_1, bun_2, bun_3, bun_4, bun_5, bun_6, sv_at, sv_ta, sv_it, sv_ti, sv_dt, sv_df, sv_ft, sv_nt, sv_nn, sv_tt, sv_fn, sv_c0, sv_c1, sv_c2, sv_c3, sv_c4, sv_c5, sv_c6, sv_dT, sv_dF, sv_nT, sv_nF, sv_ifT, sv_ifF, sv_iP, sv_iQ, reduceDIte, reduceIte, reduceCtorEq, Nat.reduceEqDiff, Nat.reduceGT, Nat.reduceSubDiff, Nat.reduceMod, Nat.reduceAdd, Nat.reduceBNe, Nat.reduceLeDiff, Nat.reduceSub, Nat.reduceDiv, Nat.reduceMul, Nat.reduceBEq, Nat.reduceSucc, Nat.reduceLT, Nat.reducePow, Int.reduceGE, Int.reduceToNat, Int.reduceEq, Int.reduceOfNat, Int.reduceGT, Int.reducePow, Int.reduceDiv, Int.reduceMul, Int.reduceBEq, Int.reduceNe, Int.reduceSub, Int.reduceLT, Int.reduceNeg, Int.reduceBNe, Int.reduceAdd, Int.reduceLE, Int.reduceMod, Int.reduceNegSucc, $xs,*] $[$l:location]?)
theorem right {n b k : Nat} {S : Sto} (hb : Bx S b (k + 12000)) : ∃ S', callN B (n + 14) 148 [.loc b] S = .ok (.v (.bl true)) S' ∧ Bx S' b k := by
  obtain ⟨r0, S1, a1, a2, a3, a4⟩ := sp_take (B := B) (n := n + 12) (m := 9) (k := k + 10000) (S := S) rfl (hb.mono (by omega)) (by decide) (by decide)
  have a1 : callN B (n + 13) 238 [.loc b, .int 9] S = .ok (.v (.int r0)) S1 := a1
  obtain ⟨c, ec⟩ : ∃ c : Nat, 1 + r0 = c := ⟨(1 + r0).toNat, by omega⟩
  have c9 : c ≤ 9 := by omega
  obtain ⟨L, S2, b1, b2, b3, b4⟩ := sp_wood (B := B) (n := n + 10) (c := c) (k := k + 9900) (S := S1) rfl rfl rfl (by omega) (by omega) (a4.mono (by omega))
  have b1 : callN B (n + 13) 274 [.loc b, .int c] S1 = .ok (.v (.tup [.int c, .tup (L.map lkD)])) S2 := b1
  have hr : Rl c L := ⟨c9, by omega, fun l hl => by have := b2.inr l hl; omega⟩
  suffices hh : okE (callN B (n + 14) 148 [.loc b] S) fun x S' => x = .v (.bl true) ∧ Bx S' b k by
    obtain ⟨x, S', e1, rfl, h2⟩ := hh
    exact ⟨_, e1, h2⟩
  have ma : ∀ (p : Int) S, callN B (n + 13) 90 [.tup (L.map lkD), .int p] S = .ok (.o (.l ((mates L p).map D.int))) S := fun p S => sp_mates (B := B) rfl (.tup _) (by omega)
  have lv : ∀ S, callN B (n + 13) 384 [.tup [.int c, .tup (L.map lkD)]] S = .ok (.o (.l ((lvs c L).map D.int))) S := fun S => sp_lv1 (n := n + 10) (.tup L) (by omega) (by omega)
  have lv2 : ∀ S, callN B (n + 13) 384 [.lst [.int c, .lst (L.map lkLD)]] S = .ok (.o (.l ((lvs c L).map D.int))) S := fun S => sp_lv2 (n := n + 10) (.lls L) (by omega) (by omega)
  have li : ∀ S, callN B (n + 13) 87 [.tup [.int c, .tup (L.map lkD)]] S = .ok (.o (.l [.int c, .lst (L.map lkLD)])) S := fun S => sp_listsT (n := n + 9) (by omega)
  refine ok_call (show B 148 = some q__law_right_k01 from rfl) rfl ?_
  unfold b__law_right_k01
  refine ok_seqG fun N1 hN1 => ?_
  simp! only [a1, ec, b1]
  refine hN1 _ _ ?_
  refine ok_seqG fun N1 hN1 => ?_
  simp! only []
  refine hN1 _ _ ?_
  refine ok_seqG fun N1 hN1 => ?_
  simp! only []
  refine ok_comp (rng c) D.int (fun v => decide (((mates L v).length : Int) = 1)) D.int ?_ (by rw [rng_len]; omega) (fun v _ => ?_) ?_
  · simp! only []
    rw [rg1_i _ (by omega)]
    simp! only [rangeD_rng]
  · simp! only [ma]
  have el : ((rng c).filter fun v => decide (((mates L v).length : Int) = 1)) = lvs c L := rfl
  simp! only [el]
  refine hN1 _ _ ?_
  refine ok_seqG fun N1 hN1 => ?_
  simp! only [lv]
  refine hN1 _ _ ?_
  refine ok_seqG fun N1 hN1 => ?_
  have ll : (lvs c L).length ≤ c := by
    have := List.length_filter_le (fun v => decide (((mates L v).length : Int) = 1)) (rng c)
    rw [rng_len] at this
    exact this
  have nW : noLoc (.tup [.int c, .tup (L.map lkD)]) = true := nl_cons rfl (nl_cons (d := .tup _) (nl_lks L) rfl)
  have nF : noLocs ((lvs c L).map D.int) = true := nl_ints _
  have lW : ∀ S, lendSl S (.va (.tup [.int c, .tup (L.map lkD)])) = .va (.tup [.int c, .tup (L.map lkD)]) := fun S => lendSl_id nW
  have lD : ∀ S, lendSl S (.va (.lst ((lvs c L).map D.int))) = .va (.lst ((lvs c L).map D.int)) := fun S => lendSl_id (d := .lst _) nF
  have l3 : lendSl (S2 ++ [O.l ((lvs c L).map D.int)]) (.va (.loc S2.length)) = .va (.lst ((lvs c L).map D.int)) := lend_loc (top_at _ _) nF
  have sam : ∀ S, callN B (n + 13) 213 [.lst [.lst ((lvs c L).map D.int), .lst ((lvs c L).map D.int)], .lst [.lst ((lvs c L).map D.int), .lst ((lvs c L).map D.int)]] S = .ok (.v (.bl true)) S := fun S => sp_same (B := B) (n := n + 9) rfl 3 _ S (sam_lst (show 2 ≤ 100000 by decide) fun e he => by
    simp only [List.mem_cons, List.not_mem_nil, or_false, or_self] at he
    rw [he]
    exact sam_lst (by rw [List.length_map]; omega) fun d hd => by
      obtain ⟨x, _, rfl⟩ := List.mem_map.mp hd
      rfl)
  simp! only [lW, lD, l3, li, lv2, sam]
  refine hN1 _ _ ?_
  refine ok_seqG fun N1 hN1 => ?_
  refine ok_mut1L (n := S2.length) (d := .str "more") (ds := (lvs c L).map D.int) rfl (by simp! only []) (top_at _ _) (by rw [List.length_map]; omega) ?_
  have bx0 : BxF S2.length (O.l ((lvs c L).map D.int ++ [D.str "more"])) ((S2 ++ [O.l ((lvs c L).map D.int)]).set S2.length (O.l ((lvs c L).map D.int ++ [D.str "more"]))) b (k + 9000) := by
    have lt := b4.lt
    refine ⟨((b4.app _).put (by omega) _).mono (by omega), ?_, by omega⟩
    rw [List.getElem?_set_self (by rw [List.length_append]; show _ < _ + 1; omega)]
  generalize (S2 ++ [O.l ((lvs c L).map D.int)]).set S2.length (O.l ((lvs c L).map D.int ++ [D.str "more"])) = S3 at *
  refine hN1 _ _ ?_
  have bl : ∀ (l : List D) S, bList [.tup l] S = .ok (.o (.l l)) S := fun l S => rfl
  refine ok_seqG fun N1 hN1 => ?_
  simp! only [bl, li, ev_rev, rv_t]
  refine hN1 _ _ ?_
  have e0 : A0 c L = [.tup [.int c, .tup (L.map lkD)], .lst [.int c, .tup (L.map lkD)], .lst [.int c, .lst (L.map lkLD)], .tup (L.map lkD), .tup [.int ((c : Int) + 1), .tup (L.map lkD)], .tup [.int c, .tup (L.map lkD).reverse]] := rfl
  have k0 := a0_ok hr
  have l0 : (A0 c L).length ≤ 6 := Nat.le_refl _
  rw [← e0]
  clear e0
  generalize A0 c L = m0 at *
  refine ok_seqG fun N1 hN1 => ?_
  have ad : ∀ S, fAdd (.lst m0) (.lst [.tup [.int c, .tup (cutD (L.map lkD) (some 1) none)], .tup [], .lst [], .non]) S = .ok (.o (.l (m0 ++ A1 c L))) S := fun S => add_l (show _ + 4 ≤ 100000 by omega) S
  simp! only [ad]
  refine hN1 _ _ ?_
  have k0 := app2 k0 (a1_ok hr)
  have l0 : (m0 ++ A1 c L).length ≤ 10 := by rw [List.length_append]; show _ + 4 ≤ _; omega
  generalize m0 ++ A1 c L = m1 at *
  have kc := c_ok
  refine ok_seqG fun N1 hN1 => ?_
  have ad : ∀ S, fAdd (.lst m1) (.lst [.tup [.int 1, .tup []], .tup [.int 0, .tup []], .tup [.int 1, .lst []], .tup [.bl true, .tup []], .tup [.int 2, .tup [tw 0 1]], .tup [.int 2, .tup [tw 1 0]]]) S = .ok (.o (.l (m1 ++ A2))) S := fun S => add_l (show _ + 6 ≤ 100000 by omega) S
  simp! only [ad]
  refine hN1 _ _ ?_
  have k0 := app2 k0 (b := A2) fun d hd => kc d (by simp [hd])
  have l0 : (m1 ++ A2).length ≤ 16 := by rw [List.length_append]; show _ + 6 ≤ _; omega
  generalize m1 ++ A2 = m2 at *
  refine ok_seqG fun N1 hN1 => ?_
  have ad : ∀ S, fAdd (.lst m2) (.lst [.tup [.int 2, .tup [.tup [.bl false, .bl true]]], .int 0, .str "2 0-1"]) S = .ok (.o (.l (m2 ++ A3))) S := fun S => add_l (show _ + 3 ≤ 100000 by omega) S
  simp! only [ad]
  refine hN1 _ _ ?_
  have k0 := app2 k0 (b := A3) fun d hd => kc d (by simp [hd])
  have l0 : (m2 ++ A3).length ≤ 19 := by rw [List.length_append]; show _ + 3 ≤ _; omega
  generalize m2 ++ A3 = m3 at *
  refine ok_seqG fun N1 hN1 => ?_
  have ad : ∀ S, fAdd (.lst m3) (.lst [.tup [.int 3, .tup [tw 0 1, tw 0 1]], .tup [.int 3, .tup [tw 0 1, tw 1 2]], .tup [.int 4, .tup [tw 0 1, tw 0 2, tw 1 2]]]) S = .ok (.o (.l (m3 ++ A4))) S := fun S => add_l (show _ + 3 ≤ 100000 by omega) S
  simp! only [ad]
  refine hN1 _ _ ?_
  have k0 := app2 k0 (b := A4) fun d hd => kc d (by simp [hd])
  have l0 : (m3 ++ A4).length ≤ 22 := by rw [List.length_append]; show _ + 3 ≤ _; omega
  generalize m3 ++ A4 = m4 at *
  refine ok_seqG fun N1 hN1 => ?_
  have ad : ∀ S, fAdd (.lst m4) (.lst [.tup [.int 4, .tup [tw 0 1, tw 0 1, tw 2 3]]]) S = .ok (.o (.l (m4 ++ A5))) S := fun S => add_l (show _ + 1 ≤ 100000 by omega) S
  simp! only [ad]
  refine hN1 _ _ ?_
  have k0 := app2 k0 (b := A5) fun d hd => kc d (by simp [hd])
  have l0 : (m4 ++ A5).length ≤ 23 := by rw [List.length_append]; show _ + 1 ≤ _; omega
  generalize m4 ++ A5 = m5 at *
  refine ok_seqG fun N1 hN1 => ?_
  have ad : ∀ S, fAdd (.lst m5) (.lst [.tup [.int 2, .tup [tw 0 1, tw 0 1]], .tup [.int 3, .tup [tw 0 1, tw 2 2]], .tup [.int 3, .tup [tw 0 1, tw 1 3]], .tup [.int 2, .tup [.lst [.int 0, .int 1]]]]) S = .ok (.o (.l (m5 ++ A6))) S := fun S => add_l (show _ + 4 ≤ 100000 by omega) S
  simp! only [ad]
  refine hN1 _ _ ?_
  have k0 := app2 k0 (b := A6) fun d hd => kc d (by simp [hd])
  have l0 : (m5 ++ A6).length ≤ 27 := by rw [List.length_append]; show _ + 4 ≤ _; omega
  generalize m5 ++ A6 = m6 at *
  refine ok_seqG fun N1 hN1 => ?_
  have ad : ∀ S, fAdd (.lst m6) (.lst [.tup [.int 2, .tup [.tup [.int 0, .int 1, .int 1]]]]) S = .ok (.o (.l (m6 ++ A7))) S := fun S => add_l (show _ + 1 ≤ 100000 by omega) S
  simp! only [ad]
  refine hN1 _ _ ?_
  have k0 := app2 k0 (b := A7) fun d hd => kc d (by simp [hd])
  have l0 : (m6 ++ A7).length ≤ 28 := by rw [List.length_append]; show _ + 1 ≤ _; omega
  generalize m6 ++ A7 = m7 at *
  refine ok_seqG fun N1 hN1 => ?_
  have ad : ∀ S, fAdd (.lst m7) (.lst [.tup [.int 3, .tup [tw 0 1, tw 0 2, tw 1 2]], .tup [.int 2, .tup [tw (-1) 0]]]) S = .ok (.o (.l (m7 ++ A8))) S := fun S => add_l (show _ + 2 ≤ 100000 by omega) S
  simp! only [ad]
  refine hN1 _ _ ?_
  have k0 := app2 k0 (b := A8) fun d hd => kc d (by simp [hd])
  have l0 : (m7 ++ A8).length ≤ 30 := by rw [List.length_append]; show _ + 2 ≤ _; omega
  generalize m7 ++ A8 = m8 at *
  clear kc
  refine ok_seqG fun N1 hN1 => ?_
  simp! only []
  rw [rg1_i _ (by decide)]
  simp! only []
  rw [show rangeD 0 14 = (rng 14).map D.int from rfl]
  have w0 : Pw (.tup [.int c, .tup (L.map lkD)]) := a0_ok hr _ (by simp [A0])
  refine ok_for0 [4, 5, 9] (rng 14) D.int (fun i vs S' => i ≤ 14 → ∃ v5 v9 ds, vs = [.ow (.l ds), v5, v9] ∧ (∀ d ∈ ds, Pm d) ∧ ds.length ≤ 30 + i ∧ BxF S2.length (O.l ((lvs c L).map D.int ++ [D.str "more"])) S' b (k + (14 - i) * 20)) [.ow (.l m8), .no, .no] rfl (fun _ => ⟨_, _, _, rfl, fun d hd => up (k0 d hd), l0, bx0.mono (by omega)⟩) ?_ ?_
  · rintro N2 K2 T2 hK hT i x vs S' hx hI hN2
    obtain ⟨hi, rfl⟩ := rng_succ_get hx
    obtain ⟨v5, v9, ds, rfl, kd, ld, bx⟩ := hI (by omega)
    obtain ⟨r, S4, g1, ⟨g2, g2'⟩, g3⟩ := sp_bentF (B := B) (b := b) (L := 8) (I := I0) rfl rfl rfl (by decide) (by decide) (Nat.le_refl _) (bl2 _ (Nat.le_succ _)) 3 (n + 7) (k + (14 - (i + 1)) * 20 + 11) S' _ w0.1 (bx.mono (by omega))
    have g1 : callN B (n + 13) 13 [.loc b, .tup [.int c, .tup (L.map lkD)]] S' = .ok r S4 := g1
    have w1 := w0.2
    obtain ⟨t, S5, h1, h2, h3, h4⟩ := sp_takeF (B := B) (n := n + 12) (m := 3) (k := k + (14 - (i + 1)) * 20 + 10) (S := S4) rfl g3 (by decide) (by decide)
    have h1 : callN B (n + 13) 238 [.loc b, .int 3] S4 = .ok (.v (.int t)) S5 := h1
    obtain ⟨q, S6, p1, ⟨p2, p2'⟩, p3⟩ := sp_bentF (B := B) (b := b) (L := 9) (I := I0 + 1) rfl rfl rfl (by decide) (by decide) (Nat.le_succ _) (bl2 _ (Nat.le_refl _)) 4 (n + 6) (k + (14 - (i + 1)) * 20) S5 _ g2 h4
    have p1 : callN B (n + 13) 13 [.loc b, r.val] S5 = .ok q S6 := p1
    have fin : ∀ (d : D) (v : Sl) S7, Pm d → BxF S2.length (O.l ((lvs c L).map D.int ++ [D.str "more"])) S7 b (k + (14 - (i + 1)) * 20) → N2 (setL [.va (.loc b), .va (.tup [.int c, .tup (L.map lkD)]), .va (.lst ((lvs c L).map D.int)), .va (.loc S2.length), .no, .no, .no, .va (.int c), .va (.tup (L.map lkD)), .no, .no, .no] [4, 5, 9] [.ow (.l (ds ++ [d])), .va (.int (i : Nat)), v]) S7 := fun d v S7 hd h7 => hN2 [_, _, _] _ fun _ => ⟨_, _, _, rfl, app2 kd fun e he => by rw [List.mem_singleton.mp he]; exact hd, by rw [List.length_append]; show _ + 1 ≤ _; omega, h7⟩
    refine ok_seqG fun N3 hN3 => ?_
    by_cases ct : t = 0
    · cases r with
      | v d =>
        have p1 : callN B (n + 13) 13 [.loc b, d] S5 = .ok q S6 := p1
        simp! only [g1]
        refine hN3 _ _ ?_
        simp! only [h1, ct, p1]
        rw [app_ok (by omega)]
        simp! only []
        exact fin _ _ _ ⟨p2, by omega⟩ p3
      | o x =>
        have p1 : callN B (n + 13) 13 [.loc b, x.toD] S5 = .ok q S6 := p1
        simp! only [g1]
        refine hN3 _ _ ?_
        simp! only [h1, ct, p1]
        rw [app_ok (by omega)]
        simp! only []
        exact fin _ _ _ ⟨p2, by omega⟩ p3
    · cases r with
      | v d =>
        simp! only [g1]
        refine hN3 _ _ ?_
        simp! only [h1, ct]
        rw [app_ok (by omega)]
        simp! only []
        have g4 : wD d ≤ 2 * wD (.tup [.int c, .tup (L.map lkD)]) + 40000 := g2'
        exact fin _ _ _ ⟨vD_mono (by decide) (Nat.le_succ _) (by decide) g2, by omega⟩ (h4.mono (by omega))
      | o x =>
        simp! only [g1]
        refine hN3 _ _ ?_
        simp! only [h1, ct]
        rw [app_ok (by omega)]
        simp! only []
        have g4 : wD x.toD ≤ 2 * wD (.tup [.int c, .tup (L.map lkD)]) + 40000 := g2'
        exact fin _ _ _ ⟨vD_mono (by decide) (Nat.le_succ _) (by decide) g2, by omega⟩ (h4.mono (by omega))
  · rintro vs S' hI
    rw [rng_len] at hI
    obtain ⟨v5, v9, ds, rfl, kd, ld, bx⟩ := hI (Nat.le_refl _)
    refine hN1 _ _ ?_
    refine ok_seqG fun N1 hN1 => ?_
    simp! only []
    rw [show ds = ds.map id from (List.map_id _).symm]
    refine ok_for0 [2, 6, 11] ds id (fun i vs S4 => (∃ a1 a2 a3, vs = [a1, a2, a3]) ∧ S4 = S') [_, _, _] rfl ⟨⟨_, _, _, rfl⟩, rfl⟩ ?_ ?_
    · rintro N4 K4 T4 hK hT i d vs S4 hx ⟨⟨v1, v2, v3, rfl⟩, rfl⟩ hN4
      have hd : Pm d := kd d (List.mem_of_getElem? hx)
      have rp : ∀ S, bRepr [d] S = .ok (.v (.str (shownD d))) S := fun S => bRepr_ok (pm_rep hd) S
      have nes : ∀ (x : Str) S, fNeS (.str x) (.str x) S = .ok (.v (.bl false)) S := fun x S => by
        show Res.ok (R.v (D.bl (!decide (x = x)))) S = _
        rw [decide_eq_true rfl]
        rfl
      obtain ⟨v, o1, o2⟩ := two_tree (by decide) hd.1
      have o1 : ∀ S, callN B (n + 13) 77 [d] S = .ok (.v (.bl v)) S := fun S => o1 (n + 10) S
      have o2 : ∀ S, callN B (n + 13) 319 [d] S = .ok (.v (.bl v)) S := fun S => o2 (n + 10) S
      have sm : ∀ S, callN B (n + 13) 213 [.lst [.bl v, .bl v], .lst [.bl v, .bl v]] S = .ok (.v (.bl true)) S := fun S => sp_same (B := B) (n := n + 11) rfl 1 _ S (sam_2 v)
      refine ok_seqG fun N7 hN7 => ?_
      simp! only [id, rp, o1]
      refine hN7 _ _ ?_
      simp! only [o2, sm, rp, nes]
      exact hN4 [_, _, _] _ ⟨⟨_, _, _, rfl⟩, rfl⟩
    · rintro vs S4 ⟨⟨v1, v2, v3, rfl⟩, rfl⟩
      refine hN1 _ _ ?_
      have nM : noLocs ((lvs c L).map D.int ++ [D.str "more"]) = true := nl_app nF rfl
      have l3 : lendSl S4 (.va (.loc S2.length)) = .va (.lst ((lvs c L).map D.int ++ [D.str "more"])) := lend_loc bx.kp nM
      have fe : ∀ S, fEq (.lst ((lvs c L).map D.int)) (.lst ((lvs c L).map D.int)) S = .ok (.v (.bl true)) S := fun S => by rw [fEq_il, decide_eq_true rfl]
      simp! only [lW, l3, lv, cut_last, fe]
      exact bx.bx.mono (by omega)
theorem plain (ns : List Int) (hl : ns.length ≤ 63) : ∃ S', callN B 60 324 [.scr ns] [] = .ok (.v (.bl true)) S' :=
  lawC (B := B) (rid := 148) (T := 3) (u := 12000) (t := 3) (r := 3) (by decide) (by decide) hl rfl (by decide) rfl rfl (show B 324 = some q_law_k01 from rfl) (by decide) fun S b k h => right (n := 45) h
end K01

open PySem PySem.W PySem.Calls PyProof.Rows
theorem PySem.Challenge.cw_lastroads_k01_trees_or_not_holds : PySem.Challenge.rw_lastroads_k01_trees_or_not.Holds := by
  w_on; o_law
  refine HandSHeadRun.head_any (r := OpenLaw.row PySem.Challenge.rw_lastroads_k01_trees_or_not) (q := view (OpenLaw.row PySem.Challenge.rw_lastroads_k01_trees_or_not).prog [22]) (H := K01.hk) (ob := K01.ob) (M := 4000) (loose := K01.names) (d := HandSHeadRun.topDef (OpenLaw.row PySem.Challenge.rw_lastroads_k01_trees_or_not).prog 22) (kwd := []) K01.ob_eq
    (by kernel_rfl) (fun s => by kernel_rfl) K01.run (by kernel_rfl) (by kernel_rfl) (by kernel_rfl) (by rfl) (by first | assumption | decide +kernel) (by decide +kernel) ⟨rfl, rfl, rfl, rfl, rfl, by decide +kernel⟩ ?hw ?hc
  case hw => w_witness2
  case hc =>
    refine MP.walk_g (l := PySem.Challenge.rw_lastroads_k01_trees_or_not) (n := 63) (k := 63) (x := "_law_script") (CX := L2.CX0) rfl (by decide) (by kernel_rfl) ⟨rfl, by decide, by decide⟩ ?F (fun _ _ _ _ z => z)
    intro w mg fa h Y G hmg0
    obtain ⟨K, KX, cb, c⟩ := Y
    have hmg : mg ("law" : PySem.Str) = some (.ref fa) := by
      have e : (HandSHeadRun.topDef (OpenLaw.row PySem.Challenge.rw_lastroads_k01_trees_or_not).prog 22).name = ("law" : PySem.Str) := by kernel_rfl
      rw [← e]
      exact hmg0
    have fc := K01.facts KX G cb c
    obtain ⟨a0, fd0, F0, g0⟩ := fc.d324
    have hb := L2.FunD.bindsA (ps := ["_law_script"]) F0 fun _ _ _ _ _ _ us hl => match us, hl with | [_], _ => rfl
    have hall := fun base => MP.all_ok (P := PySem.Challenge.rw_lastroads_k01_trees_or_not.prog) (w := w) (base := base) (K01.defs_ok fc) 59
    obtain rfl : a0 = fa := by
      rw [hmg] at g0
      cases g0
      rfl
    refine ⟨K, fd0, fun vs H Q _ => MP.spC K (MP.callN K01.B 60) 324 1 vs H Q L2.E0, KX, fun s v => hb s [v] rfl, fun H a ns hl _ hS => MP.law_sp (K01.plain ns hl) hS, fun base _ _ => ?_⟩
    exact MP.fn_down (MP.fn_step (P := PySem.Challenge.rw_lastroads_k01_trees_or_not.prog) (w := w) (mg := mg) (base := base) (B := K01.B) (n := 59) (i := 324) (d := K01.q_law_k01) F0 K01.s_law rfl rfl rfl fun cdv A outer s H E gd hr => K01.p_law (hall base _ hr gd) fc.m_all fc.m_len fc.m_min fc.m_range)
