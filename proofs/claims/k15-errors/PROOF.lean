import PyProof.Rows.All
import Wide.All
import OpenK.AllK
import Wide.FinOn
import HandS.ForMost
import HandS.Walk
import HandS.HeadHook1
import HandS.ExcOwn
import HandS.Defaults
import HandS.HeadEnd
import HandS.NoneIn
import HandS.Style
import HandS.More
import HandS.TupAny
import HandS.Deep
import HandS.IsInst
import HandS.SortInts
import HandS.Wide
import HandS.Conv
import KE.SortData
import KE.DataCmp
import HandS.TupLe
import HandS.SetFor
import HandS.SortKw
import HandS.Set
import HandS.Dict
import HandS.Iter
import KE.KDictList
import KE.KDictZip
import KE.GoesEnum
import KE.GoesMore
import HandS.Zip
import HandS.HeadHook2
import HandS.Strs
import KE.KExcInit
import HandS.ExcInit
import HandS.FStr
import HandS.FStrTup
import HandS.ExcIs
import KE.KTryMore
import PyProof.ReprRoads
import HandS.TupSets
import KE.SortCalls
import HandS.Keys
import KE.KStateDown
import HandS.Head0
import HandS.Head1
import HandS.Head2
import PySem.Challenge.RW_lastroads_k15_errors_by_hand
set_option Elab.async false
set_option linter.all false
set_option maxRecDepth 100000
set_option maxHeartbeats 4000000
set_option autoImplicit false
namespace MP
open PySem PySem.Spec PyProof.Rows L2

/-! ### pure data -/
inductive D where
  | non | bl (b : Bool) | int (i : Int) | str (x : Str) | ty (n : String)
  | tup (xs : List D) | lst (xs : List D) | scr (ns : List Int) | wt (xs : List D) | loc (n : Nat)
  | dk (ks : List Key) (ds : List D) | dt (ks : List (List Key)) (ds : List D)
  | fk (ks : List Key) (ds : List D) | ft (ks : List (List Key)) (ds : List D)
  | ex (n f : Str) (x : D) | ex0 (n : Str) | cl (n : Str)
/-- what an object that may change holds -/
inductive O where
  | l (ds : List D) | k (ks : List Key) (ds : List D) | t (ks : List (List Key)) (ds : List D) | fk (ks : List Key) (ds : List D) | ft (ks : List (List Key)) (ds : List D)
def O.toD : O → D
  | .l ds => .lst ds
  | .k ks ds => .dk ks ds
  | .t ks ds => .dt ks ds
  | .fk ks ds => .fk ks ds
  | .ft ks ds => .ft ks ds
/-- a result: a value, or an object that nobody else knows -/
inductive R where
  | v (d : D) | o (x : O)
def R.val : R → D
  | .v d => d
  | .o x => x.toD
inductive Sl where
  | no | va (d : D) | ow (x : O)
abbrev Envm := List Sl
abbrev Sto := List O
inductive Res (α : Type) where
  | ok (a : α) (S : Sto)
  | xn (c : Nat) (x : D) (S : Sto)
  | bad
def Res.bind {α β : Type} (r : Res α) (f : α → Sto → Res β) : Res β := match r with
  | .ok a S => f a S
  | .xn c x S => .xn c x S
  | .bad => .bad
def Res.map {α β : Type} (r : Res α) (f : α → β) : Res β := match r with
  | .ok a S => .ok (f a) S
  | .xn c x S => .xn c x S
  | .bad => .bad
abbrev Calls := Nat → List D → Sto → Res R
abbrev DE := Envm → Sto → Res D
abbrev DR := Envm → Sto → Res R
abbrev DA := Envm → Sto → Res (List D)
abbrev DT := Envm → Sto → Res Bool
inductive Out where
  | nx (e : Envm) (S : Sto) | rt (r : R) (S : Sto) | bk (e : Envm) (S : Sto) | ct (e : Envm) (S : Sto) | xn (c : Nat) (x : D) (S : Sto) | bad
abbrev DS := Envm → Sto → Out

/-! ### what stands for what -/
/-- an exception of the class at C, its dict at d -/
def exT (a C : Addr) (d : Option Addr) : HO := .ext fun h => ∃ vs sl, h.get? a = some ({ cls := .ref C, dict := d, data := .fields vs, slots := sl } : Obj)
section
variable (K : PySem.W.Frag) (G : Hp) (r : List Addr)
mutual
inductive Rep : D → V → Prop
  | non : Rep .non .non
  | bl (b : Bool) : Rep (.bl b) (.bl b)
  | int (i : Int) : Rep (.int i) (.int i)
  | str (x : Str) : Rep (.str x) (.str x)
  | ty (n : String) : Rep (.ty n) (.ty n)
  | tup {a : Addr} {xs : List V} {ds : List D} : G a = some (.tup xs) → RepL ds xs → Rep (.tup ds) (.ref a)
  | wt {a : Addr} {xs : List V} {ds : List D} : SqT K G a xs → RepL ds xs → Rep (.wt ds) (.ref a)
  | lst {a : Addr} {xs : List V} {ds : List D} : G a = some (.lst xs) → RepL ds xs → Rep (.lst ds) (.ref a)
  | scr {a : Addr} {ns : List Int} : SqL K G a (ns.map V.int) → Rep (.scr ns) (.ref a)
  | loc {n : Nat} {a : Addr} : r[n]? = some a → Rep (.loc n) (.ref a)
  | dk {a : Addr} {ks : List Key} {ds : List D} {kvs : List (Key × V)} : G a = some (.dK kvs) → kvs.map (·.1) = ks → RepL ds (kvs.map (·.2)) → Rep (.dk ks ds) (.ref a)
  | dt {a : Addr} {ks : List (List Key)} {ds : List D} {kvs : List (List Key × V)} : G a = some (.dT kvs) → kvs.map (·.1) = ks → RepL ds (kvs.map (·.2)) → Rep (.dt ks ds) (.ref a)
  | fk {a : Addr} {o : Obj} {ks : List Key} {ds : List D} {kvs : List (Key × V)} : G a = some (.frz o (.dK kvs)) → kvs.map (·.1) = ks → RepL ds (kvs.map (·.2)) → Rep (.fk ks ds) (.ref a)
  | ft {a : Addr} {o : Obj} {ks : List (List Key)} {ds : List D} {kvs : List (List Key × V)} : G a = some (.frz o (.dT kvs)) → kvs.map (·.1) = ks → RepL ds (kvs.map (·.2)) → Rep (.ft ks ds) (.ref a)
  | ex {a d : Addr} {n f : Str} {x : D} {v : V} : G a = some (exT a (He.ga K n) (some d)) → G d = some (.xd [(f, v)]) → Rep x v → Rep (.ex n f x) (.ref a)
  | ex0 {a : Addr} {n : Str} : G a = some (exT a (He.ga K n) none) → Rep (.ex0 n) (.ref a)
  | cl {n : Str} : Rep (.cl n) (.ref (He.ga K n))
inductive RepL : List D → List V → Prop
  | nil : RepL [] []
  | cons {d : D} {x : V} {ds : List D} {xs : List V} : Rep d x → RepL ds xs → RepL (d :: ds) (x :: xs)
end
inductive RepO : O → HO → Prop
  | l {ds : List D} {xs : List V} : RepL K G r ds xs → RepO (.l ds) (.lst xs)
  | k {ks : List Key} {ds : List D} {kvs : List (Key × V)} : kvs.map (·.1) = ks → RepL K G r ds (kvs.map (·.2)) → RepO (.k ks ds) (.dK kvs)
  | t {ks : List (List Key)} {ds : List D} {kvs : List (List Key × V)} : kvs.map (·.1) = ks → RepL K G r ds (kvs.map (·.2)) → RepO (.t ks ds) (.dT kvs)
  | fk {o : Obj} {ks : List Key} {ds : List D} {kvs : List (Key × V)} : kvs.map (·.1) = ks → RepL K G r ds (kvs.map (·.2)) → RepO (.fk ks ds) (.frz o (.dK kvs))
  | ft {o : Obj} {ks : List (List Key)} {ds : List D} {kvs : List (List Key × V)} : kvs.map (·.1) = ks → RepL K G r ds (kvs.map (·.2)) → RepO (.ft ks ds) (.frz o (.dT kvs))
end

def SubH (G G' : Hp) : Prop := ∀ a o, G a = some o → G' a = some o
theorem SubH.refl (G : Hp) : SubH G G := fun _ _ h => h
theorem SubH.trans {A B C : Hp} (h : SubH A B) (k : SubH B C) : SubH A C := fun a o e => k a o (h a o e)
theorem SubH.rd {G G' : Hp} {a : Addr} {u : HO} (h : SubH G G') (k : Rd G a u) : Rd G' a u := by
  rcases k with k | ⟨o, k⟩
  · exact .inl (h _ _ k)
  · exact .inr ⟨o, h _ _ k⟩
theorem SubH.sqL {K : PySem.W.Frag} {G G' : Hp} {a : Addr} {xs : List V} (h : SubH G G') (k : SqL K G a xs) : SqL K G' a xs := by
  rcases k with k | k
  · exact .inl (h.rd k)
  · exact .inr k
theorem SubH.sqT {K : PySem.W.Frag} {G G' : Hp} {a : Addr} {xs : List V} (h : SubH G G') (k : SqT K G a xs) : SqT K G' a xs := by
  rcases k with k | k
  · exact .inl (h.rd k)
  · exact .inr k
theorem pre_get {r r' : List Addr} {n : Nat} {a : Addr} (h : r <+: r') (e : r[n]? = some a) : r'[n]? = some a := by
  obtain ⟨t, rfl⟩ := h
  obtain ⟨hn, _⟩ := List.getElem?_eq_some_iff.mp e
  rw [List.getElem?_append_left hn]
  exact e
section
variable {K : PySem.W.Frag} {G G' : Hp} {r r' : List Addr}
mutual
theorem Rep.mono (h : SubH G G') (p : r <+: r') : ∀ {d : D} {v : V}, Rep K G r d v → Rep K G' r' d v
  | .non, _, q => by cases q; exact .non
  | .bl _, _, q => by cases q; exact .bl _
  | .int _, _, q => by cases q; exact .int _
  | .str _, _, q => by cases q; exact .str _
  | .ty _, _, q => by cases q; exact .ty _
  | .tup ds, _, q => by
    cases q with
    | tup a b => exact .tup (h _ _ a) (RepL.mono h p b)
  | .wt ds, _, q => by
    cases q with
    | wt a b => exact .wt (h.sqT a) (RepL.mono h p b)
  | .lst ds, _, q => by
    cases q with
    | lst a b => exact .lst (h _ _ a) (RepL.mono h p b)
  | .scr ns, _, q => by
    cases q with
    | scr a => exact .scr (h.sqL a)
  | .loc n, _, q => by
    cases q with
    | loc a => exact .loc (pre_get p a)
  | .dk ks ds, _, q => by
    cases q with
    | dk a b c => exact .dk (h _ _ a) b (RepL.mono h p c)
  | .dt ks ds, _, q => by
    cases q with
    | dt a b c => exact .dt (h _ _ a) b (RepL.mono h p c)
  | .fk ks ds, _, q => by
    cases q with
    | fk a b c => exact .fk (h _ _ a) b (RepL.mono h p c)
  | .ft ks ds, _, q => by
    cases q with
    | ft a b c => exact .ft (h _ _ a) b (RepL.mono h p c)
  | .ex n f x, _, q => by
    cases q with
    | ex a b c => exact .ex (h _ _ a) (h _ _ b) (Rep.mono h p c)
  | .ex0 n, _, q => by
    cases q with
    | ex0 a => exact .ex0 (h _ _ a)
  | .cl n, _, q => by
    cases q with
    | cl => exact .cl
theorem RepL.mono (h : SubH G G') (p : r <+: r') : ∀ {ds : List D} {xs : List V}, RepL K G r ds xs → RepL K G' r' ds xs
  | [], _, q => by cases q; exact .nil
  | _ :: _, _, q => by
    cases q with
    | cons a b => exact .cons (Rep.mono h p a) (RepL.mono h p b)
end
theorem RepO.mono (h : SubH G G') (p : r <+: r') {x : O} {u : HO} (q : RepO K G r x u) : RepO K G' r' x u := by
  cases q with
  | l a => exact .l (a.mono h p)
  | k a b => exact .k a (b.mono h p)
  | t a b => exact .t a (b.mono h p)
  | fk a b => exact .fk a (b.mono h p)
  | ft a b => exact .ft a (b.mono h p)
theorem RepL.length : ∀ {ds : List D} {xs : List V}, RepL K G r ds xs → ds.length = xs.length
  | _, _, .nil => rfl
  | _, _, .cons _ b => by simp [RepL.length b]
theorem RepL.get : ∀ {ds : List D} {xs : List V} {i : Nat} {d : D}, RepL K G r ds xs → ds[i]? = some d → ∃ x, xs[i]? = some x ∧ Rep K G r d x
  | _, _, i, _, .nil, e => by simp at e
  | _, _, 0, _, .cons a _, e => by simp at e; subst e; exact ⟨_, rfl, a⟩
  | _, _, i + 1, d, .cons _ b, e => by
    obtain ⟨x, h1, h2⟩ := RepL.get (i := i) (d := d) b (by simpa using e)
    exact ⟨x, by simpa using h1, h2⟩
theorem RepL.getV : ∀ {ds : List D} {xs : List V} {i : Nat} {x : V}, RepL K G r ds xs → xs[i]? = some x → ∃ d, ds[i]? = some d ∧ Rep K G r d x
  | _, _, i, _, .nil, e => by simp at e
  | _, _, 0, _, .cons a _, e => by simp at e; subst e; exact ⟨_, rfl, a⟩
  | _, _, i + 1, d, .cons _ b, e => by
    obtain ⟨x, h1, h2⟩ := RepL.getV (i := i) (x := d) b (by simpa using e)
    exact ⟨x, by simpa using h1, h2⟩
theorem RepL.append : ∀ {ds es : List D} {xs ys : List V}, RepL K G r ds xs → RepL K G r es ys → RepL K G r (ds ++ es) (xs ++ ys)
  | _, _, _, _, .nil, s => s
  | _, _, _, _, .cons a b, s => .cons a (RepL.append b s)
theorem RepL.set {d : D} {x : V} (q : Rep K G r d x) : ∀ {ds : List D} {xs : List V} (i : Nat), RepL K G r ds xs → RepL K G r (ds.set i d) (xs.set i x)
  | _, _, _, .nil => .nil
  | _, _, 0, .cons _ b => .cons q b
  | _, _, i + 1, .cons a b => .cons a (RepL.set q i b)
theorem RepL.take : ∀ {ds : List D} {xs : List V} (n : Nat), RepL K G r ds xs → RepL K G r (ds.take n) (xs.take n)
  | _, _, 0, _ => .nil
  | _, _, _ + 1, .nil => .nil
  | _, _, n + 1, .cons a b => .cons a (RepL.take n b)
theorem RepL.drop : ∀ {ds : List D} {xs : List V} (n : Nat), RepL K G r ds xs → RepL K G r (ds.drop n) (xs.drop n)
  | _, _, 0, q => q
  | _, _, _ + 1, .nil => .nil
  | _, _, n + 1, .cons _ b => RepL.drop n b
theorem RepL.reverse : ∀ {ds : List D} {xs : List V}, RepL K G r ds xs → RepL K G r ds.reverse xs.reverse
  | _, _, .nil => .nil
  | _, _, .cons a b => by
    simp only [List.reverse_cons]
    exact (RepL.reverse b).append (.cons a .nil)
theorem RepL.eraseIdx : ∀ {ds : List D} {xs : List V} (n : Nat), RepL K G r ds xs → RepL K G r (ds.eraseIdx n) (xs.eraseIdx n)
  | _, _, _, .nil => .nil
  | _, _, 0, .cons _ b => b
  | _, _, n + 1, .cons a b => .cons a (RepL.eraseIdx n b)
theorem RepL.snoc {ds : List D} {xs : List V} {d : D} {x : V} (h : RepL K G r ds xs) (q : Rep K G r d x) : RepL K G r (ds ++ [d]) (xs ++ [x]) := h.append (.cons q .nil)
end

/-! ### the ghost world: G what never changes, ρ where the shared objects stand -/
structure Wd where
  G : Hp
  r : List Addr
structure Ext (W : Wd) (H : Hp) (W' : Wd) (H' : Hp) : Prop where
  g : SubH W.G W'.G
  r : W.r <+: W'.r
  gn : ∀ a, W.G a = none → W'.G a ≠ none → H a = none ∨ (a ∉ W.r ∧ ∃ xs, H a = some (.tup xs))
  rn : ∀ a, a ∈ W'.r → a ∈ W.r ∨ H a = none
  h : ∀ a o, H a = some o → a ∉ W.r → H' a = some o
  k : ∀ a o, H a = some o → ∃ o', H' a = some o'
/-- the world has grown -/
structure Gr (W W' : Wd) : Prop where
  g : SubH W.G W'.G
  r : W.r <+: W'.r
theorem Gr.refl (W : Wd) : Gr W W := ⟨SubH.refl _, List.prefix_refl _⟩
theorem Gr.trans {A B C : Wd} (h : Gr A B) (k : Gr B C) : Gr A C := ⟨h.g.trans k.g, h.r.trans k.r⟩
theorem Ext.gr {W W' : Wd} {H H' : Hp} (e : Ext W H W' H') : Gr W W' := ⟨e.g, e.r⟩
theorem Ext.refl (W : Wd) (H : Hp) : Ext W H W H :=
  ⟨SubH.refl _, List.prefix_refl _, fun a h k => absurd h k, fun a h => .inl h, fun _ _ h _ => h, fun _ o h => ⟨o, h⟩⟩
theorem Ext.trans {W W1 W2 : Wd} {H H1 H2 : Hp} (a : Ext W H W1 H1) (b : Ext W1 H1 W2 H2) : Ext W H W2 H2 := by
  have back : ∀ c, H1 c = none → H c = none := fun c e => by
    cases q : H c with
    | none => rfl
    | some o =>
      obtain ⟨o', e'⟩ := a.k c o q
      rw [e] at e'; cases e'
  refine ⟨a.g.trans b.g, a.r.trans b.r, fun c h k => ?_, fun c h => ?_, fun c o h n => ?_, fun c o h => ?_⟩
  · cases q : W1.G c with
    | none =>
      rcases b.gn c q k with z | ⟨z1, xs, z2⟩
      · exact .inl (back c z)
      · have n : c ∉ W.r := fun z => z1 (a.r.subset z)
        cases e : H c with
        | none => exact .inl rfl
        | some o =>
          have := a.h c o e n
          rw [z2] at this
          cases this
          exact .inr ⟨n, xs, rfl⟩
    | some o => exact a.gn c h (by rw [q]; simp)
  · rcases b.rn c h with z | z
    · exact a.rn c z
    · exact .inr (back c z)
  · refine b.h c o (a.h c o h n) fun z => ?_
    rcases a.rn c z with z | z
    · exact n z
    · rw [h] at z; cases z
  · obtain ⟨o', e⟩ := a.k c o h
    exact b.k c o' e
/-- a tracked thing that is not of the world stays out of it -/
def NoTup (o : HO) : Prop := ∀ xs, o ≠ .tup xs
theorem RepO.nt {K : PySem.W.Frag} {G : Hp} {r : List Addr} {x : O} {o : HO} (h : RepO K G r x o) : NoTup o := by cases h <;> exact fun _ e => nomatch e
theorem Ext.out {W W' : Wd} {H H' : Hp} (e : Ext W H W' H') {a : Addr} {o : HO} (h : H a = some o) (t : NoTup o) (n : W.G a = none) (m : a ∉ W.r) : H' a = some o ∧ W'.G a = none ∧ a ∉ W'.r := by
  refine ⟨e.h a o h m, ?_, fun z => ?_⟩
  · cases q : W'.G a with
    | none => rfl
    | some u =>
      rcases e.gn a n (by rw [q]; simp) with z | ⟨_, xs, z⟩
      · rw [h] at z; cases z
      · rw [h] at z
        cases z
        exact absurd rfl (t xs)
  · rcases e.rn a z with z | z
    · exact m z
    · rw [h] at z; cases z
theorem Ext.fresh {W W' : Wd} {H H' : Hp} (e : Ext W H W' H') {a : Addr} (h : H' a = none) : H a = none := by
  cases q : H a with
  | none => rfl
  | some o =>
    obtain ⟨o', z⟩ := e.k a o q
    rw [h] at z; cases z
section
variable (K : PySem.W.Frag)
/-- the world holds of the heap -/
structure WOk (W : Wd) (S : Sto) (H : Hp) : Prop where
  sub : SubH W.G H
  nd : W.r.Nodup
  len : W.r.length = S.length
  cell : ∀ (n : Nat) (x : O), S[n]? = some x → ∃ a u, W.r[n]? = some a ∧ H a = some u ∧ RepO K W.G W.r x u
  ng : ∀ a, a ∈ W.r → W.G a = none
def RepR (W : Wd) (H H0 : Hp) : R → V → Prop
  | .v d, v => Rep K W.G W.r d v
  | .o x, v => ∃ a u, v = .ref a ∧ H a = some u ∧ RepO K W.G W.r x u ∧ W.G a = none ∧ a ∉ W.r ∧ H0 a = none
/-- frozen, or a slot's own object that stands as it is -/
def RepB (W : Wd) (H : Hp) (d : D) (v : V) : Prop :=
  Rep K W.G W.r d v ∨ ∃ x a u, d = O.toD x ∧ v = .ref a ∧ H a = some u ∧ RepO K W.G W.r x u ∧ W.G a = none ∧ a ∉ W.r
def SlOk (W : Wd) (H H0 : Hp) : Sl → Option V → Prop
  | .no, _ => True
  | .va d, o => ∃ v, o = some v ∧ Rep K W.G W.r d v
  | .ow x, o => ∃ a u, o = some (.ref a) ∧ H a = some u ∧ RepO K W.G W.r x u ∧ W.G a = none ∧ a ∉ W.r ∧ H0 a = none
structure EnvOk (W : Wd) (H H0 : Hp) (e : Envm) (σ : L2.St) : Prop where
  len : e.length = σ.length
  sl : ∀ (i : Nat) (s : Sl) (o : Option V), e[i]? = some s → σ[i]? = some o → SlOk K W H H0 s o
  dis : ∀ (i j : Nat) (x y : O) (a : Addr), e[i]? = some (.ow x) → e[j]? = some (.ow y) → σ[i]? = some (some (.ref a)) → σ[j]? = some (some (.ref a)) → i = j
end
section
variable {K : PySem.W.Frag} {W W' : Wd} {H H' H0 : Hp} {S S' : Sto}
theorem Rep.ext {d : D} {v : V} (q : Rep K W.G W.r d v) (e : Ext W H W' H') : Rep K W'.G W'.r d v := q.mono e.g e.r
theorem RepL.ext {d : List D} {v : List V} (q : RepL K W.G W.r d v) (e : Ext W H W' H') : RepL K W'.G W'.r d v := q.mono e.g e.r
theorem RepB.ext {d : D} {v : V} (q : RepB K W H d v) (e : Ext W H W' H') : RepB K W' H' d v := by
  rcases q with q | ⟨x, a, u, e1, e2, e3, e4, e5, e6⟩
  · exact .inl (q.ext e)
  · obtain ⟨h1, h2, h3⟩ := e.out e3 e4.nt e5 e6
    exact .inr ⟨x, a, u, e1, e2, h1, e4.mono e.g e.r, h2, h3⟩
theorem EnvOk.ext {e : Envm} {σ : L2.St} (q : EnvOk K W H H0 e σ) (x : Ext W H W' H') : EnvOk K W' H' H0 e σ := by
  refine ⟨q.len, fun i s o h1 h2 => ?_, q.dis⟩
  have z := q.sl i s o h1 h2
  cases s with
  | no => trivial
  | va d =>
    obtain ⟨v, z1, z2⟩ := z
    exact ⟨v, z1, z2.ext x⟩
  | ow y =>
    obtain ⟨a, u, z1, z2, z3, z4, z5, z6⟩ := z
    obtain ⟨h1, h2, h3⟩ := x.out z2 z3.nt z4 z5
    exact ⟨a, u, z1, h1, z3.mono x.g x.r, h2, h3, z6⟩
end

/-! ### readings -/
section
variable (K : PySem.W.Frag)
/-- an expression: its value frozen -/
def tV (de : DE) : TE := fun σ H Q => ∃ W S H0 env, WOk K W S H ∧ EnvOk K W H H0 env σ ∧ ∃ d S', de env S = .ok d S' ∧ ∀ W' H' v, Ext W H W' H' → WOk K W' S' H' → Rep K W'.G W'.r d v → Q v H'
/-- .. frozen, or a slot's own object -/
def tB (de : DE) : TE := fun σ H Q => ∃ W S H0 env, WOk K W S H ∧ EnvOk K W H H0 env σ ∧ ∃ d S', de env S = .ok d S' ∧ ∀ W' H' v, Ext W H W' H' → WOk K W' S' H' → RepB K W' H' d v → Q v H'
/-- .. a value or a new object -/
def tR (dr : DR) : TE := fun σ H Q => ∃ W S H0 env, WOk K W S H ∧ EnvOk K W H H0 env σ ∧ ∃ d S', dr env S = .ok d S' ∧ ∀ W' H' v, Ext W H W' H' → WOk K W' S' H' → RepR K W' H' H d v → Q v H'
def tAV (da : DA) : TA := fun σ H Q => ∃ W S H0 env, WOk K W S H ∧ EnvOk K W H H0 env σ ∧ ∃ d S', da env S = .ok d S' ∧ ∀ W' H' v, Ext W H W' H' → WOk K W' S' H' → RepL K W'.G W'.r d v → Q v H'
/-- pairs of lists -/
inductive AllB (W : Wd) (H : Hp) : List D → List V → Prop
  | nil : AllB W H [] []
  | cons {d : D} {v : V} {ds : List D} {vs : List V} : RepB K W H d v → AllB W H ds vs → AllB W H (d :: ds) (v :: vs)
def tAB (da : DA) : TA := fun σ H Q => ∃ W S H0 env, WOk K W S H ∧ EnvOk K W H H0 env σ ∧ ∃ d S', da env S = .ok d S' ∧ ∀ W' H' v, Ext W H W' H' → WOk K W' S' H' → AllB K W' H' d v → Q v H'
def tT (dt : DT) : TT := fun σ H Q => ∃ W S H0 env, WOk K W S H ∧ EnvOk K W H H0 env σ ∧ ∃ d S', dt env S = .ok d S' ∧ ∀ W' H', Ext W H W' H' → WOk K W' S' H' → Q d H'
/-- the state within a def's body that began at H0 with W0 -/
structure SOk (W0 : Wd) (H0 : Hp) (W : Wd) (H : Hp) (S : Sto) (env : Envm) (σ : L2.St) : Prop where
  ext : Ext W0 H0 W H
  ok : WOk K W S H
  env : EnvOk K W H H0 env σ
/-- an exception in the air: its class, its dict -/
def RepX (W : Wd) : D → Value → Option Addr → Prop
  | .ex n f x, cls, d => cls = .ref (He.ga K n) ∧ ∃ dd v, d = some dd ∧ W.G dd = some (.xd [(f, v)]) ∧ Rep K W.G W.r x v
  | .ex0 n, cls, d => cls = .ref (He.ga K n) ∧ d = none
  | _, _, _ => False
def OutOk (EX : XK) (W0 : Wd) (H0 : Hp) (Wc : Wd) (D : Ends) : Out → Prop
  | .nx env S => ∀ W H σ, SOk K W0 H0 W H S env σ → Gr Wc W → D.nx σ H
  | .bk env S => ∀ W H σ, SOk K W0 H0 W H S env σ → Gr Wc W → D.bk σ H
  | .ct env S => ∀ W H σ, SOk K W0 H0 W H S env σ → Gr Wc W → D.ct σ H
  | .rt r S => ∀ W H v, Ext W0 H0 W H → WOk K W S H → RepR K W H H0 r v → D.rt v H
  | .xn _ x S => ∀ W H cls d, Ext W0 H0 W H → WOk K W S H → RepX K W x cls d → EX cls d H
  | .bad => False
def tS (EX : XK) (ds : DS) : TS := fun D σ H => ∃ W0 H0 W S env, SOk K W0 H0 W H S env σ ∧ OutOk K EX W0 H0 W D (ds env S)
theorem OutOk.mono {EX : XK} {W0 W W' : Wd} {H0 : Hp} {D : Ends} {o : Out} (h : OutOk K EX W0 H0 W D o) (g : Gr W W') : OutOk K EX W0 H0 W' D o := by
  cases o with
  | nx e S => exact fun W1 H σ s g1 => h W1 H σ s (g.trans g1)
  | bk e S => exact fun W1 H σ s g1 => h W1 H σ s (g.trans g1)
  | ct e S => exact fun W1 H σ s g1 => h W1 H σ s (g.trans g1)
  | rt r S => exact h
  | xn c x S => exact h
  | bad => exact h
end
end MP

namespace MP
open PySem PySem.Spec PyProof.Rows L2
/-! ### defs called where no built-in that watches itself (a repr) is under way -/
structure FnG (P : Program) (w : World) (K : PySem.W.Frag) (mg : Str → Option Value) (base : Heap) (CX : CXT) (k : Nat) (f : Addr) (fd : FuncData) (ps : List Str) (sp : Sp) : Prop where
  ln : ∀ vs H Q E, sp vs H Q E → ps.length = vs.length
  go : ∀ (E : XK) (Q : VK) (H : Hp) (s : Shared) (A : Around) (outer : List Env) (ar : Args) (vs : List V) (us : List Value), A.guards = some [] → Room k A → sp vs H Q E → Vals vs us → BindsTo s fd ar (ps.zip us) → Env0 P w K mg base A outer s H →
    codeAny (model P w) A (.call (.ref f) ar) (CR CX outer P w H s Q E) s
section
variable {X : Cx} {CX : CXT} {k : Nat} {f : Addr} {fd : FuncData} {ps : List Str} {sp : Sp} {E : L2.St → XK} {x : Str} {p pos : Pos} {e : Expr} {es : List Expr} {t : TA}
/-- how such a call ends, seen from the caller -/
theorem after_g {Q : VK} {pins : List (Addr × Obj)} {σ : L2.St} {H : Hp} {s s' : Shared} {E : XK} {r : Result} (I : Inv X pins σ H s) (hx : PassesAt CX X σ E) (h : CR CX X.stack X.prog X.w H s Q E r s') :
    match r with
    | .ok (.ret u) => EP X pins σ Q u s'
    | .ok _ => False
    | .error e => X.xe e s' := by
  cases r with
  | error e => exact hx pins H s e s' I h
  | ok fl => cases fl <;> first | exact I.after h | exact h
def tCallG (sp : Sp) (E : L2.St → XK) (t : TA) : TE := fun σ H Q => t σ H fun vs H1 => sp vs H1 Q (E σ)
theorem run_g {pins : List (Addr × Obj)} {σ : L2.St} {H : Hp} {s : Shared} {Q : VK} {us : List Value} {vs : List V} (F : FnG X.prog X.w X.K X.mg X.base CX k f fd ps sp) (gd : X.A.guards = some []) (rm : Room k X.A) (bd : Binds X.K fd ps []) (px : PassesAt CX X σ (E σ))
    (I : Inv X pins σ H s) (rv : Vals vs us) (q : sp vs H Q (E σ)) : wpAny (model X.prog X.w) X.A (call (.ref f) us) (EP X pins σ Q) X.xe s := by
  have b1 : BindsTo s fd ⟨us, []⟩ (ps.zip us) := by
    have z := bd s us I.kIn (by rw [List.append_nil, ← rv.length, F.ln _ _ _ _ q])
    rwa [List.append_nil] at z
  refine wpAny_call (codeAny_mono (F.go (E σ) Q H s X.A X.stack ⟨us, []⟩ vs us gd rm q rv b1 I.env0) fun r s' z => ?_)
  have z := after_g I px z
  cases r with
  | error e => exact z
  | ok fl => cases fl <;> first | exact z | exact z.elim
theorem pe_callG (F : FnG X.prog X.w X.K X.mg X.base CX k f fd ps sp) (gd : X.A.guards = some []) (rm : Room k X.A) (gl : Gl X x) (me : X.mg x = some (.ref f)) (kp : PySem.W.keepIn X.K (.ref f) = true) (bd : Binds X.K fd ps []) (px : ∀ σ, PassesAt CX X σ (E σ)) (hA : PA X (e :: es) t)
    (nd : (x == ("__debug__" : Str)) = false := by decide) (hs : starEach (e :: es) X.env = (false, eval e X.env) :: starEach es X.env := by rfl) (hn : (backTo pos (starEach es X.env)).any (·.1) = false := by rfl) :
    PE X (.Call (.Name x p) (e :: es) [] pos) (tCallG sp E t) :=
  ⟨fun pins s σ H Q I z => wpAny_Call_Name_kw (ld_glob I gl me (PySem.W.callWith_K (h₀ := X.base) I.ok.mod.kin kp (thn (hA.run pos pins s σ H _ I z) fun us s2 ⟨vs, H2, I2, rv, q⟩ => ⟨I2.kIn, run_g F gd rm bd (px σ) I2 rv q⟩) hs hn) nd)⟩
end
/-- a def of the text by its body -/
theorem fnG_of {P : Program} {w : World} {K : PySem.W.Frag} {mg : Str → Option Value} {base : Heap} {x qual : Str} {params : Arguments} {body : List Stmt} {scope : Scope} {dvs : List V} {kws : List (Str × V)} {f : Addr} {fd : FuncData} {CX : CXT} {N ps : List Str} {k : Nat} {sp : Sp}
    (F : FunD K x qual params body scope dvs kws f fd) (S : FnScope N ps scope) (hlen : ∀ vs H Q E, sp vs H Q E → vs.length = ps.length)
    (hb : ∀ (cdv : Value) (A : Around) (outer : List Env) (s : Shared) (H : Hp) (vs : List V) (Q : VK) (E : XK), (A.deeper (envOfC qual scope s.heap.objs.size f cdv)).guards = some [] → Room k (A.deeper (envOfC qual scope s.heap.objs.size f cdv)) → sp vs H Q E →
      ∃ t, PSs (cxOf CX P w K mg base N qual scope f cdv A outer s H E) body t ∧ t { nx := fun _ H' => Q .non H', rt := Q } (L2.start N vs) H) : FnG P w K mg base CX (k + 1) f fd ps sp := by
  obtain ⟨oc, od, dV, kV, doc, pm, an, cdv, ct, osl, rfl, lk, cd, _, _⟩ := F.ex
  refine ⟨fun vs H Q E z => (hlen vs H Q E z).symm, fun E Q H s A outer ar vs us gd rm hsp rv bd e0 => ?_⟩
  have kIn : K.In s.heap := e0.mod.kin.keeps fun b o z => (e0.bs b o z).1
  have nl : s.heap.NoLimit := e0.mod.nolimit.keeps fun b o z => (e0.bs b o z).1
  have slots : ∀ y ∈ ps.zip us, scope.names.lookup y.1 = some .local ∨ (scope.names.lookup y.1 = some .cell ∧ ((cellsFrom (s.heap.objs.size + 1) scope.names []).lookup y.1).isSome = true) := fun y hy => (S.par y.1 (List.of_mem_zip (a := y.1) (b := y.2) hy).1).imp id fun q => ⟨q, PySem.W.cellsFrom_some _ _ _ (.inl q)⟩
  refine codeAny_call_function rm.depth (kIn _ _ lk) rfl S.co S.gen rfl (PySem.W.codeRec_of kIn cd) (bd _ _ _ _ (wpAny_newFunctionEnv_cells S.kind slots fun env he s1 ic => ?_))
  subst he
  obtain ⟨t, h1, h2⟩ := hb cdv A outer s H vs Q E gd (rm.deeper _) hsp
  have I := inv_start (CX := CX) (E := E) S rm.hd e0 (hlen _ _ _ _ hsp) rv ic
  refine ⟨nl.keeps ic.toInCall.keep, codeAny_func (wpAny_mono (h1.run [] s1 (L2.start N vs) H _ I h2) (fun fl s' z => ?_) fun _ _ z => z)⟩
  cases fl with
  | next =>
    obtain ⟨σ', H', J, q⟩ := z
    exact ⟨.non, H', J.os, J.bare, J.base, J.hok, rfl, q⟩
  | ret u =>
    obtain ⟨v, σ', H', J, r1, q⟩ := z
    exact ⟨v, H', J.os, J.bare, J.base, J.hok, r1, q⟩
  | _ =>
    obtain ⟨_, _, _, q⟩ := z
    exact q.elim
/-! ### the law at the head -/
theorem hidden {h : Heap} {H : Hp} {b : Addr} {o : Obj} {a : Addr} {vs : List Value} (ha : h.get? a = some { cls := .type "list", data := .seq vs.toArray }) (hA : ∀ b, H b ≠ none → b = a) (z : h.get? b = some o) (nd : ∀ q n, o.data ≠ .seq q n) : H b = none := by
  cases q : H b with
  | none => rfl
  | some u =>
    have e := hA b (by rw [q]; exact fun z => nomatch z)
    rw [e, ha] at z
    cases z
    exact absurd rfl (nd _ _)
theorem core_g {P : Program} {w : World} {K : PySem.W.Frag} {mg mb : Str → Option Value} {CX : CXT} {k : Nat} {fa a : Addr} {fd : FuncData} {x : Str} {sp : Sp} {sh : Shared} {vs : List Value} {H : Hp}
    (kIn : K.In sh.heap) (g1 : sh.heap.Ns mainGlobals mg) (g2 : sh.heap.Ns builtinsNs mb) (g3 : ∀ y : Str, y ≠ "__name__" → mb y = bootBuiltins y) (nl : sh.heap.NoLimit) (g4 : sh.gens = #[])
    (ha : sh.heap.get? a = some { cls := .type "list", data := .seq vs.toArray }) (rm : Room k callerA)
    (F : ∀ base : Heap, K.In base → base.Ns mainGlobals mg → FnG P w K mg base CX k fa fd [x] sp) (bd : ∀ (s : Shared) (u : Value), BindsTo s fd ⟨[u], []⟩ [(x, u)])
    (nx : ∀ H e s', CX [] H sh (fun _ _ _ => False) e s' → False) (hO : Only H) (hS : sp [.ref a] H (fun v _ => v = .bl true) fun _ _ _ => False) (ok : HOk P w H sh.heap) (hA : ∀ b, H b ≠ none → b = a) (hK : H a ≠ none → K.lookup a = none) :
    codeAny (model P w) callerA (.call (.ref fa) ⟨[.ref a], []⟩) (fun r s' => r = .ok (.ret (.bool true)) ∧ OldK sh.heap s'.heap ∧ s'.os = sh.os ∧ AllBare s'.gens) sh := by
  have keepNs : ∀ {b : Addr} {m : Str → Option Value}, sh.heap.Ns b m → (hidT sh.heap H).Ns b m := fun {b m} ⟨o, es, ep, z, d, r⟩ => ⟨o, es, ep, hidT_get z (hidden ha hA z fun q n e => by rw [d] at e; cases e), d, r⟩
  have kIn2 : K.In (hidT sh.heap H) := fun b o z => hidT_get (kIn b o z) (by
    cases q : H b with
    | none => rfl
    | some u =>
      have hq : H b ≠ none := by rw [q]; exact fun z => nomatch z
      obtain rfl := hA b hq
      rw [hK hq] at z
      cases z)
  have md : Mod K mg (hidT sh.heap H) := ⟨kIn2, keepNs g1, ⟨mb, keepNs g2, g3⟩, nl.elim fun mc z => ⟨mc, keepNs z.1, z.2⟩⟩
  have e0 : Env0 P w K mg (hidT sh.heap H) callerA [] sh H := ⟨rfl, md, fun _ _ z => of_hidT z, Nat.le_of_eq (hidT_size _ _), trivial, fun b hb => (nomatch (show b ∈ ([] : List Addr) from hb)), ok, .of_eq g4⟩
  refine codeAny_mono ((F _ kIn2 (keepNs g1)).go _ _ H sh callerA [] ⟨[.ref a], []⟩ [.ref a] [.ref a] rfl rm hS (.cons rfl .nil) (bd sh (.ref a)) e0) fun r s' z => ?_
  cases r with
  | error e => exact (nx H e s' z).elim
  | ok fl =>
    cases fl with
    | ret u =>
      obtain ⟨v, H2, os, bare, un, ok2, rv, q⟩ := z
      subst q
      have q : u = Value.bool true := rv
      refine ⟨by rw [q], OldK.of_keep fun b o z2 => ?_, os, bare⟩
      cases hb : H b with
      | none => exact un.keep b o z2 hb (fun n => (nomatch (show b ∈ ([] : List Addr) from n))) (fun n => nomatch n)
      | some c =>
        rcases hO b with n | ⟨ob, xs, n⟩
        · rw [hb] at n; cases n
        · have e1 := (ok b _ n).1
          rw [z2] at e1
          cases e1
          exact (ok2 b _ (un.frzs b o _ n)).1
    | _ => exact False.elim z
theorem law_g {P : Program} {w : World} {K : PySem.W.Frag} {mg mb : Str → Option Value} {CX : CXT} {k : Nat} {fa a : Addr} {fd : FuncData} {x : Str} {sp : Sp} {sh : Shared} {vs : List Value} {ns : List Int}
    (kIn : K.In sh.heap) (g1 : sh.heap.Ns mainGlobals mg) (g2 : sh.heap.Ns builtinsNs mb) (g3 : ∀ y : Str, y ≠ "__name__" → mb y = bootBuiltins y) (nl : sh.heap.NoLimit) (g4 : sh.gens = #[])
    (ha : sh.heap.get? a = some { cls := .type "list", data := .seq vs.toArray }) (iv : IntsAre vs ns) (hl : ns.length ≤ sizeLine) (rm : Room k callerA)
    (F : ∀ base : Heap, K.In base → base.Ns mainGlobals mg → FnG P w K mg base CX k fa fd [x] sp) (bd : ∀ (s : Shared) (u : Value), BindsTo s fd ⟨[u], []⟩ [(x, u)])
    (hsp : ∀ H : Hp, Only H → SqL K H a (ns.map V.int) → sp [.ref a] H (fun v _ => v = .bl true) fun _ _ _ => False) (nx : ∀ H e s', CX [] H sh (fun _ _ _ => False) e s' → False) :
    codeAny (model P w) callerA (.call (.ref fa) ⟨[.ref a], []⟩) (fun r s' => r = .ok (.ret (.bool true)) ∧ OldK sh.heap s'.heap ∧ s'.os = sh.os ∧ AllBare s'.gens) sh := by
  have vi := vals_ints iv
  have n1 : vs.length = ns.length := iv.length
  cases hk : K.lookup a with
  | some o =>
    have e := kIn a o hk
    rw [ha] at e
    cases e
    refine core_g (H := fun _ => none) kIn g1 g2 g3 nl g4 ha rm F bd nx (fun _ => .inl rfl) (hsp _ (fun _ => .inl rfl) (.inr ⟨_, vs.toArray, _, hk, rfl, rfl, rfl, ?_, ?_⟩)) (fun b u z => nomatch (show (none : Option HO) = some u from z)) (fun b z => absurd rfl z) fun z => absurd rfl z
    · rw [List.size_toArray, n1]; exact hl
    · simpa using vi
  | none =>
    let H1 : Hp := fun b => if b = a then some (.frz { cls := .type "list", data := .seq vs.toArray } (.lst (ns.map V.int))) else none
    have ia : H1 a = some (.frz { cls := .type "list", data := .seq vs.toArray } (.lst (ns.map V.int))) := if_pos rfl
    have no : ∀ b, b ≠ a → H1 b = none := fun b hb => if_neg hb
    have on : Only H1 := fun b => if hb : b = a then .inr ⟨{ cls := .type "list", data := .seq vs.toArray }, ns.map V.int, by rw [hb]; exact ia⟩ else .inl (no b hb)
    refine core_g (H := H1) kIn g1 g2 g3 nl g4 ha rm F bd nx on (hsp _ on (.inl (.inr ⟨_, ia⟩))) (fun b u z => ?_) (fun b z => Classical.byContradiction fun hb => z (no b hb)) fun _ => hk
    by_cases hb : b = a
    · rw [hb, ia] at z
      cases z
      rw [hb]
      exact ⟨ha, by rw [List.length_map]; exact hl, vs, _, vi, ha⟩
    · rw [no b hb] at z
      cases z
/-- a law from its def's promise -/
theorem walk_g {l : PySem.W.OpenLaw} {n k : Nat} {q : Program} {loose : List Str} {XP : (Str → Option Value) → Heap → Prop} {YP : World → Heap → Prop} {d : DefRec} {CX : CXT} {x : Str} (m1 : l.most = some n) (m2 : n ≤ sizeLine) (m3 : d.params.defaults = []) (rm : Room k callerA)
    (F : ∀ (w : World) (mg : Str → Option Value) (fa : Addr) (h : Heap), YP w h → h.Ns mainGlobals mg → mg d.name = some (.ref fa) → ∃ (K : PySem.W.Frag) (fd : FuncData) (sp : Sp), K.In h ∧ (∀ (s : Shared) (u : Value), BindsTo s fd ⟨[u], []⟩ [(x, u)]) ∧
        (∀ (H : Hp) (a : Addr) (ns : List Int), ns.length ≤ n → Only H → SqL K H a (ns.map V.int) → sp [.ref a] H (fun v _ => v = .bl true) fun _ _ _ => False) ∧ ∀ base : Heap, K.In base → base.Ns mainGlobals mg → FnG l.prog w K mg base CX k fa fd [x] sp)
    (nx : ∀ (H : Hp) (s : Shared) (e : Value) (s' : Shared), CX [] H s (fun _ _ _ => False) e s' → False) : PySem.W.WalkO q loose XP YP l.row.toRowW d [] (fun f vs => PySem.call f vs) :=
  Att.attach_call m1 m3 fun w s₀ sh mg mb fa o pm cd doc a vs ns G Y ho hd hcd hmg hobj hints hlen hg => by
    obtain ⟨K, fd, sp, kIn, bd, hsp, hF⟩ := F w mg fa _ Y G.T.g hmg
    exact law_g kIn G.T.g G.T.b G.T.builtins G.T.nolimit hg hobj hints (Nat.le_trans hlen m2) rm hF bd (fun H hO hS => hsp H a ns hlen hO hS) fun H e s' => nx H sh e s'
end MP

namespace MP
open PySem PySem.Spec PyProof.Rows L2
variable {EX : L2.XK}

/-! ### weakening -/
section
variable {X : Cx}
theorem PE.imp {e : Expr} {t t' : TE} (h : PE X e t) (i : ∀ σ H Q, t' σ H Q → t σ H Q) : PE X e t' := ⟨fun pins s σ H Q I q => h.run pins s σ H Q I (i σ H Q q)⟩
theorem PT.imp {e : Expr} {t t' : TT} (h : PT X e t) (i : ∀ σ H Q, t' σ H Q → t σ H Q) : PT X e t' := ⟨fun pins s σ H Q I q => h.run pins s σ H Q I (i σ H Q q)⟩
theorem PW.imp {e : Expr} {t t' : TT} (h : PW X e t) (i : ∀ σ H Q, t' σ H Q → t σ H Q) : PW X e t' := ⟨fun wh pins s σ H Q I q => h.run wh pins s σ H Q I (i σ H Q q)⟩
theorem PA.imp {es : List Expr} {t t' : TA} (h : PA X es t) (i : ∀ σ H Q, t' σ H Q → t σ H Q) : PA X es t' := ⟨fun pos pins s σ H Q I q => h.run pos pins s σ H Q I (i σ H Q q)⟩
theorem PS.imp {st : Stmt} {t t' : TS} (h : PS X st t) (i : ∀ D σ H, t' D σ H → t D σ H) : PS X st t' := ⟨fun pins s σ H D I q => h.run pins s σ H D I (i D σ H q)⟩
theorem PSs.imp {st : List Stmt} {t t' : TS} (h : PSs X st t) (i : ∀ D σ H, t' D σ H → t D σ H) : PSs X st t' := ⟨fun pins s σ H D I q => h.run pins s σ H D I (i D σ H q)⟩
theorem PTs.imp {ifs : List Expr} {t t' : TT} (h : PTs X ifs t) (i : ∀ σ H Q, t' σ H Q → t σ H Q) : PTs X ifs t' := ⟨fun pins s σ H Q I q => h.run pins s σ H Q I (i σ H Q q)⟩
theorem PI.imp {tg it : Expr} {t t' : TI} (h : PI X tg it t) (i : ∀ σ H R, t' σ H R → t σ H R) : PI X tg it t' := ⟨fun pins s σ H Q I q => h.run pins s σ H Q I (i σ H Q q)⟩
theorem PG.imp {tg : Expr} {t t' : TG} (h : PG X tg t) (i : ∀ v σ H R, t' v σ H R → t v σ H R) : PG X tg t' := ⟨fun pins s σ H v u Q I r q => h.run pins s σ H v u Q I r (i v σ H Q q)⟩
end

/-! ### denotations -/
def dVar (i : Nat) : DE := fun env S => match env[i]? with
  | some (.va d) => .ok d S
  | _ => .bad
def dBVar (i : Nat) : DE := fun env S => match env[i]? with
  | some (.va d) => .ok d S
  | some (.ow x) => .ok x.toD S
  | _ => .bad
def dMv (i : Nat) : DR := fun env S => match env[i]? with
  | some (.va d) => .ok (.v d) S
  | some (.ow x) => .ok (.o x) S
  | _ => .bad
def dC (d : D) : DE := fun _ S => .ok d S
def fz (dr : DR) : DE := fun env S => (dr env S).map R.val
def rv (de : DE) : DR := fun env S => (de env S).map R.v
def dOp (f : D → D → Sto → Res R) (da db : DE) : DR := fun env S => (da env S).bind fun x S1 => (db env S1).bind fun y S2 => f x y S2
def dUn (f : D → Sto → Res R) (da : DE) : DR := fun env S => (da env S).bind f
def dNil : DA := fun _ S => .ok [] S
def dCons (da : DE) (dr : DA) : DA := fun env S => (da env S).bind fun x S1 => (dr env S1).map fun xs => x :: xs
def dTup (da : DA) : DE := fun env S => (da env S).bind fun xs S1 => if xs.length ≤ 100000 then .ok (.tup xs) S1 else .bad
def dLst (da : DA) : DR := fun env S => (da env S).bind fun xs S1 => if xs.length ≤ 100000 then .ok (.o (.l xs)) S1 else .bad
def dB (de : DE) : DT := fun env S => (de env S).bind fun d S1 => match d with
  | .bl b => .ok b S1
  | _ => .bad
def dAndT (a b : DT) : DT := fun env S => (a env S).bind fun c S1 => if c = true then b env S1 else .ok false S1
def dOrT (a b : DT) : DT := fun env S => (a env S).bind fun c S1 => if c = true then .ok true S1 else b env S1
def dNotT (a : DT) : DT := fun env S => (a env S).map (!·)
def dAnd (a b : DE) : DE := fun env S => (a env S).bind fun d S1 => match d with
  | .bl true => b env S1
  | .bl false => .ok (.bl false) S1
  | _ => .bad
def dOr (a b : DE) : DE := fun env S => (a env S).bind fun d S1 => match d with
  | .bl true => .ok (.bl true) S1
  | .bl false => b env S1
  | _ => .bad
def dNot (a : DE) : DE := fun env S => (a env S).bind fun d S1 => match d with
  | .bl b => .ok (.bl (!b)) S1
  | _ => .bad
def dIf (c : DT) (a b : DE) : DE := fun env S => (c env S).bind fun k S1 => if k = true then a env S1 else b env S1
def dIfR (c : DT) (a b : DR) : DR := fun env S => (c env S).bind fun k S1 => if k = true then a env S1 else b env S1
def dCall (C : Calls) (f : Nat) (da : DA) : DR := fun env S => (da env S).bind fun xs S1 => C f xs S1
def dBlt (f : List D → Sto → Res R) (da : DA) : DR := fun env S => (da env S).bind f

/-! ### the rules of expressions -/
theorem EnvOk.at {K : PySem.W.Frag} {W : Wd} {H H0 : Hp} {e : Envm} {σ : L2.St} (q : EnvOk K W H H0 e σ) {i : Nat} {s : Sl} (h : e[i]? = some s) : ∃ o, σ[i]? = some o ∧ SlOk K W H H0 s o := by
  obtain ⟨hi, _⟩ := List.getElem?_eq_some_iff.mp h
  rw [q.len] at hi
  exact ⟨σ[i], List.getElem?_eq_getElem hi, q.sl i s _ h (List.getElem?_eq_getElem hi)⟩
theorem bind_ok {α β : Type} {r : Res α} {f : α → Sto → Res β} {b : β} {S' : Sto} (h : r.bind f = .ok b S') : ∃ a S1, r = .ok a S1 ∧ f a S1 = .ok b S' := by
  cases r with
  | ok a S1 => exact ⟨a, S1, rfl, h⟩
  | xn c x S => cases h
  | bad => cases h
theorem map_ok {α β : Type} {r : Res α} {f : α → β} {b : β} {S' : Sto} (h : r.map f = .ok b S') : ∃ a, r = .ok a S' ∧ f a = b := by
  cases r with
  | ok a S1 =>
    have h1 : Res.ok (f a) S1 = .ok b S' := h
    injection h1 with h2 h3
    subst h3
    exact ⟨a, rfl, h2⟩
  | xn c x S => cases h
  | bad => cases h
section
variable {X : Cx} {e a b : Expr} {pos : Pos}
theorem me_var (i : Nat) {x : Str} (hN : X.N[i]? = some x := by rfl) (hv : Vis X.env.scope x := by first | exact Or.inl rfl | exact Or.inr (Or.inl rfl) | exact Or.inr (Or.inr rfl)) (hd : (x == ("__debug__" : Str)) = false := by decide)
    (hcd : (x == ("__classdict__" : Str)) = false := by decide) : PE X (.Name x pos) (tV X.K (dVar i)) := by
  refine PE.imp (pe_var hN hv hd hcd) fun σ H Q ⟨W, S, H0, env, ok, eo, d, S', h, q⟩ => ?_
  unfold dVar at h
  split at h
  · rename_i d' he
    injection h with h1 h2
    subst h1; subst h2
    obtain ⟨o, h3, v, rfl, h4⟩ := eo.at he
    exact ⟨v, h3, q W H v (Ext.refl _ _) ok h4⟩
  · cases h
theorem me_bvar (i : Nat) {x : Str} (hN : X.N[i]? = some x := by rfl) (hv : Vis X.env.scope x := by first | exact Or.inl rfl | exact Or.inr (Or.inl rfl) | exact Or.inr (Or.inr rfl)) (hd : (x == ("__debug__" : Str)) = false := by decide)
    (hcd : (x == ("__classdict__" : Str)) = false := by decide) : PE X (.Name x pos) (tB X.K (dBVar i)) := by
  refine PE.imp (pe_var hN hv hd hcd) fun σ H Q ⟨W, S, H0, env, ok, eo, d, S', h, q⟩ => ?_
  unfold dBVar at h
  split at h
  · rename_i d' he
    injection h with h1 h2
    subst h1; subst h2
    obtain ⟨o, h3, v, rfl, h4⟩ := eo.at he
    exact ⟨v, h3, q W H v (Ext.refl _ _) ok (.inl h4)⟩
  · rename_i y he
    injection h with h1 h2
    subst h1; subst h2
    obtain ⟨o, h3, a, u, rfl, h4, h5, h6, h7, h8⟩ := eo.at he
    exact ⟨.ref a, h3, q W H (.ref a) (Ext.refl _ _) ok (.inr ⟨y, a, u, rfl, rfl, h4, h5, h6, h7⟩)⟩
  · cases h
theorem pe_vb {de : DE} (h : PE X e (tV X.K de)) : PE X e (tB X.K de) := PE.imp h fun σ H Q ⟨W, S, H0, env, ok, eo, d, S', h, q⟩ =>
  ⟨W, S, H0, env, ok, eo, d, S', h, fun W' H' v x o r => q W' H' v x o (.inl r)⟩
theorem pe_vr {de : DE} (h : PE X e (tV X.K de)) : PE X e (tR X.K (rv de)) := PE.imp h fun σ H Q ⟨W, S, H0, env, ok, eo, d, S', h, q⟩ => by
  obtain ⟨a, h1, h2⟩ := map_ok h
  subst h2
  exact ⟨W, S, H0, env, ok, eo, a, S', h1, fun W' H' v x o r => q W' H' v x o r⟩
/-- a new object is frozen -/
theorem freeze {K : PySem.W.Frag} {W : Wd} {S : Sto} {H : Hp} {x : O} {a : Addr} {u : HO} (ok : WOk K W S H) (h : H a = some u) (q : RepO K W.G W.r x u) (n : W.G a = none) (m : a ∉ W.r) :
    SubH W.G (upd W.G a u) ∧ WOk K ⟨upd W.G a u, W.r⟩ S H ∧ Rep K (upd W.G a u) W.r x.toD (.ref a) := by
  have s : SubH W.G (upd W.G a u) := fun b o e => by rw [upd_ne (ne_of_none e n)]; exact e
  refine ⟨s, ⟨fun b o e => ?_, ok.nd, ok.len, fun i y e => ?_, fun b hb => ?_⟩, ?_⟩
  · by_cases hb : b = a
    · subst hb
      have e' : upd W.G b u b = some o := e
      rw [upd_same] at e'
      cases e'
      exact h
    · have e' : upd W.G a u b = some o := e
      rw [upd_ne hb] at e'
      exact ok.sub b o e'
  · obtain ⟨c, v, h1, h2, h3⟩ := ok.cell i y e
    exact ⟨c, v, h1, h2, h3.mono s (List.prefix_refl _)⟩
  · have hb' : b ≠ a := fun z => m (z ▸ hb)
    show upd W.G a u b = none
    rw [upd_ne hb']
    exact ok.ng b hb
  · cases q with
    | l q => exact .lst upd_same (q.mono s (List.prefix_refl _))
    | k q1 q2 => exact .dk upd_same q1 (q2.mono s (List.prefix_refl _))
    | t q1 q2 => exact .dt upd_same q1 (q2.mono s (List.prefix_refl _))
    | fk q1 q2 => exact .fk upd_same q1 (q2.mono s (List.prefix_refl _))
    | ft q1 q2 => exact .ft upd_same q1 (q2.mono s (List.prefix_refl _))
theorem freeze_ext {W W' : Wd} {H H' : Hp} {a : Addr} {u : HO} (x : Ext W H W' H') (n : W'.G a = none) (h : H a = none) : Ext W H ⟨upd W'.G a u, W'.r⟩ H' := by
  refine ⟨fun b o e => ?_, x.r, fun b h1 h2 => ?_, x.rn, x.h, x.k⟩
  · have := x.g b o e
    show upd W'.G a u b = some o
    rw [upd_ne (ne_of_none this n)]
    exact this
  · by_cases hb : b = a
    · rw [hb]; exact .inl h
    · have h2' : upd W'.G a u b ≠ none := h2
      rw [upd_ne hb] at h2'
      exact x.gn b h1 h2'
theorem pe_fz {dr : DR} (h : PE X e (tR X.K dr)) : PE X e (tV X.K (fz dr)) := PE.imp h fun σ H Q ⟨W, S, H0, env, ok, eo, d, S', h, q⟩ => by
  obtain ⟨r, h1, h2⟩ := map_ok h
  subst h2
  refine ⟨W, S, H0, env, ok, eo, r, S', h1, fun W' H' v x o z => ?_⟩
  cases r with
  | v d => exact q W' H' v x o z
  | o y =>
    obtain ⟨a, u, rfl, z1, z2, z3, z4, z5⟩ := z
    obtain ⟨s, o2, r2⟩ := freeze o z1 z2 z3 z4
    exact q _ H' _ (freeze_ext x z3 z5) o2 r2
theorem me_c {v : V} {d : D} (h : PE X e (tC v)) (r : ∀ G l, Rep X.K G l d v) : PE X e (tV X.K (dC d)) := PE.imp h fun σ H Q ⟨W, S, H0, env, ok, eo, d', S', h, q⟩ => by
  cases h
  exact q W H v (Ext.refl _ _) ok (r _ _)
theorem me_int {i j} : PE X (.Constant (.int i) j pos) (tV X.K (dC (.int i))) := me_c pe_int fun _ _ => .int i
theorem me_bl {i j} : PE X (.Constant (.bool i) j pos) (tV X.K (dC (.bl i))) := me_c pe_bl fun _ _ => .bl i
theorem me_non {j} : PE X (.Constant .none j pos) (tV X.K (dC .non)) := me_c pe_non fun _ _ => .non
theorem me_str {x j} : PE X (.Constant (.str x) j pos) (tV X.K (dC (.str x))) := me_c pe_str fun _ _ => .str x

/-! ### operators -/
def rO (K : PySem.W.Frag) (f : D → D → Sto → Res R) : R2 := fun x y H Q => ∃ W S d e r S', WOk K W S H ∧ RepB K W H d x ∧ RepB K W H e y ∧ f d e S = .ok r S' ∧ ∀ W' H' v, Ext W H W' H' → WOk K W' S' H' → RepR K W' H' H r v → Q v H'
theorem RepR.back {K : PySem.W.Frag} {W : Wd} {H H0 H1 : Hp} {r : R} {v : V} (h : RepR K W H H1 r v) (f : ∀ a, H1 a = none → H0 a = none) : RepR K W H H0 r v := by
  cases r with
  | v d => exact h
  | o x =>
    obtain ⟨a, u, h1, h2, h3, h4, h5, h6⟩ := h
    exact ⟨a, u, h1, h2, h3, h4, h5, f a h6⟩
theorem tOp_of {K : PySem.W.Frag} {f : D → D → Sto → Res R} {da db : DE} {σ : L2.St} {H : Hp} {Q : VK} (h : tR K (dOp f da db) σ H Q) : tOp (rO K f) (MP.tB K da) (MP.tB K db) σ H Q := by
  obtain ⟨W, S, H0, env, ok, eo, d, S', h, q⟩ := h
  obtain ⟨x, S1, h1, h2⟩ := bind_ok h
  obtain ⟨y, S2, h3, h4⟩ := bind_ok h2
  refine ⟨W, S, H0, env, ok, eo, x, S1, h1, fun W1 H1 v e1 o1 r1 => ?_⟩
  refine ⟨W1, S1, H0, env, o1, eo.ext e1, y, S2, h3, fun W2 H2 u e2 o2 r2 => ?_⟩
  refine ⟨W2, S2, x, y, d, S', o2, r1.ext e2, r2, h4, fun W3 H3 z e3 o3 r3 => ?_⟩
  exact q W3 H3 z ((e1.trans e2).trans e3) o3 (r3.back fun a h => (e1.trans e2).fresh h)
theorem me_op {op : Operator} {f : D → D → Sto → Res R} {da db : DE} (ho : OpR X (binaryOp op) (rO X.K f)) (ha : PE X a (MP.tB X.K da)) (hb : PE X b (MP.tB X.K db)) : PE X (.BinOp a op b pos) (tR X.K (dOp f da db)) :=
  PE.imp (pe_op ho ha hb) fun _ _ _ h => tOp_of h
theorem me_cmp {op : CmpOp} {f : D → D → Sto → Res R} {da db : DE} (ho : OpR X (compareOp op) (rO X.K f)) (ha : PE X a (MP.tB X.K da)) (hb : PE X b (MP.tB X.K db)) (hm : behindInMarks op b = false) : PE X (.Compare a [op] [b] pos) (tR X.K (dOp f da db)) :=
  PE.imp (pe_cmpR ho ha hb hm) fun _ _ _ h => tOp_of h
def rU1 (K : PySem.W.Frag) (f : D → Sto → Res R) : V → Hp → VK → Prop := fun x H Q => ∃ W S d r S', WOk K W S H ∧ RepB K W H d x ∧ f d S = .ok r S' ∧ ∀ W' H' v, Ext W H W' H' → WOk K W' S' H' → RepR K W' H' H r v → Q v H'
theorem me_ix {f : D → D → Sto → Res R} {da db : DE} (ho : IxR X (rO X.K f)) (ha : PE X a (MP.tB X.K da)) (hb : PE X b (MP.tB X.K db)) (hs : PlainIx b) : PE X (.Subscript a b pos) (tR X.K (dOp f da db)) :=
  PE.imp (pe_ix ho ha hb hs) fun _ _ _ h => tOp_of h

/-! ### arguments, displays -/
theorem ma_nil : PA X [] (tAV X.K dNil) := PA.imp pa_nil fun σ H Q ⟨W, S, H0, env, ok, eo, d, S', h, q⟩ => by
  cases h
  exact q W H [] (Ext.refl _ _) ok .nil
theorem ma_cons {es : List Expr} {da : DE} {dr : DA} (ha : PE X e (tV X.K da)) (hr : PA X es (tAV X.K dr)) (hs : starEach (e :: es) X.env = (false, eval e X.env) :: starEach es X.env := by rfl) : PA X (e :: es) (tAV X.K (dCons da dr)) :=
  PA.imp (pa_cons ha hr hs) fun σ H Q ⟨W, S, H0, env, ok, eo, d, S', h, q⟩ => by
    obtain ⟨x, S1, h1, h2⟩ := bind_ok h
    obtain ⟨xs, h3, h4⟩ := map_ok h2
    subst h4
    refine ⟨W, S, H0, env, ok, eo, x, S1, h1, fun W1 H1 v e1 o1 r1 => ?_⟩
    refine ⟨W1, S1, H0, env, o1, eo.ext e1, xs, S', h3, fun W2 H2 vs e2 o2 r2 => ?_⟩
    exact q W2 H2 _ (e1.trans e2) o2 (.cons (r1.ext e2) r2)
theorem mb_nil : PA X [] (tAB X.K dNil) := PA.imp pa_nil fun σ H Q ⟨W, S, H0, env, ok, eo, d, S', h, q⟩ => by
  cases h
  exact q W H [] (Ext.refl _ _) ok .nil
theorem AllB.ext {K : PySem.W.Frag} {W W' : Wd} {H H' : Hp} : ∀ {ds : List D} {vs : List V}, AllB K W H ds vs → Ext W H W' H' → AllB K W' H' ds vs
  | _, _, .nil, _ => .nil
  | _, _, .cons a b, e => .cons (a.ext e) (AllB.ext b e)
theorem mb_cons {es : List Expr} {da : DE} {dr : DA} (ha : PE X e (MP.tB X.K da)) (hr : PA X es (tAB X.K dr)) (hs : starEach (e :: es) X.env = (false, eval e X.env) :: starEach es X.env := by rfl) : PA X (e :: es) (tAB X.K (dCons da dr)) :=
  PA.imp (pa_cons ha hr hs) fun σ H Q ⟨W, S, H0, env, ok, eo, d, S', h, q⟩ => by
    obtain ⟨x, S1, h1, h2⟩ := bind_ok h
    obtain ⟨xs, h3, h4⟩ := map_ok h2
    subst h4
    refine ⟨W, S, H0, env, ok, eo, x, S1, h1, fun W1 H1 v e1 o1 r1 => ?_⟩
    refine ⟨W1, S1, H0, env, o1, eo.ext e1, xs, S', h3, fun W2 H2 vs e2 o2 r2 => ?_⟩
    exact q W2 H2 _ (e1.trans e2) o2 (.cons (r1.ext e2) r2)
theorem le_sizeLine {n : Nat} (h : n ≤ 100000) : n ≤ sizeLine := Nat.le_trans h (by decide)
/-- a new object laid beside the world -/
theorem lay_ext (W : Wd) {H : Hp} {p : Addr} {u : HO} (h : H p = none) : Ext W H W (upd H p u) :=
  ⟨SubH.refl _, List.prefix_refl _, fun a h k => absurd h k, fun a h => .inl h, fun a o e _ => by rw [upd_ne (ne_of_none e h)]; exact e, fun a o e => ⟨o, by rw [upd_ne (ne_of_none e h)]; exact e⟩⟩
theorem lay_ok {K : PySem.W.Frag} {W : Wd} {S : Sto} {H : Hp} {p : Addr} {u : HO} (ok : WOk K W S H) (h : H p = none) : WOk K W S (upd H p u) :=
  ⟨fun a o e => by
    have := ok.sub a o e
    rw [upd_ne (ne_of_none this h)]
    exact this, ok.nd, ok.len, fun i y e => by
      obtain ⟨c, v, h1, h2, h3⟩ := ok.cell i y e
      exact ⟨c, v, h1, by rw [upd_ne (ne_of_none h2 h)]; exact h2, h3⟩, ok.ng⟩
theorem WOk.gnone {K : PySem.W.Frag} {W : Wd} {S : Sto} {H : Hp} {p : Addr} (ok : WOk K W S H) (h : H p = none) : W.G p = none := by
  cases q : W.G p with
  | none => rfl
  | some o =>
    have := ok.sub p o q
    rw [h] at this; cases this
theorem WOk.rnone {K : PySem.W.Frag} {W : Wd} {S : Sto} {H : Hp} {p : Addr} (ok : WOk K W S H) (h : H p = none) : p ∉ W.r := fun m => by
  obtain ⟨i, hi, e⟩ := List.mem_iff_getElem.mp m
  have hi' : i < S.length := by rw [← ok.len]; exact hi
  obtain ⟨c, v, h1, h2, h3⟩ := ok.cell i S[i] (List.getElem?_eq_getElem hi')
  rw [List.getElem?_eq_getElem hi] at h1
  have : c = p := by rw [← Option.some.inj h1]; exact e
  rw [this, h] at h2
  cases h2
/-- a new tuple is laid and frozen -/
theorem tup_new {K : PySem.W.Frag} {W : Wd} {S : Sto} {H : Hp} {p : Addr} {xs : List V} {ds : List D} (ok : WOk K W S H) (h : H p = none) (q : RepL K W.G W.r ds xs) :
    Ext W H ⟨upd W.G p (.tup xs), W.r⟩ (upd H p (.tup xs)) ∧ WOk K ⟨upd W.G p (.tup xs), W.r⟩ S (upd H p (.tup xs)) ∧ Rep K (upd W.G p (.tup xs)) W.r (.tup ds) (.ref p) := by
  have n := ok.gnone h
  have s : SubH W.G (upd W.G p (.tup xs)) := fun b o e => by rw [upd_ne (ne_of_none e n)]; exact e
  refine ⟨freeze_ext (lay_ext W h) n h, ⟨fun b o e => ?_, ok.nd, ok.len, fun i y e => ?_, fun b hb => ?_⟩, .tup upd_same (q.mono s (List.prefix_refl _))⟩
  · by_cases hb : b = p
    · subst hb
      have e' : upd W.G b (.tup xs) b = some o := e
      rw [upd_same] at e'
      rw [upd_same]
      exact e'
    · have e' : upd W.G p (.tup xs) b = some o := e
      rw [upd_ne hb] at e'
      rw [upd_ne hb]
      exact ok.sub b o e'
  · obtain ⟨c, v, h1, h2, h3⟩ := ok.cell i y e
    exact ⟨c, v, h1, by rw [upd_ne (ne_of_none h2 h)]; exact h2, h3.mono s (List.prefix_refl _)⟩
  · have hb' : b ≠ p := fun z => ok.rnone h (z ▸ hb)
    show upd W.G p (.tup xs) b = none
    rw [upd_ne hb']
    exact ok.ng b hb
/-- a new object is laid -/
theorem obj_new {K : PySem.W.Frag} {W : Wd} {S : Sto} {H : Hp} {p : Addr} {u : HO} {x : O} (ok : WOk K W S H) (h : H p = none) (q : RepO K W.G W.r x u) :
    Ext W H W (upd H p u) ∧ WOk K W S (upd H p u) ∧ RepR K W (upd H p u) H (.o x) (.ref p) :=
  ⟨lay_ext W h, lay_ok ok h, p, u, rfl, upd_same, q, ok.gnone h, ok.rnone h, h⟩
theorem me_tup {es : List Expr} {x1} {da : DA} (h : PA X es (tAV X.K da)) : PE X (.Tuple es x1 pos) (tV X.K (dTup da)) := PE.imp (pe_tup h) fun σ H Q ⟨W, S, H0, env, ok, eo, d, S', h, q⟩ => by
  obtain ⟨xs, S1, h1, h2⟩ := bind_ok h
  split at h2
  · rename_i hl
    injection h2 with h3 h4
    subst h3; subst h4
    refine ⟨W, S, H0, env, ok, eo, xs, S1, h1, fun W1 H1 v e1 o1 r1 => ⟨by rw [← r1.length]; exact le_sizeLine hl, fun p hp => ?_⟩⟩
    obtain ⟨e2, o2, r2⟩ := tup_new o1 hp r1
    exact q _ _ _ (e1.trans e2) o2 r2
  · cases h2
theorem me_lst {es : List Expr} {da : DA} (h : PA X es (tAV X.K da)) : PE X (.List es pos) (tR X.K (dLst da)) := PE.imp (pe_lst h) fun σ H Q ⟨W, S, H0, env, ok, eo, d, S', h, q⟩ => by
  obtain ⟨xs, S1, h1, h2⟩ := bind_ok h
  split at h2
  · rename_i hl
    injection h2 with h3 h4
    subst h3; subst h4
    refine ⟨W, S, H0, env, ok, eo, xs, S1, h1, fun W1 H1 v e1 o1 r1 => ⟨by rw [← r1.length]; exact le_sizeLine hl, fun p hp => ?_⟩⟩
    obtain ⟨e2, o2, r2⟩ := obj_new (x := .l xs) o1 hp (.l r1)
    exact q _ _ _ (e1.trans e2) o2 (r2.back fun a h => e1.fresh h)
  · cases h2

/-! ### tests -/
theorem mt_val {de : DE} (h : PE X e (tV X.K de)) (he : ∀ whole, isTrue e X.env whole = (do let v ← whole; standAt e.pos; holding [v] (truthy v)) := by intro _; rfl) : PT X e (tT X.K (dB de)) :=
  PT.imp (pt_val h he) fun σ H Q ⟨W, S, H0, env, ok, eo, d, S', h, q⟩ => by
    obtain ⟨x, S1, h1, h2⟩ := bind_ok h
    split at h2
    · injection h2 with h3 h4
      subst h3; subst h4
      refine ⟨W, S, H0, env, ok, eo, _, _, h1, fun W1 H1 v e1 o1 r1 => ?_⟩
      cases r1
      exact ⟨_, rfl, q W1 H1 e1 o1⟩
    · cases h2
/-- a comparison as a test -/
theorem mt_cmp {op : CmpOp} {f : D → D → Sto → Res R} {da db : DE} (ho : OpR X (compareOp op) (rO X.K f)) (ha : PE X a (MP.tB X.K da)) (hb : PE X b (MP.tB X.K db)) (hm : behindInMarks op b = false) : PT X (.Compare a [op] [b] pos) (tT X.K (dB (fz (dOp f da db)))) :=
  PT.imp (pt_cmpR ho ha hb hm) fun σ H Q ⟨W, S, H0, env, ok, eo, d, S', h, q⟩ => by
    obtain ⟨x, S1, h1, h2⟩ := bind_ok h
    split at h2
    · injection h2 with h3 h4
      subst h3; subst h4
      obtain ⟨r, h5, h6⟩ := map_ok h1
      refine tOp_of ⟨W, S, H0, env, ok, eo, r, _, h5, fun W1 H1 v e1 o1 r1 => ?_⟩
      cases r with
      | v d =>
        cases h6
        cases r1
        exact ⟨_, rfl, q W1 H1 e1 o1⟩
      | o y => cases y <;> cases h6
    · cases h2
theorem mw_or1 {da : DT} (ha : PT X a (tT X.K da)) : PW X (.BoolOp .Or [a] pos) (tT X.K da) := pw_or1 ha
theorem mw_or {rest : List Expr} {da db : DT} (ha : PT X a (tT X.K da)) (hb : PW X (.BoolOp .Or (b :: rest) pos) (tT X.K db)) : PW X (.BoolOp .Or (a :: b :: rest) pos) (tT X.K (dOrT da db)) :=
  PW.imp (pw_or ha hb) fun σ H Q ⟨W, S, H0, env, ok, eo, d, S', h, q⟩ => by
    obtain ⟨c, S1, h1, h2⟩ := bind_ok h
    refine ⟨W, S, H0, env, ok, eo, c, S1, h1, fun W1 H1 e1 o1 => ?_⟩
    cases c with
    | false => exact ⟨W1, S1, H0, env, o1, eo.ext e1, d, S', h2, fun W2 H2 e2 o2 => q W2 H2 (e1.trans e2) o2⟩
    | true =>
      cases h2
      exact q W1 H1 e1 o1
theorem mt_not {da : DT} (ha : PT X a (tT X.K da)) : PT X (.UnaryOp .Not a pos) (tT X.K (dNotT da)) :=
  PT.imp (pt_not ha) fun σ H Q ⟨W, S, H0, env, ok, eo, d, S', h, q⟩ => by
    obtain ⟨c, h1, h2⟩ := map_ok h
    subst h2
    exact ⟨W, S, H0, env, ok, eo, c, S', h1, q⟩
/-! ### and, or, not, if as values -/
theorem me_one {op} {da : DE} (ha : PE X a (tV X.K da)) : PE X (.BoolOp op [a] pos) (tV X.K da) := pe_one ha
theorem me_and {rest : List Expr} {da db : DE} (ha : PE X a (tV X.K da)) (hb : PE X (.BoolOp .And (b :: rest) pos) (tV X.K db)) : PE X (.BoolOp .And (a :: b :: rest) pos) (tV X.K (dAnd da db)) :=
  PE.imp (pe_and ha hb) fun σ H Q ⟨W, S, H0, env, ok, eo, d, S', h, q⟩ => by
    obtain ⟨c, S1, h1, h2⟩ := bind_ok h
    refine ⟨W, S, H0, env, ok, eo, c, S1, h1, fun W1 H1 v e1 o1 r1 => ?_⟩
    split at h2
    · cases r1
      exact ⟨true, rfl, W1, S1, H0, env, o1, eo.ext e1, d, S', h2, fun W2 H2 v e2 o2 r2 => q W2 H2 v (e1.trans e2) o2 r2⟩
    · cases r1
      cases h2
      exact ⟨false, rfl, q W1 H1 _ e1 o1 (.bl false)⟩
    · cases h2
theorem me_not {da : DE} (ha : PE X a (tV X.K da)) : PE X (.UnaryOp .Not a pos) (tV X.K (dNot da)) :=
  PE.imp (pe_not ha) fun σ H Q ⟨W, S, H0, env, ok, eo, d, S', h, q⟩ => by
    obtain ⟨c, S1, h1, h2⟩ := bind_ok h
    refine ⟨W, S, H0, env, ok, eo, c, S1, h1, fun W1 H1 v e1 o1 r1 => ?_⟩
    split at h2
    · cases r1
      cases h2
      exact ⟨_, rfl, q W1 H1 _ e1 o1 (.bl _)⟩
    · cases h2
/-! ### calls of the program's own defs -/
/-- what a def promises: what the calls' function C says -/
def spC (K : PySem.W.Frag) (C : Calls) (f : Nat) (m : Nat) : Sp := fun vs H Q E => vs.length = m ∧ ∃ W S ds, WOk K W S H ∧ RepL K W.G W.r ds vs ∧ ((∃ r S', C f ds S = .ok r S' ∧ ∀ W' H' v, Ext W H W' H' → WOk K W' S' H' → RepR K W' H' H r v → Q v H') ∨
  ∃ c x S', C f ds S = .xn c x S' ∧ ∀ W' H' cls d, Ext W H W' H' → WOk K W' S' H' → RepX K W' x cls d → E cls d H')
/-- the def at a, and its parameters -/
structure At (K : PySem.W.Frag) (a : Addr) (fd : FuncData) (ps : List Str) : Prop where
  o : ∃ oc od osl, K.lookup a = some ⟨oc, od, .func fd, osl⟩
  ps : fd.params.args.map (·.arg) = ps
/-- the facts of the text that a body may lean on: each def of the table keeps its promise, by C -/
structure Fx (P : Program) (w : World) (K : PySem.W.Frag) (mg : Str → Option Value) (base : Heap) (A : Around) (n : Nat) (T : Nat → Option (Str × Nat)) (C : Calls) : Prop where
  room : Room (n + 3) A
  gd : A.guards = some []
  ar : ∀ f x m ds S r S', T f = some (x, m) → C f ds S = .ok r S' → ds.length = m
  ax : ∀ f x m ds S c y S', T f = some (x, m) → C f ds S = .xn c y S' → ds.length = m
  fn : ∀ f x m, T f = some (x, m) → ∃ (a : Addr) (fd : FuncData) (ps : List Str), mg x = some (.ref a) ∧ PySem.W.keepIn K (.ref a) = true ∧ Binds K fd ps [] ∧ ps.length = m ∧ FnG P w K mg base (L2.CX P w) (n + 3) a fd ps (spC K C f m) ∧ At K a fd ps
variable {n : Nat} {T : Nat → Option (Str × Nat)} {C : Calls}
theorem passE0 {X : Cx} : Passes (L2.CX X.prog X.w) X E0 := fun _ _ _ _ _ _ _ ⟨_, _, _, _, _, _, _, _, _, _, _, _, h⟩ => h.elim
theorem me_call (F : Fx X.prog X.w X.K X.mg X.base X.A n T C) (f : Nat) {x : Str} {p : Pos} {es : List Expr} {da : DA} {m : Nat} (hT : T f = some (x, m)) (hg : Gl X x) (ha : PA X (e :: es) (tAV X.K da))
    (hdb : (x == ("__debug__" : Str)) = false := by decide) (he : starEach (e :: es) X.env = (false, eval e X.env) :: starEach es X.env := by rfl) (hpl : (backTo pos (starEach es X.env)).any (·.1) = false := by rfl) :
    PE X (.Call (.Name x p) (e :: es) [] pos) (tR X.K (dCall C f da)) := by
  obtain ⟨a, fd, ps, h1, h2, h3, h4, h5, _⟩ := F.fn f x m hT
  refine PE.imp (pe_callG (E := fun _ => E0) h5 F.gd F.room hg h1 h2 h3 (fun σ pins H s e s2 I q => passE0 pins σ H s e s2 I q) ha hdb he hpl) fun σ H Q ⟨W, S, H0, env, ok, eo, d, S', h, q⟩ => ?_
  obtain ⟨xs, S1, h6, h7⟩ := bind_ok h
  refine ⟨W, S, H0, env, ok, eo, xs, S1, h6, fun W1 H1 v e1 o1 r1 => ?_⟩
  show spC X.K C f m v H1 Q E0
  exact ⟨by rw [← r1.length]; exact F.ar _ _ _ _ _ _ _ hT h7, W1, S1, xs, o1, r1, .inl ⟨d, S', h7, fun W2 H2 z e2 o2 r2 => q W2 H2 z (e1.trans e2) o2 (r2.back fun a h => e1.fresh h)⟩⟩
end
end MP

namespace MP
open PySem PySem.Spec PyProof.Rows L2
variable {EX : L2.XK}

/-! ### targets -/
inductive Tg where
  | nm (i : Nat) | tp (ts : List Tg)
mutual
def bindTg : Tg → D → Envm → Option Envm
  | .nm i, d, e => some (e.set i (.va d))
  | .tp ts, .tup ds, e => bindTgs ts ds e
  | .tp ts, .lst ds, e => bindTgs ts ds e
  | .tp _, _, _ => none
def bindTgs : List Tg → List D → Envm → Option Envm
  | [], [], e => some e
  | t :: ts, d :: ds, e => match bindTg t d e with
    | some e1 => bindTgs ts ds e1
    | none => none
  | _, _, _ => none
end
mutual
def Tg.slots : Tg → List Nat
  | .nm i => [i]
  | .tp ts => slotsL ts
def slotsL : List Tg → List Nat
  | [] => []
  | t :: ts => t.slots ++ slotsL ts
end
/-- only these slots differ -/
structure SetOf (is : List Nat) (σ σ' : L2.St) : Prop where
  len : σ'.length = σ.length
  out : ∀ j, j ∉ is → σ'[j]? = σ[j]?
theorem SetOf.trans {is js : List Nat} {a b c : L2.St} (h : SetOf is a b) (k : SetOf js b c) : SetOf (is ++ js) a c :=
  ⟨k.len.trans h.len, fun j n => (k.out j fun z => n (List.mem_append_right _ z)).trans (h.out j fun z => n (List.mem_append_left _ z))⟩
section
variable {K : PySem.W.Frag} {W : Wd} {H H0 : Hp} {e : Envm} {σ : L2.St}
theorem EnvOk.setV (q : EnvOk K W H H0 e σ) {d : D} {v : V} (r : Rep K W.G W.r d v) (i : Nat) : EnvOk K W H H0 (e.set i (.va d)) (σ.set i (some v)) := by
  refine ⟨by rw [List.length_set, List.length_set]; exact q.len, fun j s o h1 h2 => ?_, fun j k x y a h1 h2 h3 h4 => ?_⟩
  · by_cases hj : i = j
    · subst hj
      by_cases hi : i < e.length
      · rw [List.getElem?_set_self hi] at h1
        cases h1
        rw [List.getElem?_set_self (by rw [← q.len]; exact hi)] at h2
        cases h2
        exact ⟨v, rfl, r⟩
      · rw [List.getElem?_eq_none (by rw [List.length_set]; omega)] at h1
        cases h1
    · rw [List.getElem?_set_ne hj] at h1 h2
      exact q.sl j s o h1 h2
  · have f : ∀ (m : Nat) (z : O), (e.set i (.va d))[m]? = some (.ow z) → i ≠ m ∧ e[m]? = some (.ow z) := fun m z hm => by
      by_cases c : i = m
      · subst c
        by_cases hi : i < e.length
        · rw [List.getElem?_set_self hi] at hm; cases hm
        · rw [List.getElem?_eq_none (by rw [List.length_set]; omega)] at hm; cases hm
      · rw [List.getElem?_set_ne c] at hm
        exact ⟨c, hm⟩
    obtain ⟨n1, g1⟩ := f j x h1
    obtain ⟨n2, g2⟩ := f k y h2
    rw [List.getElem?_set_ne n1] at h3
    rw [List.getElem?_set_ne n2] at h4
    exact q.dis j k x y a g1 g2 h3 h4
theorem setOf_one (σ : L2.St) (i : Nat) (o : Option V) : SetOf [i] σ (σ.set i o) := ⟨by rw [List.length_set], fun j n => by
  rw [List.getElem?_set_ne fun z => n (by simp [z])]⟩
end
section
variable (K : PySem.W.Frag)
def gT (t : Tg) : TG := fun v σ H Q => ∃ W S H0 env d, WOk K W S H ∧ EnvOk K W H H0 env σ ∧ Rep K W.G W.r d v ∧ ∃ env', bindTg t d env = some env' ∧ ∀ σ', EnvOk K W H H0 env' σ' → SetOf t.slots σ σ' → Q σ' H
def gTs (ts : List Tg) : TGs := fun vs σ H Q => ∃ W S H0 env ds, WOk K W S H ∧ EnvOk K W H H0 env σ ∧ RepL K W.G W.r ds vs ∧ ∃ env', bindTgs ts ds env = some env' ∧ ∀ σ', EnvOk K W H H0 env' σ' → SetOf (slotsL ts) σ σ' → Q σ' H
end
section
variable {X : Cx} {pos : Pos}
theorem PGs.imp {ts : List Expr} {t t' : TGs} (h : PGs X ts t) (i : ∀ v σ H R, t' v σ H R → t v σ H R) : PGs X ts t' := ⟨fun pins s σ H v u Q I r q => h.run pins s σ H v u Q I r (i v σ H Q q)⟩
theorem mg_name {i : Nat} {x : Str} (hN : X.N.Nodup) (hi : X.N[i]? = some x) (hx : Loc X.env.scope x) (hf : X.fn x = true ∨ X.env.scope.names.lookup x = some .local := by first | exact .inl rfl | exact .inr rfl | assumption) : PG X (.Name x pos) (gT X.K (.nm i)) :=
  PG.imp (pg_name hN hi hx hf) fun v σ H Q ⟨W, S, H0, env, d, ok, eo, r, env', h, q⟩ => by
    unfold bindTg at h
    cases h
    exact q _ (eo.setV r i) (by unfold Tg.slots; exact setOf_one σ i _)
theorem mgs_nil : PGs X [] (gTs X.K []) := PGs.imp pgs_nil fun v σ H Q ⟨W, S, H0, env, d, ok, eo, r, env', h, q⟩ => by
  cases r with
  | nil =>
    unfold bindTgs at h
    cases h
    exact ⟨rfl, q σ eo ⟨rfl, fun _ _ => rfl⟩⟩
  | cons _ _ => unfold bindTgs at h; cases h
theorem mgs_cons {e : Expr} {es : List Expr} {t : Tg} {ts : List Tg} (h1 : PG X e (gT X.K t)) (h2 : PGs X es (gTs X.K ts)) (hs : (assignEach (e :: es) X.env).map (·.2) = assign e X.env :: (assignEach es X.env).map (·.2) := by rfl) : PGs X (e :: es) (gTs X.K (t :: ts)) :=
  PGs.imp (pgs_cons h1 h2 hs) fun v σ H Q ⟨W, S, H0, env, d, ok, eo, r, env', h, q⟩ => by
    cases r with
    | nil => unfold bindTgs at h; cases h
    | cons r1 r2 =>
      unfold bindTgs at h
      split at h
      · rename_i e1 he1
        exact ⟨_, _, rfl, W, S, H0, env, _, ok, eo, r1, e1, he1, fun σ1 eo1 so1 => ⟨W, S, H0, e1, _, ok, eo1, r2, env', h, fun σ2 eo2 so2 => q σ2 eo2 (by unfold slotsL; exact so1.trans so2)⟩⟩
      · cases h
theorem bindTgs_len : ∀ {ts : List Tg} {ds : List D} {e e' : Envm}, bindTgs ts ds e = some e' → ds.length = ts.length
  | [], [], _, _, _ => rfl
  | t :: ts, d :: ds, e, e', h => by
    unfold bindTgs at h
    split at h
    · have := bindTgs_len h
      simp [this]
    · cases h
  | [], _ :: _, _, _, h => by unfold bindTgs at h; cases h
  | _ :: _, [], _, _, h => by unfold bindTgs at h; cases h
theorem PG.or {tg : Expr} {t t' : TG} (h : PG X tg t) (h' : PG X tg t') : PG X tg (fun v σ H Q => t v σ H Q ∨ t' v σ H Q) := ⟨fun pins s σ H v u Q I r q => q.elim (fun z => h.run pins s σ H v u Q I r z) fun z => h'.run pins s σ H v u Q I r z⟩
theorem mg_tup {es : List Expr} {k : Nat} {ts : List Tg} (hc : X.calm = true) (h : PGs X es (gTs X.K ts)) (hl : ts.length = es.length)
    (hn : (assignEach es X.env).length = es.length := by rfl) (hst : (assignEach es X.env).findIdx? (·.1) = none := by rfl) : PG X (.Tuple es k pos) (gT X.K (.tp ts)) :=
  PG.imp (PG.or (pg_tup (n := es.length) hc h hn hst) (pg_unl (n := es.length) hc h hn hst)) fun v σ H Q ⟨W, S, H0, env, d, ok, eo, r, env', h, q⟩ => by
    cases r with
    | @tup a xs ds r1 r2 =>
      unfold bindTg at h
      exact .inl ⟨_, _, rfl, SqT.of (ok.sub _ _ r1), by rw [← r2.length, bindTgs_len h]; exact hl, W, S, H0, env, _, ok, eo, r2, env', h, fun σ' eo' so => q σ' eo' (by unfold Tg.slots; exact so)⟩
    | @lst a xs ds r1 r2 =>
      unfold bindTg at h
      exact .inr ⟨_, _, rfl, SqL.of (ok.sub _ _ r1), by rw [← r2.length, bindTgs_len h]; exact hl, W, S, H0, env, _, ok, eo, r2, env', h, fun σ' eo' so => q σ' eo' (by unfold Tg.slots; exact so)⟩
    | _ => unfold bindTg at h; cases h
end

/-! ### what is walked -/
section
variable (K : PySem.W.Frag)
structure WalkM (P : Wd → Hp → Prop) (J : It) (ds : List D) : Prop where
  go : ∀ (i : Nat) W S H, i < ds.length → WOk K W S H → P W H → J.go i H
  stop : ∀ W S H, WOk K W S H → P W H → J.stop ds.length H
  yld : ∀ (i : Nat) W S H x H', i < ds.length → WOk K W S H → P W H → J.yld i H x H' → ∃ W' d, ds[i]? = some d ∧ Ext W H W' H' ∧ WOk K W' S H' ∧ Rep K W'.G W'.r d x
def PF (W : Wd) : Wd → Hp → Prop := fun W1 _ => Gr W W1
def PB (W : Wd) (H : Hp) : Wd → Hp → Prop := fun W1 H1 => Ext W H W1 H1
def iF (di : DA) : TI := fun σ H R => ∃ W S H0 env, WOk K W S H ∧ EnvOk K W H H0 env σ ∧ ∃ ds S', di env S = .ok ds S' ∧ ∀ W' H' J, Ext W H W' H' → WOk K W' S' H' → WalkM K (PF W') J ds → R J H'
def iB (di : DA) : TI := fun σ H R => ∃ W S H0 env, WOk K W S H ∧ EnvOk K W H H0 env σ ∧ ∃ ds S', di env S = .ok ds S' ∧ ∀ W' H' J, Ext W H W' H' → WOk K W' S' H' → WalkM K (PB W' H') J ds → R J H'
end
section
variable {X : Cx} {tg : Expr}
theorem WalkM.imp {K : PySem.W.Frag} {P P' : Wd → Hp → Prop} {J : It} {ds : List D} (w : WalkM K P J ds) (h : ∀ W H, P' W H → P W H) : WalkM K P' J ds :=
  ⟨fun i W S H hi ok p => w.go i W S H hi ok (h W H p), fun W S H ok p => w.stop W S H ok (h W H p), fun i W S H x H' hi ok p y => w.yld i W S H x H' hi ok (h W H p) y⟩
theorem pi_fb {it : Expr} {di : DA} (h : PI X tg it (iF X.K di)) : PI X tg it (iB X.K di) := PI.imp h fun σ H R ⟨W, S, H0, env, ok, eo, ds, S', h, q⟩ =>
  ⟨W, S, H0, env, ok, eo, ds, S', h, fun W' H' J e o w => q W' H' J e o (w.imp fun W1 H1 p => ⟨p.g, p.r⟩)⟩
/-- a list or tuple -/
theorem pi_sq {l : Expr} {tl : TE} (hl : PE X l tl) : PI X tg l (fun σ H R => tl σ H fun x H1 => ∃ a, x = .ref a ∧ (((∃ xs, SqL X.K H1 a xs) ∧ R (Itl X.K a) H1) ∨ ((∃ xs, SqT X.K H1 a xs) ∧ R (Itt X.K a) H1))) := by
  refine ⟨fun pins s σ H R I h => ?_⟩
  refine thn (hl.run pins s σ H _ I h) fun v s1 ⟨x, H1, I1, r1, q1⟩ => ?_
  obtain ⟨a, e, q1⟩ := q1
  subst e
  cases r1
  rcases q1 with ⟨⟨xs, hq⟩, q⟩ | ⟨⟨xs, hq⟩, q⟩
  · obtain ⟨its, rv, p, hz⟩ := I1.list hq
    refine wpAny_pyIter_list p.isList ?_
    refine ⟨s1.heap.objs.size, [s1.heap.objs.size], _, _, H1, rfl, I1.kept (t' := s1.toks) fun b o e => Heap.get?_push_of_some _ e, turn_list a _, ⟨_, Heap.get?_push_size _ rfl, rfl, rfl⟩, fun b hb => ?_, q⟩
    have e : b = s1.heap.objs.size := by simpa using hb
    subst e
    exact I1.fpOk (Nat.le_refl _) (I1.hok.fresh (Nat.le_refl _))
  · obtain ⟨its, rv, p, hz⟩ := I1.tuple hq
    refine wpAny_pyIter_tuple (show s1.heap.IsTuple a its.toArray from p) ?_
    refine ⟨s1.heap.objs.size, [s1.heap.objs.size], _, _, H1, rfl, I1.kept (t' := s1.toks) fun b o e => Heap.get?_push_of_some _ e, turn_tuple a _, ⟨_, Heap.get?_push_size _ rfl, rfl, rfl⟩, fun b hb => ?_, q⟩
    have e : b = s1.heap.objs.size := by simpa using hb
    subst e
    exact I1.fpOk (Nat.le_refl _) (I1.hok.fresh (Nat.le_refl _))
def itemsOf : D → Option (List D)
  | .tup ds => some ds
  | .lst ds => some ds
  | _ => none
def dSeq (de : DE) : DA := fun env S => (de env S).bind fun d S1 => match itemsOf d with
  | some ds => .ok ds S1
  | none => .bad
theorem walkL {K : PySem.W.Frag} {a : Addr} {xs : List V} {ds : List D} {P : Wd → Hp → Prop} (h : ∀ W S H, WOk K W S H → P W H → H a = some (.lst xs) ∧ RepL K W.G W.r ds xs) (hl : ds.length = xs.length) : WalkM K P (Itl K a) ds := by
  refine ⟨fun i W S H hi ok p => ?_, fun W S H ok p => ?_, fun i W S H x H' hi ok p y => ?_⟩
  · obtain ⟨h1, h2⟩ := h W S H ok p
    exact ⟨xs, xs[i]'(by omega), SqL.of h1, List.getElem?_eq_getElem _⟩
  · obtain ⟨h1, h2⟩ := h W S H ok p
    exact ⟨xs, SqL.of h1, by omega⟩
  · obtain ⟨h1, h2⟩ := h W S H ok p
    obtain ⟨rfl, y2⟩ := y
    obtain ⟨d, g1, g2⟩ := h2.getV (y2 xs (SqL.of h1))
    exact ⟨W, d, g1, Ext.refl _ _, ok, g2⟩
theorem walkT {K : PySem.W.Frag} {a : Addr} {xs : List V} {ds : List D} {P : Wd → Hp → Prop} (h : ∀ W S H, WOk K W S H → P W H → SqT K H a xs ∧ RepL K W.G W.r ds xs) (hl : ds.length = xs.length) : WalkM K P (Itt K a) ds := by
  refine ⟨fun i W S H hi ok p => ?_, fun W S H ok p => ?_, fun i W S H x H' hi ok p y => ?_⟩
  · obtain ⟨h1, h2⟩ := h W S H ok p
    exact ⟨xs, xs[i]'(by omega), h1, List.getElem?_eq_getElem _⟩
  · obtain ⟨h1, h2⟩ := h W S H ok p
    exact ⟨xs, h1, by omega⟩
  · obtain ⟨h1, h2⟩ := h W S H ok p
    obtain ⟨rfl, y2⟩ := y
    obtain ⟨d, g1, g2⟩ := h2.getV (y2 xs h1)
    exact ⟨W, d, g1, Ext.refl _ _, ok, g2⟩
theorem mi_seq {l : Expr} {de : DE} (hl : PE X l (tV X.K de)) : PI X tg l (iF X.K (dSeq de)) := PI.imp (pi_sq hl) fun σ H R ⟨W, S, H0, env, ok, eo, ds, S', h, q⟩ => by
  obtain ⟨d, S1, h1, h2⟩ := bind_ok h
  refine ⟨W, S, H0, env, ok, eo, d, S1, h1, fun W1 H1 v e1 o1 r1 => ?_⟩
  cases r1 with
  | @tup a xs ds' r1 r2 =>
    cases h2
    exact ⟨a, rfl, .inr ⟨⟨xs, SqT.of (o1.sub _ _ r1)⟩, q W1 H1 _ e1 o1 (walkT (fun W2 S2 H2 o2 p => ⟨SqT.of (o2.sub _ _ (p.g _ _ r1)), r2.mono p.g p.r⟩) r2.length)⟩⟩
  | @lst a xs ds' r1 r2 =>
    cases h2
    exact ⟨a, rfl, .inl ⟨⟨xs, SqL.of (o1.sub _ _ r1)⟩, q W1 H1 _ e1 o1 (walkL (fun W2 S2 H2 o2 p => ⟨o2.sub _ _ (p.g _ _ r1), r2.mono p.g p.r⟩) r2.length)⟩⟩
  | _ => cases h2
/-! ranges -/
def rangeD (lo hi : Int) : List D := (List.range (hi - lo).toNat).map fun i => .int (lo + (i : Nat))
def dRange1 (da : DE) : DA := fun env S => (da env S).bind fun d S1 => match d with
  | .int j => if j ≤ 100000 ∧ -100000 ≤ j then .ok (rangeD 0 j) S1 else .bad
  | _ => .bad
def dRange2 (da db : DE) : DA := fun env S => (da env S).bind fun x S1 => (db env S1).bind fun y S2 => match x, y with
  | .int i, .int j => if (i ≤ 100000 ∧ -100000 ≤ i) ∧ (j ≤ 100000 ∧ -100000 ≤ j) then .ok (rangeD i j) S2 else .bad
  | _, _ => .bad
theorem walkR {K : PySem.W.Frag} {P : Wd → Hp → Prop} (lo hi : Int) : WalkM K P (Itr lo (hi - lo).toNat) (rangeD lo hi) := by
  refine ⟨fun i W S H hl ok p => ?_, fun W S H ok p => ?_, fun i W S H x H' hl ok p y => ?_⟩
  · have hl' : i < (hi - lo).toNat := by
      have e : (rangeD lo hi).length = (hi - lo).toNat := by simp [rangeD]
      rw [e] at hl
      exact hl
    exact hl'
  · have e : (rangeD lo hi).length = (hi - lo).toNat := by simp [rangeD]
    show (hi - lo).toNat ≤ _
    rw [e]
    exact Nat.le_refl _
  · obtain ⟨rfl, rfl⟩ := y
    unfold rangeD at hl ⊢
    have hl' : i < (hi - lo).toNat := by simpa using hl
    exact ⟨W, .int (lo + (i : Nat)), by simp [hl'], Ext.refl _ _, ok, .int _⟩
theorem mi_range1 {a : Expr} {da : DE} {p pos : Pos} (hg : Gl X "range") (hm : X.mg "range" = none) (ha : PE X a (tV X.K da)) (hs : starEach [a] X.env = [(false, eval a X.env)] := by rfl) : PI X tg (.Call (.Name "range" p) [a] [] pos) (iF X.K (dRange1 da)) :=
  PI.imp (pi_range1 hg hm (pa_cons ha pa_nil hs) hs) fun σ H R ⟨W, S, H0, env, ok, eo, ds, S', h, q⟩ => by
    obtain ⟨d, S1, h1, h2⟩ := bind_ok h
    refine ⟨W, S, H0, env, ok, eo, d, S1, h1, fun W1 H1 v e1 o1 r1 => ?_⟩
    cases r1 with
    | int j =>
      have h2 : (if j ≤ 100000 ∧ -100000 ≤ j then Res.ok (rangeD 0 j) S1 else .bad) = .ok ds S' := h2
      split at h2
      · injection h2 with h3 h4
        subst h3; subst h4
        have := walkR (K := X.K) (P := PF W1) 0 j
        rw [Int.sub_zero] at this
        exact ⟨j, rfl, by omega, by omega, q W1 H1 _ e1 o1 this⟩
      · cases h2
    | _ => cases h2
end

/-! ### comprehensions -/
def wipeE (e : Envm) : List Nat → Envm
  | [] => e
  | v :: vs => (wipeE e vs).set v .no
def compL (tg : Tg) (dc : DT) (de : DE) (env : Envm) : List D → Sto → Res (List D)
  | [], S => .ok [] S
  | d :: ds, S => match bindTg tg d env with
    | none => .bad
    | some e1 => (dc e1 S).bind fun b S1 => if b = true then (de e1 S1).bind fun y S2 => (compL tg dc de env ds S2).map (y :: ·) else compL tg dc de env ds S1
def dComp (di : DA) (own : List Nat) (tg : Tg) (dc : DT) (de : DE) : DR := fun env S => (di env S).bind fun ds S1 => if ds.length ≤ 100000 then (compL tg dc de (wipeE env own) ds S1).map fun ys => .o (.l ys) else .bad
def dYes : DT := fun _ S => .ok true S
section
variable {X : Cx}
theorem mts_nil : PTs X [] (tT X.K dYes) := PTs.imp pts_nil fun σ H Q ⟨W, S, H0, env, ok, eo, d, S', h, q⟩ => by
  cases h
  exact q W H (Ext.refl _ _) ok
theorem EnvOk.wipe {K : PySem.W.Frag} {W : Wd} {H H0 : Hp} {e : Envm} {σ : L2.St} (q : EnvOk K W H H0 e σ) : ∀ vs : List Nat, EnvOk K W H H0 (wipeE e vs) (L2.wipe σ vs)
  | [] => q
  | v :: vs => by
    have ih := q.wipe vs
    unfold wipeE L2.wipe
    refine ⟨by rw [List.length_set, List.length_set]; exact ih.len, fun j s o h1 h2 => ?_, fun j k x y a h1 h2 h3 h4 => ?_⟩
    · by_cases hj : v = j
      · subst hj
        by_cases hi : v < (wipeE e vs).length
        · rw [List.getElem?_set_self hi] at h1
          cases h1
          trivial
        · rw [List.getElem?_eq_none (by rw [List.length_set]; omega)] at h1
          cases h1
      · rw [List.getElem?_set_ne hj] at h1 h2
        exact ih.sl j s o h1 h2
    · have f : ∀ (m : Nat) (z : O), ((wipeE e vs).set v .no)[m]? = some (.ow z) → v ≠ m ∧ (wipeE e vs)[m]? = some (.ow z) := fun m z hm => by
        by_cases c : v = m
        · subst c
          by_cases hi : v < (wipeE e vs).length
          · rw [List.getElem?_set_self hi] at hm; cases hm
          · rw [List.getElem?_eq_none (by rw [List.length_set]; omega)] at hm; cases hm
        · rw [List.getElem?_set_ne c] at hm
          exact ⟨c, hm⟩
      obtain ⟨n1, g1⟩ := f j x h1
      obtain ⟨n2, g2⟩ := f k y h2
      rw [List.getElem?_set_ne n1] at h3
      rw [List.getElem?_set_ne n2] at h4
      exact ih.dis j k x y a g1 g2 h3 h4
theorem wipe_len (σ : L2.St) : ∀ vs : List Nat, (L2.wipe σ vs).length = σ.length := wipe_length σ
theorem wipe_out' {σ : L2.St} {i : Nat} : ∀ {vs : List Nat}, i ∉ vs → (L2.wipe σ vs)[i]? = σ[i]?
  | [], _ => rfl
  | v :: vs, h => by
    unfold L2.wipe
    rw [List.getElem?_set_ne fun z => h (by simp [z])]
    exact wipe_out' fun z => h (List.mem_cons_of_mem _ z)
theorem wipe_in {σ : L2.St} {i : Nat} : ∀ {vs : List Nat}, i ∈ vs → i < σ.length → (L2.wipe σ vs)[i]? = some none
  | v :: vs, h, hi => by
    unfold L2.wipe
    by_cases c : v = i
    · subst c
      rw [List.getElem?_set_self (by rw [wipe_len]; exact hi)]
    · rw [List.getElem?_set_ne c]
      rcases List.mem_cons.mp h with z | z
      · exact absurd z.symm c
      · exact wipe_in z hi
theorem wipe_setOf {σ σ' : L2.St} {is own : List Nat} (h : SetOf is σ σ') (hs : ∀ i ∈ is, i ∈ own) : L2.wipe σ' own = L2.wipe σ own := by
  apply List.ext_getElem?
  intro i
  by_cases hi : i ∈ own
  · by_cases hl : i < σ.length
    · rw [wipe_in hi hl, wipe_in hi (by rw [h.len]; exact hl)]
    · rw [List.getElem?_eq_none (by rw [wipe_len, h.len]; omega), List.getElem?_eq_none (by rw [wipe_len]; omega)]
  · rw [wipe_out' hi, wipe_out' hi]
    exact h.out i fun z => hi (hs i z)
theorem wipe_wipe {σ : L2.St} {own : List Nat} : L2.wipe (L2.wipe σ own) own = L2.wipe σ own := by
  apply List.ext_getElem?
  intro i
  by_cases hi : i ∈ own
  · by_cases hl : i < σ.length
    · rw [wipe_in hi (by rw [wipe_len]; exact hl), wipe_in hi hl]
    · rw [List.getElem?_eq_none (by rw [wipe_len, wipe_len]; omega), List.getElem?_eq_none (by rw [wipe_len]; omega)]
  · rw [wipe_out' hi]
/-- the reading of a comprehension -/
theorem comp_of {K : PySem.W.Frag} {di : DA} {own : List Nat} {tg : Tg} {dc : DT} {de : DE} {σ : L2.St} {H : Hp} {Q : VK} (hs : ∀ i ∈ tg.slots, i ∈ own) (h : tR K (dComp di own tg dc de) σ H Q) : tLc (iB K di) (gT K tg) (tT K dc) (tV K de) own σ H Q := by
  obtain ⟨W, S, H0, env, ok, eo, r, S', h, q⟩ := h
  obtain ⟨ds, S1, h1, h2⟩ := bind_ok h
  split at h2
  case isFalse => cases h2
  rename_i hlen
  obtain ⟨ys, h3, h4⟩ := map_ok h2
  subst h4
  refine ⟨W, S, H0, env, ok, eo, ds, S1, h1, fun W1 H1 J e1 o1 w1 => ?_⟩
  intro D hD
  -- the invariant: what has been made stands at D, the rest is as the function says
  refine ⟨fun i m Hc => m = ds.length - i ∧ i ≤ ds.length ∧ ∃ W2 S2 acc xs zs, Ext W1 H1 W2 Hc ∧ WOk K W2 S2 Hc ∧ EnvOk K W2 Hc H0 env σ ∧ RepL K W2.G W2.r acc xs ∧ Hc D = some (.lst xs) ∧ W2.G D = none ∧ D ∉ W2.r ∧ acc.length ≤ i ∧ compL tg dc de (wipeE env own) (ds.drop i) S2 = .ok zs S' ∧ ys = acc ++ zs, ⟨ds.length, by simp, Nat.zero_le _, ?_⟩, ?_⟩
  · have x1 : Ext W1 H1 W1 (upd H1 D (.lst [])) := lay_ext W1 hD
    exact ⟨W1, S1, [], [], ys, x1, lay_ok o1 hD, (eo.ext e1).ext x1, .nil, upd_same, o1.gnone hD, o1.rnone hD, by simp, by simpa using h3, by simp⟩
  · rintro i m Hc ⟨rfl, hi, W2, S2, acc, xs, zs, x2, o2, eo2, r2, hD2, gD2, rD2, hacc, hc, hys⟩
    by_cases hlt : i < ds.length
    · refine .inr ⟨w1.go i W2 S2 Hc hlt o2 x2, fun Hn => ∃ W2 S2 acc xs zs, Ext W1 H1 W2 Hn ∧ WOk K W2 S2 Hn ∧ EnvOk K W2 Hn H0 env σ ∧ RepL K W2.G W2.r acc xs ∧ Hn D = some (.lst xs) ∧ W2.G D = none ∧ D ∉ W2.r ∧ acc.length ≤ i + 1 ∧ compL tg dc de (wipeE env own) (ds.drop (i + 1)) S2 = .ok zs S' ∧ ys = acc ++ zs, fun Hn hn => ⟨ds.length - (i + 1), by omega, rfl, hlt, hn⟩, fun x Hy hy => ?_⟩
      obtain ⟨W3, d, hd, x3, o3, rd⟩ := w1.yld i W2 S2 Hc x Hy hlt o2 x2 hy
      have ed : ds[i] = d := by
        rw [List.getElem?_eq_getElem hlt] at hd
        exact Option.some.inj hd
      rw [List.drop_eq_getElem_cons hlt, ed] at hc
      unfold compL at hc
      have eo3 : EnvOk K W3 Hy H0 (wipeE env own) (L2.wipe σ own) := (eo2.ext x3).wipe own
      split at hc
      · cases hc
      rename_i e1' he1
      obtain ⟨b, S3, hb1, hb2⟩ := bind_ok hc
      obtain ⟨hDy, gDy, rDy⟩ := x3.out hD2 (fun _ h => nomatch h) gD2 rD2
      refine ⟨W3, S2, H0, wipeE env own, d, o3, eo3, rd, e1', he1, fun σ3 eo4 so => ⟨?_, ?_⟩⟩
      · rw [wipe_setOf so hs, wipe_wipe]
      · refine ⟨W3, S2, H0, e1', o3, eo4, b, S3, hb1, fun W4 H4 x4 o4 => ?_⟩
        obtain ⟨hD4, gD4, rD4⟩ := x4.out hDy (fun _ h => nomatch h) gDy rDy
        have x24 := x3.trans x4
        cases b with
        | true =>
          have hb2 : ((de e1' S3).bind fun y S2 => (compL tg dc de (wipeE env own) (ds.drop (i + 1)) S2).map (y :: ·)) = .ok zs S' := hb2
          obtain ⟨y, S4, hy1, hy2⟩ := bind_ok hb2
          obtain ⟨zs', hz1, hz2⟩ := map_ok hy2
          subst hz2
          refine ⟨W4, S3, H0, e1', o4, eo4.ext x4, y, S4, hy1, fun W5 H5 v x5 o5 r5 => ?_⟩
          obtain ⟨hD5, gD5, rD5⟩ := x5.out hD4 (fun _ h => nomatch h) gD4 rD4
          have x25 := x24.trans x5
          have x6 : Ext W1 H1 W5 (upd H5 D (.lst (xs ++ [v]))) := by
            have z := x2.trans x25
            have hD0 : H1 D = none := hD
            exact ⟨z.g, z.r, z.gn, z.rn, fun a o e n => by rw [upd_ne (ne_of_none e hD0)]; exact z.h a o e n, fun a o e => by rw [upd_ne (ne_of_none e hD0)]; exact z.k a o e⟩
          have o6 : WOk K W5 S4 (upd H5 D (.lst (xs ++ [v]))) := by
            refine ⟨fun a o e => ?_, o5.nd, o5.len, fun n yy e => ?_, o5.ng⟩
            · rw [upd_ne (ne_of_none e gD5)]
              exact o5.sub a o e
            · obtain ⟨c, u, c1, c2, c3⟩ := o5.cell n yy e
              have nc : c ≠ D := fun z => rD5 (by rw [← z]; exact List.mem_of_getElem? c1)
              exact ⟨c, u, c1, by rw [upd_ne nc]; exact c2, c3⟩
          have eo6 : EnvOk K W5 (upd H5 D (.lst (xs ++ [v]))) H0 env σ := by
            have eo5 := (eo2.ext x25)
            refine ⟨eo5.len, fun j s o g1 g2 => ?_, eo5.dis⟩
            have z := eo5.sl j s o g1 g2
            cases s with
            | no => trivial
            | va d => exact z
            | ow y0 =>
              obtain ⟨a, u, z1, z2, z3, z4, z5, z6⟩ := z
              have z0 := (eo.ext e1).sl j _ o g1 g2
              obtain ⟨a', u', y1, y2, _⟩ := z0
              rw [z1] at y1
              cases y1
              exact ⟨a, u, z1, by rw [upd_ne (ne_of_none y2 hD)]; exact z2, z3, z4, z5, z6⟩
          refine ⟨xs, hD5, ?_, W5, S4, acc ++ [y], xs ++ [v], zs', x6, o6, eo6, ((r2.mono x25.g x25.r).snoc r5), upd_same, gD5, rD5, by simp; omega, hz1, by rw [hys]; simp⟩
          have := r2.length
          exact Nat.lt_of_le_of_lt (show xs.length ≤ 100000 by omega) (by decide)
        | false =>
          have hb2 : compL tg dc de (wipeE env own) (ds.drop (i + 1)) S3 = .ok zs S' := hb2
          exact ⟨W4, S3, acc, xs, zs, x2.trans x24, o4, eo2.ext x24, r2.mono x24.g x24.r, hD4, gD4, rD4, by omega, hb2, hys⟩
    · have ei : i = ds.length := by omega
      subst ei
      rw [List.drop_length] at hc
      unfold compL at hc
      injection hc with hc1 hc2
      subst hc1; subst hc2
      rw [List.append_nil] at hys
      subst hys
      refine .inl ⟨w1.stop W2 S2 Hc o2 x2, q W2 Hc _ (e1.trans x2) o2 ?_⟩
      exact ⟨D, .lst xs, rfl, hD2, .l r2, gD2, rD2, e1.fresh hD⟩
theorem me_comp {elt tg iter : Expr} {ifs : List Expr} {scope : Scope} {own : List (Str × Nat)} {pos : Pos} {di : DA} {g : Tg} {dc : DT} {de : DE} (hc : X.calm = true) (hN : X.N.Nodup) (hi : PI X tg iter (iB X.K di)) (ok : BlkOk X.N X.env.scope scope own)
    (hg : ∀ (s : Shared) (H : Hp) (C : Addr) (cl : List (Str × Addr)) (fp : List Addr), PG (X.blk s H scope (compEnvC scope cl C X.env) fp) tg (gT X.K g)) (ht : ∀ (s : Shared) (H : Hp) (C : Addr) (cl : List (Str × Addr)) (fp : List Addr), PTs (X.blk s H scope (compEnvC scope cl C X.env) fp) ifs (tT X.K dc))
    (he : ∀ (s : Shared) (H : Hp) (C : Addr) (cl : List (Str × Addr)) (fp : List Addr), PE (X.blk s H scope (compEnvC scope cl C X.env) fp) elt (tV X.K de)) (hsl : ∀ i ∈ g.slots, i ∈ own.map (·.2)) (hs : ∀ x, foldedSetIterable iter X.env x = pure x := by intro _; rfl) :
    PE X (.ListComp elt [⟨tg, iter, ifs, 0⟩] scope pos) (tR X.K (dComp di (own.map (·.2)) g dc de)) :=
  PE.imp (pe_lc hc hN hi ok hg ht he hs) fun _ _ _ h => comp_of hsl h
end
end MP

namespace MP
open PySem PySem.Spec PyProof.Rows L2
variable {EX : L2.XK}

/-! ### statements: what they say -/
def slOf : R → Sl
  | .v d => .va d
  | .o x => .ow x
def dSet (i : Nat) (dr : DR) : DS := fun env S => match dr env S with
  | .ok r S1 => .nx (env.set i (slOf r)) S1
  | .xn _ _ _ => .bad
  | .bad => .bad
/-- a shared object -/
def dSh (i : Nat) (dr : DR) : DS := fun env S => match dr env S with
  | .ok (.o x) S1 => .nx (env.set i (.va (.loc S1.length))) (S1 ++ [x])
  | .ok (.v (.loc n)) S1 => .nx (env.set i (.va (.loc n))) S1
  | .ok _ _ => .bad
  | .xn _ _ _ => .bad
  | .bad => .bad
def dSeqS (a b : DS) : DS := fun env S => match a env S with
  | .nx e S1 => b e S1
  | o => o
def dSkip : DS := fun env S => .nx env S
def dBreak : DS := fun env S => .bk env S
def dCont : DS := fun env S => .ct env S
def dRet (dr : DR) : DS := fun env S => match dr env S with
  | .ok r S1 => .rt r S1
  | .xn _ _ _ => .bad
  | .bad => .bad
def dRetN : DS := fun _ S => .rt (.v .non) S
def dDrop (de : DE) : DS := fun env S => match de env S with
  | .ok _ S1 => .nx env S1
  | .xn _ _ _ => .bad
  | .bad => .bad
def dIfS (c : DT) (a b : DS) : DS := fun env S => match c env S with
  | .ok true S1 => a env S1
  | .ok false S1 => b env S1
  | .xn _ _ _ => .bad
  | .bad => .bad
def dNever : DS := fun _ _ => .bad
/-- a slot's own object is frozen -/
def frzE (i : Nat) (env : Envm) : Envm := match env[i]? with
  | some (.ow x) => env.set i (.va x.toD)
  | _ => env
def dFrz (i : Nat) (d : DS) : DS := fun env S => d (frzE i env) S
def dUnp (t : Tg) (de : DE) : DS := fun env S => match de env S with
  | .ok d S1 => (match bindTg t d env with
    | some e1 => .nx e1 S1
    | none => .bad)
  | .xn _ _ _ => .bad
  | .bad => .bad
def forL (t : Tg) (b : DS) : List D → DS
  | [], env, S => .nx env S
  | d :: ds, env, S => match bindTg t d env with
    | none => .bad
    | some e1 => match b e1 S with
      | .nx e2 S2 => forL t b ds e2 S2
      | .ct e2 S2 => forL t b ds e2 S2
      | .bk e2 S2 => .nx e2 S2
      | .rt r S2 => .rt r S2
      | .xn c x S2 => .xn c x S2
      | .bad => .bad
def dFor (di : DA) (t : Tg) (b : DS) : DS := fun env S => match di env S with
  | .ok ds S1 => forL t b ds env S1
  | .xn _ _ _ => .bad
  | .bad => .bad
def whileL (c : DT) (b : DS) : Nat → DS
  | 0, _, _ => .bad
  | n + 1, env, S => match c env S with
    | .ok true S1 => (match b env S1 with
      | .nx e2 S2 => whileL c b n e2 S2
      | .ct e2 S2 => whileL c b n e2 S2
      | .bk e2 S2 => .nx e2 S2
      | .rt r S2 => .rt r S2
      | .xn c x S2 => .xn c x S2
      | .bad => .bad)
    | .ok false S1 => .nx env S1
    | .xn _ _ _ => .bad
    | .bad => .bad
def fuelW : Nat := 100000
def dWhile (c : DT) (b : DS) : DS := whileL c b fuelW
abbrev DRs := Envm → Sto → Res (List R)
def rNil : DRs := fun _ S => .ok [] S
def rCons (dr : DR) (d : DRs) : DRs := fun env S => (dr env S).bind fun r S1 => (d env S1).map fun rs => r :: rs
def setSls : List Nat → List R → Envm → Option Envm
  | [], [], e => some e
  | i :: is, r :: rs, e => setSls is rs (e.set i (slOf r))
  | _, _, _ => none
def dPar (is : List Nat) (d : DRs) : DS := fun env S => match d env S with
  | .ok rs S1 => (match setSls is rs env with
    | some e1 => .nx e1 S1
    | none => .bad)
  | .xn _ _ _ => .bad
  | .bad => .bad
/-- name op= e -/
def dAug (i : Nat) (f : D → D → Sto → Res R) (de : DE) : DS := fun env S => match env[i]? with
  | some (.va x) => (match (de env S).bind fun y S1 => f x y S1 with
    | .ok r S2 => .nx (env.set i (slOf r)) S2
    | .xn _ _ _ => .bad
    | .bad => .bad)
  | _ => .bad

/-! ### worlds within a body -/
section
variable {K : PySem.W.Frag} {W0 W W' : Wd} {H0 H H' : Hp} {S S' : Sto} {env : Envm} {σ : L2.St}
theorem SOk.step (s : SOk K W0 H0 W H S env σ) (e : Ext W H W' H') (o : WOk K W' S' H') : SOk K W0 H0 W' H' S' env σ := ⟨s.ext.trans e, o, s.env.ext e⟩
/-- a slot gets a result -/
theorem EnvOk.setR {e : Envm} (q : EnvOk K W H H0 e σ) {r : R} {v : V} (z : RepR K W H H0 r v) (i : Nat) (n : ∀ x a, r = .o x → v = .ref a → ∀ j y, j ≠ i → e[j]? = some (.ow y) → σ[j]? ≠ some (some (.ref a))) : EnvOk K W H H0 (e.set i (slOf r)) (σ.set i (some v)) := by
  cases r with
  | v d => exact q.setV z i
  | o x =>
    obtain ⟨a, u, rfl, z2, z3, z4, z5, z6⟩ := z
    refine ⟨by rw [List.length_set, List.length_set]; exact q.len, fun j s o h1 h2 => ?_, fun j k y y' b h1 h2 h3 h4 => ?_⟩
    · by_cases hj : i = j
      · subst hj
        by_cases hi : i < e.length
        · rw [List.getElem?_set_self hi] at h1
          cases h1
          rw [List.getElem?_set_self (by rw [← q.len]; exact hi)] at h2
          cases h2
          exact ⟨a, u, rfl, z2, z3, z4, z5, z6⟩
        · rw [List.getElem?_eq_none (by rw [List.length_set]; omega)] at h1
          cases h1
      · rw [List.getElem?_set_ne hj] at h1 h2
        exact q.sl j s o h1 h2
    · by_cases hj : i = j
      · subst hj
        by_cases hk : i = k
        · exact hk
        · rw [List.getElem?_set_ne hk] at h2 h4
          have hi : i < σ.length := by
            have := (List.getElem?_eq_some_iff.mp h3).1
            rw [List.length_set] at this
            exact this
          rw [List.getElem?_set_self hi] at h3
          cases h3
          exact absurd h4 (n x _ rfl rfl k y' (Ne.symm hk) h2)
      · by_cases hk : i = k
        · subst hk
          rw [List.getElem?_set_ne hj] at h1 h3
          have hi : i < σ.length := by
            have := (List.getElem?_eq_some_iff.mp h4).1
            rw [List.length_set] at this
            exact this
          rw [List.getElem?_set_self hi] at h4
          cases h4
          exact absurd h3 (n x _ rfl rfl j y (Ne.symm hj) h1)
        · rw [List.getElem?_set_ne hj] at h1 h3
          rw [List.getElem?_set_ne hk] at h2 h4
          exact q.dis j k y y' b h1 h2 h3 h4
/-- an own object of a slot stands in the heap -/
theorem EnvOk.owned {e : Envm} (q : EnvOk K W H H0 e σ) {j : Nat} {y : O} {a : Addr} (h : e[j]? = some (.ow y)) (h2 : σ[j]? = some (some (.ref a))) : ∃ u, H a = some u ∧ RepO K W.G W.r y u ∧ W.G a = none ∧ a ∉ W.r ∧ H0 a = none := by
  obtain ⟨b, u, h3, h4⟩ := q.sl j _ _ h h2
  cases h3
  exact ⟨u, h4⟩
theorem SOk.setR {r : R} {v : V} (s : SOk K W0 H0 W H S env σ) (e : Ext W H W' H') (o : WOk K W' S' H') (z : RepR K W' H' H r v) (i : Nat) : SOk K W0 H0 W' H' S' (env.set i (slOf r)) (σ.set i (some v)) := by
  have s' := s.step e o
  refine ⟨s'.ext, o, s'.env.setR (z.back fun a h => s.ext.fresh h) i fun x a er ev j y _ h1 h2 => ?_⟩
  subst er ev
  obtain ⟨b, u, h3, h4, h5, h6, h7, h8⟩ := z
  cases h3
  obtain ⟨u', g1, _⟩ := s.env.owned h1 h2
  rw [h8] at g1
  cases g1
/-- a slot's own object is frozen -/
theorem SOk.frz (s : SOk K W0 H0 W H S env σ) (i : Nat) : ∃ W', SOk K W0 H0 W' H S (frzE i env) σ ∧ Gr W W' := by
  unfold frzE
  split
  · rename_i x hx
    obtain ⟨o, h1, a, u, rfl, h2, h3, h4, h5, h6⟩ := s.env.at hx
    obtain ⟨f1, f2, f3⟩ := freeze s.ok h2 h3 h4 h5
    refine ⟨⟨upd W.G a u, W.r⟩, ⟨freeze_ext s.ext h4 h6, f2, ⟨by rw [List.length_set]; exact s.env.len, fun j t o g1 g2 => ?_, fun j k y y' b g1 g2 g3 g4 => ?_⟩⟩, ⟨f1, List.prefix_refl _⟩⟩
    · by_cases hj : i = j
      · subst hj
        have hi := (List.getElem?_eq_some_iff.mp hx).1
        rw [List.getElem?_set_self hi] at g1
        cases g1
        rw [h1] at g2
        cases g2
        exact ⟨_, rfl, f3⟩
      · rw [List.getElem?_set_ne hj] at g1
        have z := s.env.sl j t o g1 g2
        cases t with
        | no => trivial
        | va d =>
          obtain ⟨v, z1, z2⟩ := z
          exact ⟨v, z1, z2.mono f1 (List.prefix_refl _)⟩
        | ow y =>
          obtain ⟨b, u', z1, z2, z3, z4, z5, z6⟩ := z
          refine ⟨b, u', z1, z2, z3.mono f1 (List.prefix_refl _), ?_, z5, z6⟩
          show upd W.G a u b = none
          have nb : b ≠ a := fun e => by
            subst e
            subst z1
            exact hj (s.env.dis i j x y b hx g1 h1 g2)
          rw [upd_ne nb]
          exact z4
    · have f : ∀ (m : Nat) (z : O), (env.set i (.va x.toD))[m]? = some (.ow z) → env[m]? = some (.ow z) := fun m z hm => by
        by_cases c : i = m
        · subst c
          have hi := (List.getElem?_eq_some_iff.mp hx).1
          rw [List.getElem?_set_self hi] at hm
          cases hm
        · rw [List.getElem?_set_ne c] at hm
          exact hm
      exact s.env.dis j k y y' b (f j y g1) (f k y' g2) g3 g4
  · exact ⟨W, s, Gr.refl _⟩
/-- a slot's own object is changed -/
theorem SOk.own {i : Nat} {x x' : O} {a : Addr} {u : HO} (s : SOk K W0 H0 W H S env σ) (h : env[i]? = some (.ow x)) (h2 : σ[i]? = some (some (.ref a))) (q : RepO K W.G W.r x' u) : SOk K W0 H0 W (upd H a u) S (env.set i (.ow x')) σ := by
  obtain ⟨u0, g1, g2, g3, g4, g5⟩ := s.env.owned h h2
  have hi := (List.getElem?_eq_some_iff.mp h).1
  refine ⟨⟨s.ext.g, s.ext.r, s.ext.gn, s.ext.rn, fun b o e n => ?_, fun b o e => ?_⟩, ⟨fun b o e => ?_, s.ok.nd, s.ok.len, fun n y e => ?_, s.ok.ng⟩, ⟨by rw [List.length_set]; exact s.env.len, fun j t o e1 e2 => ?_, fun j k y y' b e1 e2 e3 e4 => ?_⟩⟩
  · rw [upd_ne (ne_of_none e g5)]
    exact s.ext.h b o e n
  · rw [upd_ne (ne_of_none e g5)]
    exact s.ext.k b o e
  · rw [upd_ne (ne_of_none e g3)]
    exact s.ok.sub b o e
  · obtain ⟨c, v, c1, c2, c3⟩ := s.ok.cell n y e
    have nc : c ≠ a := fun z => g4 (by rw [← z]; exact List.mem_of_getElem? c1)
    exact ⟨c, v, c1, by rw [upd_ne nc]; exact c2, c3⟩
  · by_cases hj : i = j
    · subst hj
      rw [List.getElem?_set_self hi] at e1
      cases e1
      rw [h2] at e2
      cases e2
      exact ⟨a, u, rfl, upd_same, q, g3, g4, g5⟩
    · rw [List.getElem?_set_ne hj] at e1
      have z := s.env.sl j t o e1 e2
      cases t with
      | no => trivial
      | va d => exact z
      | ow y =>
        obtain ⟨b, u', z1, z2, z3, z4, z5, z6⟩ := z
        have nb : b ≠ a := fun e => by
          subst e
          subst z1
          exact hj (s.env.dis i j x y b h e1 h2 e2)
        exact ⟨b, u', z1, by rw [upd_ne nb]; exact z2, z3, z4, z5, z6⟩
  · have f : ∀ (m : Nat) (z : O), (env.set i (.ow x'))[m]? = some (.ow z) → ∃ z', env[m]? = some (.ow z') := fun m z hm => by
      by_cases c : i = m
      · subst c
        exact ⟨x, h⟩
      · rw [List.getElem?_set_ne c] at hm
        exact ⟨z, hm⟩
    obtain ⟨z1, f1⟩ := f j y e1
    obtain ⟨z2, f2⟩ := f k y' e2
    exact s.env.dis j k z1 z2 b f1 f2 e3 e4
/-- a shared object is changed -/
theorem Ext.cell {a : Addr} {u : HO} (h : a ∈ W.r) : Ext W H W (upd H a u) :=
  ⟨SubH.refl _, List.prefix_refl _, fun a h k => absurd h k, fun a h => .inl h, fun b o e n => by
    have nb : b ≠ a := fun z => n (by rw [z]; exact h)
    rw [upd_ne nb]; exact e, fun b o e => by
    by_cases hb : b = a
    · exact ⟨u, by rw [hb]; exact upd_same⟩
    · exact ⟨o, by rw [upd_ne hb]; exact e⟩⟩
theorem WOk.cellSet {n : Nat} {a : Addr} {x : O} {u : HO} (ok : WOk K W S H) (h : W.r[n]? = some a) (q : RepO K W.G W.r x u) : WOk K W (S.set n x) (upd H a u) := by
  have ha := List.mem_of_getElem? h
  refine ⟨fun b o e => ?_, ok.nd, by rw [List.length_set]; exact ok.len, fun m y e => ?_, ok.ng⟩
  · rw [upd_ne (ne_of_none e (ok.ng a ha))]
    exact ok.sub b o e
  · by_cases hm : n = m
    · subst hm
      have hn : n < S.length := by
        rw [← ok.len]
        exact (List.getElem?_eq_some_iff.mp h).1
      rw [List.getElem?_set_self hn] at e
      cases e
      exact ⟨a, u, h, upd_same, q⟩
    · rw [List.getElem?_set_ne hm] at e
      obtain ⟨c, v, c1, c2, c3⟩ := ok.cell m y e
      have nc : c ≠ a := fun z => by
        subst z
        obtain ⟨l1, g1⟩ := List.getElem?_eq_some_iff.mp h
        obtain ⟨l2, g2⟩ := List.getElem?_eq_some_iff.mp c1
        exact hm ((List.getElem_inj ok.nd).mp (g1.trans g2.symm))
      exact ⟨c, v, c1, by rw [upd_ne nc]; exact c2, c3⟩
/-- a new object becomes a shared one -/
theorem share {a : Addr} {x : O} {u : HO} (ok : WOk K W S H) (h : H a = some u) (q : RepO K W.G W.r x u) (g : W.G a = none) (n : a ∉ W.r) : WOk K ⟨W.G, W.r ++ [a]⟩ (S ++ [x]) H ∧ Rep K W.G (W.r ++ [a]) (.loc S.length) (.ref a) := by
  refine ⟨⟨ok.sub, ?_, by simp [ok.len], fun m y e => ?_, fun b hb => ?_⟩, .loc ?_⟩
  · rw [List.nodup_append]
    refine ⟨ok.nd, by simp, fun b hb c hc => ?_⟩
    have : c = a := by simpa using hc
    subst this
    exact fun z => n (z ▸ hb)
  · by_cases hm : m < S.length
    · rw [List.getElem?_append_left hm] at e
      obtain ⟨c, v, c1, c2, c3⟩ := ok.cell m y e
      exact ⟨c, v, pre_get ⟨[a], rfl⟩ c1, c2, c3.mono (SubH.refl _) ⟨[a], rfl⟩⟩
    · rw [List.getElem?_append_right (by omega)] at e
      have e0 : m - S.length = 0 := by
        cases k : m - S.length with
        | zero => rfl
        | succ k' => rw [k] at e; simp at e
      rw [e0] at e
      cases e
      have em : m = S.length := by omega
      subst em
      exact ⟨a, u, by rw [← ok.len]; simp, h, q.mono (SubH.refl _) ⟨[a], rfl⟩⟩
  · rcases List.mem_append.mp hb with z | z
    · exact ok.ng b z
    · have : b = a := by simpa using z
      rw [this]
      exact g
  · rw [← ok.len]
    simp
end

/-! ### statements: their rules -/
section
variable {X : Cx} {st : Stmt} {rest : List Stmt} {e : Expr} {pos : Pos}
theorem mss_nil : PSs X [] (tS X.K EX dSkip) := PSs.imp pss_nil fun D σ H ⟨W0, H0, W, S, env, s, q⟩ => q W H σ s (Gr.refl _)
theorem mss_cons {a b : DS} (h1 : PS X st (tS X.K EX a)) (h2 : PSs X rest (tS X.K EX b)) : PSs X (st :: rest) (tS X.K EX (dSeqS a b)) := PSs.imp (pss_cons h1 h2) fun D σ H ⟨W0, H0, W, S, env, s, q⟩ => by
  refine ⟨W0, H0, W, S, env, s, ?_⟩
  unfold dSeqS at q
  cases h : a env S with
  | nx e S1 =>
    rw [h] at q
    exact fun W1 H1 σ1 s1 g1 => ⟨W0, H0, W1, S1, e, s1, q.mono _ g1⟩
  | rt r S1 => rw [h] at q; exact q
  | bk e S1 => rw [h] at q; exact q
  | ct e S1 => rw [h] at q; exact q
  | xn c x S1 => rw [h] at q; exact q
  | bad => rw [h] at q; exact q
theorem mss_one {a : DS} (h1 : PS X st (tS X.K EX a)) : PSs X [st] (tS X.K EX a) := pss_one h1
theorem ms_frz {a : DS} (i : Nat) (h1 : PS X st (tS X.K EX a)) : PS X st (tS X.K EX (dFrz i a)) := PS.imp h1 fun D σ H ⟨W0, H0, W, S, env, s, q⟩ => by
  obtain ⟨W', s', g⟩ := s.frz i
  exact ⟨W0, H0, W', S, frzE i env, s', q.mono _ g⟩
theorem ms_ret {dr : DR} (he : PE X e (tR X.K dr)) : PS X (.Return (some e) pos) (tS X.K EX (dRet dr)) := PS.imp (ps_ret he) fun D σ H ⟨W0, H0, W, S, env, s, q⟩ => by
  unfold dRet at q
  cases h : dr env S with
  | ok r S1 =>
    rw [h] at q
    exact ⟨W, S, H0, env, s.ok, s.env, r, S1, h, fun W1 H1 v e1 o1 r1 => q W1 H1 v (s.ext.trans e1) o1 (r1.back fun a h => s.ext.fresh h)⟩
  | xn c x S1 => rw [h] at q; exact q.elim
  | bad => rw [h] at q; exact q.elim
/-- return x, x a slot: its own object goes out -/
theorem ms_retMv (i : Nat) {x : Str} {p : Pos} (hN : X.N[i]? = some x := by rfl) (hv : Vis X.env.scope x := by first | exact Or.inl rfl | exact Or.inr (Or.inl rfl) | exact Or.inr (Or.inr rfl)) (hd : (x == ("__debug__" : Str)) = false := by decide)
    (hcd : (x == ("__classdict__" : Str)) = false := by decide) : PS X (.Return (some (.Name x p)) pos) (tS X.K EX (dRet (dMv i))) := PS.imp (ps_ret (pe_var hN hv hd hcd)) fun D σ H ⟨W0, H0, W, S, env, s, q⟩ => by
  unfold dRet dMv at q
  cases h : env[i]? with
  | none => rw [h] at q; exact q.elim
  | some sl =>
    rw [h] at q
    obtain ⟨o, h3, h4⟩ := s.env.at h
    cases sl with
    | no => exact q.elim
    | va d =>
      obtain ⟨v, rfl, h5⟩ := h4
      exact ⟨v, h3, q W H v s.ext s.ok h5⟩
    | ow y =>
      obtain ⟨a, u, rfl, h5, h6, h7, h8, h9⟩ := h4
      exact ⟨.ref a, h3, q W H _ s.ext s.ok ⟨a, u, rfl, h5, h6, h7, h8, h9⟩⟩
theorem ms_if {c : Expr} {a b : List Stmt} {dc : DT} {da db : DS} (hc : PT X c (tT X.K dc)) (ha : PSs X a (tS X.K EX da)) (hb : PSs X b (tS X.K EX db)) : PS X (.If c a b pos) (tS X.K EX (dIfS dc da db)) := PS.imp (ps_if hc ha hb) fun D σ H ⟨W0, H0, W, S, env, s, q⟩ => by
  unfold dIfS at q
  cases h : dc env S with
  | ok k S1 =>
    rw [h] at q
    refine ⟨W, S, H0, env, s.ok, s.env, k, S1, h, fun W1 H1 e1 o1 => ?_⟩
    cases k with
    | true => exact ⟨W0, H0, W1, S1, env, s.step e1 o1, q.mono _ e1.gr⟩
    | false => exact ⟨W0, H0, W1, S1, env, s.step e1 o1, q.mono _ e1.gr⟩
  | xn c x S1 => rw [h] at q; exact q.elim
  | bad => rw [h] at q; exact q.elim
theorem ms_set {i : Nat} {x : Str} {dr : DR} {pos' : Pos} (hN : X.N.Nodup) (hi : X.N[i]? = some x) (hx : Loc X.env.scope x) (he : PE X e (tR X.K dr)) (hs : swapsWith e (some (.Name x pos')) pos.line X.env = pure false := by rfl) (hf : X.fn x = true ∨ X.env.scope.names.lookup x = some .local := by first | exact .inl rfl | exact .inr rfl | assumption) :
    PS X (.Assign [.Name x pos'] e pos) (tS X.K EX (dSet i dr)) := PS.imp (ps_set hN hi hx he hs hf) fun D σ H ⟨W0, H0, W, S, env, s, q⟩ => by
  unfold dSet at q
  cases h : dr env S with
  | ok r S1 =>
    rw [h] at q
    exact ⟨W, S, H0, env, s.ok, s.env, r, S1, h, fun W1 H1 v e1 o1 r1 => q W1 H1 _ (s.setR e1 o1 r1 i) e1.gr⟩
  | xn c x S1 => rw [h] at q; exact q.elim
  | bad => rw [h] at q; exact q.elim
theorem ms_sh {i : Nat} {x : Str} {dr : DR} {pos' : Pos} (hN : X.N.Nodup) (hi : X.N[i]? = some x) (hx : Loc X.env.scope x) (he : PE X e (tR X.K dr)) (hs : swapsWith e (some (.Name x pos')) pos.line X.env = pure false := by rfl) (hf : X.fn x = true ∨ X.env.scope.names.lookup x = some .local := by first | exact .inl rfl | exact .inr rfl | assumption) :
    PS X (.Assign [.Name x pos'] e pos) (tS X.K EX (dSh i dr)) := PS.imp (ps_set hN hi hx he hs hf) fun D σ H ⟨W0, H0, W, S, env, s, q⟩ => by
  unfold dSh at q
  cases h : dr env S with
  | ok r S1 =>
    rw [h] at q
    refine ⟨W, S, H0, env, s.ok, s.env, r, S1, h, fun W1 H1 v e1 o1 r1 => ?_⟩
    cases r with
    | o y =>
      obtain ⟨a, u, rfl, z1, z2, z3, z4, z5⟩ := r1
      obtain ⟨f1, f2⟩ := share o1 z1 z2 z3 z4
      have x1 : Ext W H ⟨W1.G, W1.r ++ [a]⟩ H1 := ⟨e1.g, e1.r.trans ⟨[a], rfl⟩, e1.gn, fun b hb => by
        rcases List.mem_append.mp hb with z | z
        · exact e1.rn b z
        · have : b = a := by simpa using z
          rw [this]
          exact .inr z5, e1.h, e1.k⟩
      exact q _ H1 _ (s.setR (r := .v (.loc S1.length)) x1 f1 f2 i) x1.gr
    | v d =>
      cases d with
      | loc n => exact q W1 H1 _ (s.setR (r := .v (.loc n)) e1 o1 r1 i) e1.gr
      | _ => exact q.elim
  | xn c x S1 => rw [h] at q; exact q.elim
  | bad => rw [h] at q; exact q.elim
theorem ms_for {tg iter : Expr} {body : List Stmt} {di : DA} {t : Tg} {db : DS} (hp : PassesOwn (model X.prog X.w) X.A X.env X.xe) (hc : X.calm = true) (hi : PI X tg iter (iF X.K di)) (hg : PG X tg (gT X.K t)) (hb : PSs X body (tS X.K EX db))
    (hs : ∀ x, foldedSetIterable iter X.env x = pure x := by intro _; rfl) : PS X (.For tg iter body [] pos) (tS X.K EX (dFor di t db)) := PS.imp (ps_for hp hc hi hg hb hs) fun D σ H ⟨W0, H0, W, S, env, s, q⟩ => by
  unfold dFor at q
  cases h : di env S with
  | xn c x S1 => rw [h] at q; exact q.elim
  | bad => rw [h] at q; exact q.elim
  | ok ds S1 =>
    rw [h] at q
    refine ⟨W, S, H0, env, s.ok, s.env, ds, S1, h, fun W1 H1 J e1 o1 w1 => ?_⟩
    refine ⟨fun i m σ H => m = ds.length - i ∧ i ≤ ds.length ∧ ∃ W2 S2 env2, SOk X.K W0 H0 W2 H S2 env2 σ ∧ Gr W1 W2 ∧ OutOk X.K EX W0 H0 W D (forL t db (ds.drop i) env2 S2), ⟨ds.length, by simp, Nat.zero_le _, W1, S1, env, s.step e1 o1, Gr.refl _, by simpa using q⟩, ?_⟩
    rintro i m σ2 H2 ⟨rfl, hi, W2, S2, env2, s2, p2, q2⟩
    by_cases hlt : i < ds.length
    · refine .inr ⟨w1.go i W2 S2 H2 hlt s2.ok p2, fun σ H => ∃ W2 S2 env2, SOk X.K W0 H0 W2 H S2 env2 σ ∧ Gr W1 W2 ∧ OutOk X.K EX W0 H0 W D (forL t db (ds.drop (i + 1)) env2 S2), fun σ' H' hn => ⟨ds.length - (i + 1), by omega, rfl, hlt, hn⟩, fun x Hy hy => ?_⟩
      obtain ⟨W3, d, hd, x3, o3, rd⟩ := w1.yld i W2 S2 H2 x Hy hlt s2.ok p2 hy
      have ed : ds[i] = d := by
        rw [List.getElem?_eq_getElem hlt] at hd
        exact Option.some.inj hd
      rw [List.drop_eq_getElem_cons hlt, ed] at q2
      unfold forL at q2
      have s3 := s2.step x3 o3
      have p3 := p2.trans x3.gr
      cases hbt : bindTg t d env2 with
      | none => rw [hbt] at q2; exact q2.elim
      | some env3 =>
        rw [hbt] at q2
        refine ⟨W3, S2, H0, env2, d, o3, s3.env, rd, env3, hbt, fun σ4 eo4 _ => ?_⟩
        refine ⟨W0, H0, W3, S2, env3, ⟨s3.ext, o3, eo4⟩, ?_⟩
        have q2 : OutOk X.K EX W0 H0 W D (match db env3 S2 with
          | .nx e2 S2 => forL t db (ds.drop (i + 1)) e2 S2
          | .ct e2 S2 => forL t db (ds.drop (i + 1)) e2 S2
          | .bk e2 S2 => .nx e2 S2
          | .rt r S2 => .rt r S2
          | .xn c x S2 => .xn c x S2
          | .bad => .bad) := q2
        cases hb : db env3 S2 with
        | nx e4 S4 => rw [hb] at q2; exact fun W5 H5 σ5 s5 g5 => ⟨W5, S4, e4, s5, p3.trans g5, q2⟩
        | ct e4 S4 => rw [hb] at q2; exact fun W5 H5 σ5 s5 g5 => ⟨W5, S4, e4, s5, p3.trans g5, q2⟩
        | bk e4 S4 => rw [hb] at q2; exact fun W5 H5 σ5 s5 g5 => q2 W5 H5 σ5 s5 ((e1.gr.trans p3).trans g5)
        | rt r S4 => rw [hb] at q2; exact q2
        | xn c x S4 => rw [hb] at q2; exact q2
        | bad => rw [hb] at q2; exact q2
    · have ei : i = ds.length := by omega
      subst ei
      rw [List.drop_length] at q2
      unfold forL at q2
      exact .inl ⟨w1.stop W2 S2 H2 s2.ok p2, q2 W2 H2 σ2 s2 (e1.gr.trans p2)⟩
end
end MP

namespace MP
open PySem PySem.Spec PyProof.Rows L2
variable {EX : L2.XK}

/-! ### several results at once -/
section
variable (K : PySem.W.Frag)
structure RL (W : Wd) (H H1 : Hp) (rs : List R) (vs : List V) : Prop where
  len : rs.length = vs.length
  each : ∀ (i : Nat) r v, rs[i]? = some r → vs[i]? = some v → RepR K W H H1 r v
  dis : ∀ (i j : Nat) x y a, rs[i]? = some (.o x) → rs[j]? = some (.o y) → vs[i]? = some (.ref a) → vs[j]? = some (.ref a) → i = j
def tAR (d : DRs) : TA := fun σ H Q => ∃ W S H0 env, WOk K W S H ∧ EnvOk K W H H0 env σ ∧ ∃ rs S', d env S = .ok rs S' ∧ ∀ W' H' vs, Ext W H W' H' → WOk K W' S' H' → RL K W' H' H rs vs → Q vs H'
end
theorem RepR.ext {K : PySem.W.Frag} {W W' : Wd} {H H' H0 : Hp} {r : R} {v : V} (h : RepR K W H H0 r v) (e : Ext W H W' H') : RepR K W' H' H0 r v := by
  cases r with
  | v d => exact Rep.ext h e
  | o x =>
    obtain ⟨a, u, h1, h2, h3, h4, h5, h6⟩ := h
    obtain ⟨g1, g2, g3⟩ := e.out h2 h3.nt h4 h5
    exact ⟨a, u, h1, g1, h3.mono e.g e.r, g2, g3, h6⟩
section
variable {X : Cx} {e : Expr} {pos : Pos}
theorem mr_nil : PA X [] (tAR X.K rNil) := PA.imp pa_nil fun σ H Q ⟨W, S, H0, env, ok, eo, d, S', h, q⟩ => by
  cases h
  exact q W H [] (Ext.refl _ _) ok ⟨rfl, fun i r v h => by simp at h, fun i j x y a h => by simp at h⟩
theorem mr_cons {es : List Expr} {dr : DR} {d : DRs} (ha : PE X e (tR X.K dr)) (hr : PA X es (tAR X.K d)) (hs : starEach (e :: es) X.env = (false, eval e X.env) :: starEach es X.env := by rfl) : PA X (e :: es) (tAR X.K (rCons dr d)) :=
  PA.imp (pa_cons ha hr hs) fun σ H Q ⟨W, S, H0, env, ok, eo, rs, S', h, q⟩ => by
    obtain ⟨x, S1, h1, h2⟩ := bind_ok h
    obtain ⟨xs, h3, h4⟩ := map_ok h2
    subst h4
    refine ⟨W, S, H0, env, ok, eo, x, S1, h1, fun W1 H1 v e1 o1 r1 => ?_⟩
    refine ⟨W1, S1, H0, env, o1, eo.ext e1, xs, S', h3, fun W2 H2 vs e2 o2 r2 => ?_⟩
    have old : ∀ (y : O) (a : Addr), x = .o y → v = .ref a → ∀ (j : Nat) z, xs[j]? = some (.o z) → vs[j]? = some (.ref a) → False := fun y a ex ev j z g1 g2 => by
      subst ex ev
      obtain ⟨b, u, k1, k2, _⟩ := r1
      cases k1
      obtain ⟨b, u', l1, l2, l3, l4, l5, l6⟩ := r2.each j _ _ g1 g2
      cases l1
      rw [l6] at k2
      cases k2
    refine q W2 H2 _ (e1.trans e2) o2 ⟨by simp [r2.len], fun i r u g1 g2 => ?_, fun i j y z a g1 g2 g3 g4 => ?_⟩
    · cases i with
      | zero =>
        cases g1
        cases g2
        exact (r1.ext e2)
      | succ i => exact (r2.each i r u (by simpa using g1) (by simpa using g2)).back fun a h => e1.fresh h
    · cases i with
      | zero =>
        cases g1
        cases g3
        cases j with
        | zero => rfl
        | succ j => exact (old y a rfl rfl j z (by simpa using g2) (by simpa using g4)).elim
      | succ i =>
        cases j with
        | zero =>
          cases g2
          cases g4
          exact (old z a rfl rfl i y (by simpa using g1) (by simpa using g3)).elim
        | succ j => rw [r2.dis i j y z a (by simpa using g1) (by simpa using g2) (by simpa using g3) (by simpa using g4)]
def setSts : List Nat → List V → L2.St → L2.St
  | i :: is, v :: vs, σ => setSts is vs (σ.set i (some v))
  | _, _, σ => σ
theorem EnvOk.setRs {K : PySem.W.Frag} {W : Wd} {H H0 H1 : Hp} : ∀ (is : List Nat) (rs : List R) (vs : List V) (e e' : Envm) (σ : L2.St), EnvOk K W H H0 e σ → RL K W H H1 rs vs → (∀ a, H1 a = none → H0 a = none) → setSls is rs e = some e' →
    (∀ (i : Nat) (x : O) (a : Addr), rs[i]? = some (.o x) → vs[i]? = some (.ref a) → ∀ (j : Nat) (y : O), e[j]? = some (.ow y) → σ[j]? ≠ some (some (.ref a))) → EnvOk K W H H0 e' (setSts is vs σ)
  | [], [], vs, e, e', σ, q, z, b, h, n => by
    unfold setSls at h
    cases h
    unfold setSts
    exact q
  | i :: is, r :: rs, [], e, e', σ, q, z, b, h, n => by
    have := z.len
    simp at this
  | i :: is, r :: rs, v :: vs, e, e', σ, q, z, b, h, n => by
    unfold setSls at h
    unfold setSts
    have r0 := z.each 0 r v rfl rfl
    refine EnvOk.setRs (H1 := H1) is rs vs (e.set i (slOf r)) e' (σ.set i (some v)) (q.setR (r0.back b) i fun x a er ev j y _ g1 => ?_) ⟨?_, fun j r' v' g1 g2 => z.each (j + 1) r' v' (by simpa using g1) (by simpa using g2), fun j k x y a g1 g2 g3 g4 => ?_⟩ b h fun j x a g1 g2 k y g3 => ?_
    · subst er ev
      exact n 0 x a rfl rfl j y g1
    · have := z.len
      simpa using this
    · have := z.dis (j + 1) (k + 1) x y a (by simpa using g1) (by simpa using g2) (by simpa using g3) (by simpa using g4)
      omega
    · by_cases hk : i = k
      · subst hk
        have hi : i < σ.length := by
          have := (List.getElem?_eq_some_iff.mp g3).1
          rw [List.length_set, q.len] at this
          exact this
        rw [List.getElem?_set_self (by rw [q.len]; exact hi)] at g3
        rw [List.getElem?_set_self hi]
        intro ev
        have ev' : v = .ref a := Option.some.inj (Option.some.inj ev)
        cases r with
        | v d => cases g3
        | o w =>
          have := z.dis 0 (j + 1) w x a rfl (by simpa using g1) (by simp [ev']) (by simpa using g2)
          omega
      · rw [List.getElem?_set_ne hk] at g3 ⊢
        exact n (j + 1) x a (by simpa using g1) (by simpa using g2) k y g3
  | [], _ :: _, _, _, _, _, _, _, _, h, _ => by unfold setSls at h; cases h
  | _ :: _, [], _, _, _, _, _, _, _, h, _ => by unfold setSls at h; cases h
theorem SOk.setRs {K : PySem.W.Frag} {W0 W W' : Wd} {H0 H H' : Hp} {S S' : Sto} {env env' : Envm} {σ : L2.St} {is : List Nat} {rs : List R} {vs : List V} (s : SOk K W0 H0 W H S env σ) (e : Ext W H W' H') (o : WOk K W' S' H') (z : RL K W' H' H rs vs) (h : setSls is rs env = some env') :
    SOk K W0 H0 W' H' S' env' (setSts is vs σ) := by
  have s' := s.step e o
  refine ⟨s'.ext, o, EnvOk.setRs (H1 := H) is rs vs env env' σ s'.env z (fun a h => s.ext.fresh h) h fun i x a g1 g2 j y g3 g4 => ?_⟩
  obtain ⟨b, u, l1, l2, l3, l4, l5, l6⟩ := z.each i _ _ g1 g2
  cases l1
  obtain ⟨u', k1, _⟩ := s.env.owned g3 g4
  rw [l6] at k1
  cases k1
/-- the end of an assignment to several names -/
theorem par_of {K : PySem.W.Frag} {is : List Nat} {d : DRs} {D : Ends} {σ : L2.St} {H : Hp} (h : tS K EX (dPar is d) D σ H) : tAR K d σ H fun vs H1 => vs.length = is.length ∧ D.nx (setSts is vs σ) H1 ∧ ∀ p u, H1 p = none → D.nx (setSts is vs σ) (upd H1 p u) := by
  obtain ⟨W0, H0, W, S, env, s, q⟩ := h
  unfold dPar at q
  cases h : d env S with
  | xn c x S1 => rw [h] at q; exact q.elim
  | bad => rw [h] at q; exact q.elim
  | ok rs S1 =>
    rw [h] at q
    have q : OutOk K EX W0 H0 W D (match setSls is rs env with | some e1 => Out.nx e1 S1 | none => .bad) := q
    refine ⟨W, S, H0, env, s.ok, s.env, rs, S1, h, fun W1 H1 vs e1 o1 r1 => ?_⟩
    cases hb : setSls is rs env with
    | none => rw [hb] at q; exact q.elim
    | some env' =>
      rw [hb] at q
      have ln : ∀ (is : List Nat) (rs : List R) (e e' : Envm), setSls is rs e = some e' → rs.length = is.length := by
        intro is
        induction is with
        | nil =>
          intro rs e e' g
          cases rs with
          | nil => rfl
          | cons _ _ => unfold setSls at g; cases g
        | cons i is ih =>
          intro rs e e' g
          cases rs with
          | nil => unfold setSls at g; cases g
          | cons r rs =>
            unfold setSls at g
            simp [ih rs _ _ g]
      have s1 := s.setRs e1 o1 r1 hb
      refine ⟨by rw [← r1.len]; exact ln _ _ _ _ hb, q W1 H1 _ s1 e1.gr, fun p u hp => ?_⟩
      have x2 : Ext W1 H1 W1 (upd H1 p u) := lay_ext W1 hp
      exact q W1 _ _ (s1.step x2 (lay_ok o1 hp)) e1.gr
theorem ms_par2 {i j : Nat} {x y : Str} {a b : Expr} {d : DRs} {px py pt : Pos} {kt k2 pt2} (hc : X.calm = true) (hN : X.N.Nodup) (hi : X.N[i]? = some x) (hj : X.N[j]? = some y) (hij : i ≠ j)
    (hx : X.env.scope.names.lookup x = some .local) (hy : X.env.scope.names.lookup y = some .local) (ha : PA X [a, b] (tAR X.K d))
    (hw : swappedStores [.Tuple [.Name x px, .Name y py] kt pt] (.Tuple [a, b] k2 pt2) X.env = pure (some [x, y]))
    (hs : swapsWithSole [.Tuple [.Name x px, .Name y py] kt pt] (.Tuple [a, b] k2 pt2) pos.line X.env = pure false := by rfl) :
    PS X (.Assign [.Tuple [.Name x px, .Name y py] kt pt] (.Tuple [a, b] k2 pt2) pos) (tS X.K EX (dPar [i, j] d)) := PS.imp (ps_par hc hN hi hj hij hx hy ha hw hs) fun D σ H h => by
  obtain ⟨W, S, H0, env, o, eo, rs, S', h1, q⟩ := par_of h
  refine ⟨W, S, H0, env, o, eo, rs, S', h1, fun W' H' vs e1 o1 r1 => ?_⟩
  obtain ⟨q1, q2, _⟩ := q W' H' vs e1 o1 r1
  match vs, q1, q2 with
  | [v, w], _, q2 => exact ⟨v, w, rfl, q2⟩
/-- names, one after another -/
def gNames : List Nat → TGs
  | [] => gNil
  | i :: is => gCons (gName i) (gNames is)
/-! ### name op= e -/
/-! ### objects of slots, and shared ones, that change -/
def isL (S : Sto) (n : Nat) : Bool := match S[n]? with
  | some (.l _) => true
  | _ => false
/-- what is done with a list; own or shared -/
def mutL (i : Nat) (f : List D → Option (List D)) (env : Envm) (S : Sto) : Out := match env[i]? with
  | some (.ow (.l ds)) => (match f ds with
    | some ds' => .nx (env.set i (.ow (.l ds'))) S
    | none => .bad)
  | some (.va (.loc n)) => (match S[n]? with
    | some (.l ds) => (match f ds with
      | some ds' => .nx env (S.set n (.l ds'))
      | none => .bad)
    | _ => .bad)
  | _ => .bad
def listSlot (i : Nat) (env : Envm) (S : Sto) : Bool := match env[i]? with
  | some (.ow (.l _)) => true
  | some (.va (.loc n)) => isL S n
  | _ => false
/-- the slot's list -/
theorem list_slot {K : PySem.W.Frag} {i : Nat} {env : Envm} {S : Sto} {W : Wd} {H H0 : Hp} {σ : L2.St} (o : WOk K W S H) (eo : EnvOk K W H H0 env σ) (h : listSlot i env S = true) : ∃ a xs, σ[i]? = some (some (.ref a)) ∧ H a = some (.lst xs) := by
  unfold listSlot at h
  cases hi : env[i]? with
  | none => rw [hi] at h; cases h
  | some sl =>
    rw [hi] at h
    obtain ⟨ov, h3, h4⟩ := eo.at hi
    cases sl with
    | no => cases h
    | ow y =>
      cases y with
      | k _ _ => cases h
      | t _ _ => cases h
      | fk _ _ => cases h
      | ft _ _ => cases h
      | l ds =>
        obtain ⟨a, u, rfl, g1, g2, g3⟩ := h4
        cases g2 with
        | @l _ xs g2 => exact ⟨a, xs, h3, g1⟩
    | va x =>
      cases x with
      | loc n =>
        obtain ⟨v, rfl, g1⟩ := h4
        cases g1 with
        | @loc _ a g1 =>
        have h : isL S n = true := h
        unfold isL at h
        cases hS : S[n]? with
        | none => rw [hS] at h; cases h
        | some y =>
          rw [hS] at h
          obtain ⟨a0, u0, c1, c2, c3⟩ := o.cell n y hS
          rw [g1] at c1
          cases c1
          cases y with
          | k _ _ => cases h
          | t _ _ => cases h
          | fk _ _ => cases h
          | ft _ _ => cases h
          | l ds =>
            cases c3 with
            | @l _ xs c3 => exact ⟨a, xs, h3, c2⟩
      | _ => cases h
/-- .. and how it is changed -/
theorem mut_of {K : PySem.W.Frag} {i : Nat} {f : List D → Option (List D)} {env : Envm} {S : Sto} {W0 W Wc : Wd} {H H0 : Hp} {σ : L2.St} {D : Ends} (s : SOk K W0 H0 W H S env σ) (g : Gr Wc W) (q : OutOk K EX W0 H0 Wc D (mutL i f env S)) :
    ∃ a ds xs ds', σ[i]? = some (some (.ref a)) ∧ H a = some (.lst xs) ∧ RepL K W.G W.r ds xs ∧ f ds = some ds' ∧ ∀ xs', RepL K W.G W.r ds' xs' → D.nx σ (upd H a (.lst xs')) := by
  unfold mutL at q
  cases hi : env[i]? with
  | none => rw [hi] at q; exact q.elim
  | some sl =>
    rw [hi] at q
    obtain ⟨o, h3, h4⟩ := s.env.at hi
    cases sl with
    | no => exact q.elim
    | ow y =>
      cases y with
      | k _ _ => exact q.elim
      | t _ _ => exact q.elim
      | fk _ _ => exact q.elim
      | ft _ _ => exact q.elim
      | l ds =>
        obtain ⟨a, u, rfl, g1, g2, g3, g4, g5⟩ := h4
        cases g2 with
        | @l _ xs g2 =>
        have q : OutOk K EX W0 H0 Wc D (match f ds with
          | some ds' => .nx (env.set i (.ow (.l ds'))) S
          | none => .bad) := q
        cases hf : f ds with
        | none => rw [hf] at q; exact q.elim
        | some ds' =>
          rw [hf] at q
          exact ⟨a, ds, xs, ds', h3, g1, g2, hf, fun xs' rx => q W _ σ (s.own hi h3 (.l rx)) g⟩
    | va x =>
      cases x with
      | loc n =>
        have q : OutOk K EX W0 H0 Wc D (match S[n]? with
          | some (.l ds) => (match f ds with
            | some ds' => .nx env (S.set n (.l ds'))
            | none => .bad)
          | _ => .bad) := q
        obtain ⟨v0, rfl, g1⟩ := h4
        cases g1 with
        | @loc _ a g1 =>
        cases hS : S[n]? with
        | none => rw [hS] at q; exact q.elim
        | some y =>
          rw [hS] at q
          cases y with
          | k _ _ => exact q.elim
          | t _ _ => exact q.elim
          | fk _ _ => exact q.elim
          | ft _ _ => exact q.elim
          | l ds =>
            have q : OutOk K EX W0 H0 Wc D (match f ds with
              | some ds' => .nx env (S.set n (.l ds'))
              | none => .bad) := q
            cases hf : f ds with
            | none => rw [hf] at q; exact q.elim
            | some ds' =>
              rw [hf] at q
              obtain ⟨a0, u0, c1, c2, c3⟩ := s.ok.cell n _ hS
              rw [g1] at c1
              cases c1
              cases c3 with
              | @l _ xs c3 =>
              refine ⟨a, ds, xs, ds', h3, c2, c3, hf, fun xs' rx => ?_⟩
              exact q W _ σ (s.step (Ext.cell (List.mem_of_getElem? g1)) (s.ok.cellSet g1 (.l rx))) g
      | _ => exact q.elim
/-- x.m(e) as a statement, x a slot's list -/
def dMut1 (i : Nat) (f : List D → D → Option (List D)) (de : DE) : DS := fun env S => if listSlot i env S = true then (match de env S with
  | .ok d S1 => mutL i (f · d) env S1
  | .xn _ _ _ => .bad
  | .bad => .bad) else .bad
theorem mut1_of {K : PySem.W.Frag} {i : Nat} {f : List D → D → Option (List D)} {de : DE} {r : V → List V → Hp → VK → Prop} {D : Ends} {σ : L2.St} {H : Hp}
    (hr : ∀ (G : Hp) (l : List Addr) (H : Hp) (a : Addr) (ds ds' : List MP.D) (d : MP.D) (xs : List V) (v : V) (Q : VK), SubH G H → H a = some (.lst xs) → RepL K G l ds xs → Rep K G l d v → f ds d = some ds' → (∀ xs', RepL K G l ds' xs' → Q .non (upd H a (.lst xs'))) → r (.ref a) [v] H Q)
    (h : tS K EX (dMut1 i f de) D σ H) : tDrop (tBM K "list" r (tVar i) (tCons (tV K de) tNil)) D σ H := by
  obtain ⟨W0, H0, W, S, env, s, q⟩ := h
  unfold dMut1 at q
  split at q
  case isFalse => exact q.elim
  rename_i hl
  obtain ⟨a, xs, h1, h2⟩ := list_slot s.ok s.env hl
  refine ⟨.ref a, h1, .inl ⟨rfl, xs, SqL.of h2⟩, ?_⟩
  cases h : de env S with
  | xn c x S1 => rw [h] at q; exact q.elim
  | bad => rw [h] at q; exact q.elim
  | ok d S1 =>
    rw [h] at q
    refine ⟨W, S, H0, env, s.ok, s.env, d, S1, h, fun W1 H1 v e1 o1 r1 => ?_⟩
    obtain ⟨a', ds, xs', ds', g1, g2, g3, g4, g5⟩ := mut_of (s.step e1 o1) e1.gr q
    rw [h1] at g1
    cases g1
    exact hr W1.G W1.r H1 a ds ds' d xs' v _ o1.sub g2 g3 r1 g4 g5
def fApp : List D → D → Option (List D) := fun ds d => if ds.length ≤ 100000 then some (ds ++ [d]) else none
def fExt : List D → D → Option (List D) := fun ds d => match d with
  | .lst es => if ds.length + es.length ≤ 100000 then some (ds ++ es) else none
  | _ => none
theorem ms_app (i : Nat) {x : Str} {de : DE} {p1 p2 p3 : Pos} (he : PE X e (tV X.K de)) (hN : X.N[i]? = some x := by rfl) (hv : Vis X.env.scope x := by first | exact Or.inl rfl | exact Or.inr (Or.inl rfl) | exact Or.inr (Or.inr rfl)) (hd : (x == ("__debug__" : Str)) = false := by decide)
    (hcd : (x == ("__classdict__" : Str)) = false := by decide) (hst : starEach [e] X.env = (false, eval e X.env) :: starEach [] X.env := by rfl) (hbase : attributeBase (.Name x p1) "append" X.env (eval (.Name x p1) X.env) = eval (.Name x p1) X.env := by rfl)
    (hfew : ((backTo p3 (starEach [e] X.env)).all (fun x => !x.1) && (backToKw p3 (keywordEach [] X.env)).all (fun x => x.1.isSome) && decide ([e].length + ([] : List Keyword).length + (if ([] : List Keyword).isEmpty then 0 else 1) < 30)) = true := by rfl)
    (hline : (p2.endLine == p3.line) = true := by rfl) (hs : swapsWith (.Call (.Attribute (.Name x p1) "append" p2) [e] [] p3) none pos.line X.env = pure false := by rfl) :
    PS X (.Expr (.Call (.Attribute (.Name x p1) "append" p2) [e] [] p3) pos) (tS X.K EX (dMut1 i fApp de)) :=
  PS.imp (ps_expr (pe_bm PySem.F.plainAttrs_list PySem.F.slot_list_append PySem.F.type_list_append mt_append (pe_var hN hv hd hcd) (pa_cons he pa_nil hst) hbase hfew hline hst) hs) fun D σ H h => mut1_of (fun G l H a ds ds' d xs v Q sb h1 h2 h3 h4 h5 => by
    unfold fApp at h4
    split at h4
    case isFalse => cases h4
    cases h4
    have := h2.length
    exact ⟨a, xs, v, rfl, rfl, h1, Nat.lt_of_le_of_lt (show xs.length ≤ 100000 by omega) (by decide), h5 _ (h2.snoc h3)⟩) h
/-- found.append(left.pop(e)) -/
def dAppPop (i j : Nat) (de : DE) : DS := fun env S => if listSlot i env S = true ∧ listSlot j env S = true ∧ i ≠ j then (match de env S with
  | .ok (.int k) S1 => (match env[i]?, env[j]? with
    | some (.ow (.l ds)), some (.ow (.l es)) => if 0 ≤ k ∧ k ≤ 100000 ∧ ds.length ≤ 100000 then (match es[k.toNat]? with
      | some y => .nx ((env.set j (.ow (.l (es.eraseIdx k.toNat)))).set i (.ow (.l (ds ++ [y])))) S1
      | none => .bad) else .bad
    | _, _ => .bad)
  | .ok _ _ => .bad
  | .xn _ _ _ => .bad
  | .bad => .bad) else .bad
end
end MP

namespace MP
open PySem PySem.Spec PyProof.Rows L2
variable {EX : L2.XK}

/-! ### inversions -/
section
variable {K : PySem.W.Frag} {W : Wd} {S : Sto} {H : Hp} {v : V}
theorem RepB.int_inv {i : Int} (h : RepB K W H (.int i) v) : v = .int i := by
  rcases h with h | ⟨x, a, u, e, _⟩
  · cases h; rfl
  · cases x <;> cases e
theorem RepB.bl_inv {i : Bool} (h : RepB K W H (.bl i) v) : v = .bl i := by
  rcases h with h | ⟨x, a, u, e, _⟩
  · cases h; rfl
  · cases x <;> cases e
theorem RepB.str_inv {i : Str} (h : RepB K W H (.str i) v) : v = .str i := by
  rcases h with h | ⟨x, a, u, e, _⟩
  · cases h; rfl
  · cases x <;> cases e
theorem RepB.non_inv (h : RepB K W H .non v) : v = .non := by
  rcases h with h | ⟨x, a, u, e, _⟩
  · cases h; rfl
  · cases x <;> cases e
theorem RepB.lst_inv {ds : List D} (h : RepB K W H (.lst ds) v) (ok : WOk K W S H) : ∃ a xs, v = .ref a ∧ H a = some (.lst xs) ∧ RepL K W.G W.r ds xs := by
  rcases h with h | ⟨x, a, u, e, e2, e3, e4, _⟩
  · cases h with
    | lst h1 h2 => exact ⟨_, _, rfl, ok.sub _ _ h1, h2⟩
  · cases e4 with
    | l e4 =>
      cases e
      exact ⟨_, _, e2, e3, e4⟩
    | k _ _ => cases e
    | t _ _ => cases e
    | fk _ _ => cases e
    | ft _ _ => cases e
theorem RepB.tup_inv {ds : List D} (h : RepB K W H (.tup ds) v) : ∃ a xs, v = .ref a ∧ W.G a = some (.tup xs) ∧ RepL K W.G W.r ds xs := by
  rcases h with h | ⟨x, a, u, e, e2, e3, e4, _⟩
  · cases h with
    | tup h1 h2 => exact ⟨_, _, rfl, h1, h2⟩
  · cases x <;> cases e
theorem RepB.wt_inv {ds : List D} (h : RepB K W H (.wt ds) v) : ∃ a xs, v = .ref a ∧ SqT K W.G a xs ∧ RepL K W.G W.r ds xs := by
  rcases h with h | ⟨x, a, u, e, e2, e3, e4, _⟩
  · cases h with
    | wt h1 h2 => exact ⟨_, _, rfl, h1, h2⟩
  · cases x <;> cases e
theorem RepB.scr_inv {ns : List Int} (h : RepB K W H (.scr ns) v) : ∃ a, v = .ref a ∧ SqL K W.G a (ns.map V.int) := by
  rcases h with h | ⟨x, a, u, e, e2, e3, e4, _⟩
  · cases h with
    | scr h1 => exact ⟨_, rfl, h1⟩
  · cases x <;> cases e
theorem RepB.loc_inv {n : Nat} (h : RepB K W H (.loc n) v) : ∃ a, v = .ref a ∧ W.r[n]? = some a := by
  rcases h with h | ⟨x, a, u, e, e2, e3, e4, _⟩
  · cases h with
    | loc h1 => exact ⟨_, rfl, h1⟩
  · cases x <;> cases e
theorem RepB.dk_inv {ks : List Key} {ds : List D} (h : RepB K W H (.dk ks ds) v) (ok : WOk K W S H) : ∃ a kvs, v = .ref a ∧ H a = some (.dK kvs) ∧ kvs.map (·.1) = ks ∧ RepL K W.G W.r ds (kvs.map (·.2)) := by
  rcases h with h | ⟨x, a, u, e, e2, e3, e4, _⟩
  · cases h with
    | dk h1 h2 h3 => exact ⟨_, _, rfl, ok.sub _ _ h1, h2, h3⟩
  · cases e4 with
    | l e4 => cases e
    | k e4 e5 =>
      cases e
      exact ⟨_, _, e2, e3, e4, e5⟩
    | t _ _ => cases e
    | fk _ _ => cases e
    | ft _ _ => cases e
theorem RepB.dt_inv {ks : List (List Key)} {ds : List D} (h : RepB K W H (.dt ks ds) v) (ok : WOk K W S H) : ∃ a kvs, v = .ref a ∧ H a = some (.dT kvs) ∧ kvs.map (·.1) = ks ∧ RepL K W.G W.r ds (kvs.map (·.2)) := by
  rcases h with h | ⟨x, a, u, e, e2, e3, e4, _⟩
  · cases h with
    | dt h1 h2 h3 => exact ⟨_, _, rfl, ok.sub _ _ h1, h2, h3⟩
  · cases e4 with
    | l e4 => cases e
    | t e4 e5 =>
      cases e
      exact ⟨_, _, e2, e3, e4, e5⟩
    | k _ _ => cases e
    | fk _ _ => cases e
    | ft _ _ => cases e
/-- a locked dict -/
theorem RepB.fk_inv {ks : List Key} {ds : List D} (h : RepB K W H (.fk ks ds) v) (ok : WOk K W S H) : ∃ a o kvs, v = .ref a ∧ H a = some (.frz o (.dK kvs)) ∧ kvs.map (·.1) = ks ∧ RepL K W.G W.r ds (kvs.map (·.2)) := by
  rcases h with h | ⟨x, a, u, e, e2, e3, e4, _⟩
  · cases h with
    | fk h1 h2 h3 => exact ⟨_, _, _, rfl, ok.sub _ _ h1, h2, h3⟩
  · cases e4 with
    | fk e4 e5 =>
      cases e
      exact ⟨_, _, _, e2, e3, e4, e5⟩
    | _ => cases e
theorem RepB.ft_inv {ks : List (List Key)} {ds : List D} (h : RepB K W H (.ft ks ds) v) (ok : WOk K W S H) : ∃ a o kvs, v = .ref a ∧ H a = some (.frz o (.dT kvs)) ∧ kvs.map (·.1) = ks ∧ RepL K W.G W.r ds (kvs.map (·.2)) := by
  rcases h with h | ⟨x, a, u, e, e2, e3, e4, _⟩
  · cases h with
    | ft h1 h2 h3 => exact ⟨_, _, _, rfl, ok.sub _ _ h1, h2, h3⟩
  · cases e4 with
    | ft e4 e5 =>
      cases e
      exact ⟨_, _, _, e2, e3, e4, e5⟩
    | _ => cases e
theorem WOk.loc {n : Nat} {a : Addr} {ds : List D} (ok : WOk K W S H) (h : W.r[n]? = some a) (e : S[n]? = some (.l ds)) : ∃ xs, H a = some (.lst xs) ∧ RepL K W.G W.r ds xs := by
  obtain ⟨b, u, h1, h2, h3⟩ := ok.cell n _ e
  rw [h] at h1
  cases h1
  cases h3 with
  | l h3 => exact ⟨_, h2, h3⟩
end
/-- an operator that gives a value of no heap -/
def pureO (g : D → D → Option D) : D → D → Sto → Res R := fun d e S => match g d e with
  | some r => .ok (.v r) S
  | none => .bad
theorem pureO_ok {g : D → D → Option D} {d e : D} {S S' : Sto} {r : R} (h : pureO g d e S = .ok r S') : ∃ z, g d e = some z ∧ r = .v z ∧ S' = S := by
  unfold pureO at h
  cases hg : g d e with
  | none => rw [hg] at h; cases h
  | some z =>
    rw [hg] at h
    cases h
    exact ⟨z, rfl, rfl, rfl⟩

/-! ### arithmetic -/
def fAdd : D → D → Sto → Res R := fun d e S => match d, e with
  | .int i, .int j => .ok (.v (.int (i + j))) S
  | .lst xs, .lst ys => if xs.length + ys.length ≤ 100000 then .ok (.o (.l (xs ++ ys))) S else .bad
  | .tup xs, .tup ys => if xs.length + ys.length ≤ 100000 then .ok (.v (.tup (xs ++ ys))) S else .bad
  | .str x, .str y => if x.length + y.length ≤ 100000 then .ok (.v (.str (x ++ y))) S else .bad
  | _, _ => .bad
def gI (f : Int → Int → Int) : D → D → Option D := fun d e => match d, e with
  | .int i, .int j => some (.int (f i j))
  | _, _ => none
def gB (f : Int → Int → Bool) : D → D → Option D := fun d e => match d, e with
  | .int i, .int j => some (.bl (f i j))
  | _, _ => none
theorem gI_inv {f : Int → Int → Int} {d e z : D} (h : gI f d e = some z) : ∃ i j, d = .int i ∧ e = .int j ∧ z = .int (f i j) := by
  unfold gI at h
  split at h
  · cases h
    exact ⟨_, _, rfl, rfl, rfl⟩
  · cases h
section
variable {X : Cx}
theorem OpR.imp {f : Value → Value → Sem Value} {r r' : R2} (h : OpR X f r) (i : ∀ x y H Q, r' x y H Q → r x y H Q) : OpR X f r' := fun pins s σ H x y v u Q I rx ry q => h pins s σ H x y v u Q I rx ry (i x y H Q q)
theorem CallR.imp {f : Value} {r r' : List V → Hp → VK → Prop} (h : CallR X f r) (i : ∀ x H Q, r' x H Q → r x H Q) : CallR X f r' := fun pins s σ H x u Q I rx q => h pins s σ H x u Q I rx (i x H Q q)
theorem IxR.imp {r r' : R2} (h : IxR X r) (i : ∀ x y H Q, r' x y H Q → r x y H Q) : IxR X r' := fun value slice pins s σ H x y v u Q I rx ry q => h value slice pins s σ H x y v u Q I rx ry (i x y H Q q)
theorem mo_add : OpR X (binaryOp .Add) (rO X.K fAdd) :=
  OpR.imp (OpR.or op_add (OpR.or op_cat (OpR.or op_catA op_add_str))) fun x y H Q ⟨W, S, d, e, r, S', ok, rx, ry, h, q⟩ => by
    unfold fAdd at h
    split at h
    · cases h
      obtain rfl := rx.int_inv
      obtain rfl := ry.int_inv
      exact .inl ⟨_, _, rfl, rfl, q W H _ (Ext.refl _ _) ok (.int _)⟩
    · split at h
      case isFalse => cases h
      cases h
      rename_i hl
      obtain ⟨a, xs', rfl, h1, h2⟩ := rx.lst_inv ok
      obtain ⟨b, ys', rfl, h3, h4⟩ := ry.lst_inv ok
      refine .inr (.inl ⟨a, b, xs', ys', rfl, rfl, h1, h3, ?_, fun p hp => ?_⟩)
      · rw [← h2.length, ← h4.length]
        exact le_sizeLine hl
      · obtain ⟨e1, o1, r1⟩ := obj_new (x := .l _) ok hp (.l (h2.append h4))
        exact q _ _ _ e1 o1 r1
    · split at h
      case isFalse => cases h
      cases h
      rename_i hl
      obtain ⟨a, xs', rfl, h1, h2⟩ := rx.tup_inv
      obtain ⟨b, ys', rfl, h3, h4⟩ := ry.tup_inv
      refine .inr (.inr (.inl ⟨a, b, xs', ys', rfl, rfl, SqT.of (ok.sub _ _ h1), SqT.of (ok.sub _ _ h3), ?_, fun z => ?_, fun z1 z2 => ?_, fun z1 z2 p hp => ?_⟩))
      · rw [← h2.length, ← h4.length]
        exact le_sizeLine hl
      · subst z
        cases h2
        exact q W H _ (Ext.refl _ _) ok (.tup h3 h4)
      · subst z2
        cases h4
        rw [List.append_nil] at q
        exact q W H _ (Ext.refl _ _) ok (.tup h1 h2)
      · obtain ⟨e1, o1, r1⟩ := tup_new ok hp (h2.append h4)
        exact q _ _ _ e1 o1 r1
    · split at h
      case isFalse => cases h
      cases h
      rename_i hl
      obtain rfl := rx.str_inv
      obtain rfl := ry.str_inv
      exact .inr (.inr (.inr ⟨_, _, rfl, rfl, le_sizeLine hl, q W H _ (Ext.refl _ _) ok (.str _)⟩))
    · cases h
theorem mo_int {f : Value → Value → Sem Value} {g : Int → Int → Int} (h : OpR X f (rI0 fun i j => .int (g i j))) : OpR X f (rO X.K (pureO (gI g))) := OpR.imp h fun x y H Q ⟨W, S, d, e, r, S', ok, rx, ry, h, q⟩ => by
  obtain ⟨z, h1, rfl, rfl⟩ := pureO_ok h
  obtain ⟨i, j, rfl, rfl, rfl⟩ := gI_inv h1
  obtain rfl := rx.int_inv
  obtain rfl := ry.int_inv
  exact ⟨_, _, rfl, rfl, q W H _ (Ext.refl _ _) ok (.int _)⟩
def fSub := pureO (gI fun i j => i - j)
theorem mo_sub : OpR X (binaryOp .Sub) (rO X.K fSub) := mo_int op_sub
/-- products: of ints, one of them below 2^64, or both below 2^2000; a list so many times -/
def big : Nat := 2 ^ 2000
def mulOk (i j : Int) : Bool := decide (i.natAbs < 18446744073709551616) || decide (j.natAbs < 18446744073709551616) || (decide (i.natAbs < big) && decide (j.natAbs < big))
theorem mulOk_ok {i j : Int} (h : mulOk i j = true) : CMul i j ∨ CMulW i j := by
  unfold mulOk at h
  simp only [Bool.or_eq_true, Bool.and_eq_true, decide_eq_true_eq] at h
  rcases h with (h | h) | ⟨h1, h2⟩
  · exact .inl (.inl ⟨by omega, by omega⟩)
  · exact .inl (.inr ⟨by omega, by omega⟩)
  · exact .inr (wide_mul (a := 2000) (b := 2000) h1 h2 (by decide) (by decide) (by decide))
def fMul : D → D → Sto → Res R := fun d e S => match d, e with
  | .int i, .int j => if mulOk i j = true then .ok (.v (.int (i * j))) S else .bad
  | .lst xs, .int k => if xs.length * k.toNat ≤ 100000 ∧ -100000 ≤ k ∧ k ≤ 100000 then .ok (.o (.l (List.replicate k.toNat xs).flatten)) S else .bad
  | _, _ => .bad
theorem RepL.rep {K : PySem.W.Frag} {G : Hp} {l : List Addr} {ds : List D} {xs : List V} (h : RepL K G l ds xs) : ∀ n : Nat, RepL K G l (List.replicate n ds).flatten (List.replicate n xs).flatten
  | 0 => .nil
  | n + 1 => by
    rw [List.replicate_succ, List.replicate_succ, List.flatten_cons, List.flatten_cons]
    exact h.append (h.rep n)
theorem mo_mul : OpR X (binaryOp .Mult) (rO X.K fMul) :=
  OpR.imp (OpR.or op_mul (OpR.or op_mulW op_rep)) fun x y H Q ⟨W, S, d, e, r, S', ok, rx, ry, h, q⟩ => by
    unfold fMul at h
    split at h
    · split at h
      case isFalse => cases h
      cases h
      rename_i hm
      obtain rfl := rx.int_inv
      obtain rfl := ry.int_inv
      rcases mulOk_ok hm with c | c
      · exact .inl ⟨_, _, rfl, rfl, c, q W H _ (Ext.refl _ _) ok (.int _)⟩
      · exact .inr (.inl ⟨_, _, rfl, rfl, c, q W H _ (Ext.refl _ _) ok (.int _)⟩)
    · split at h
      case isFalse => cases h
      cases h
      rename_i hm
      obtain ⟨a, xs', rfl, h1, h2⟩ := rx.lst_inv ok
      obtain rfl := ry.int_inv
      refine .inr (.inr ⟨a, _, xs', rfl, rfl, h1, by omega, by omega, ?_, fun p hp => ?_⟩)
      · rw [← h2.length]
        exact le_sizeLine hm.1
      · obtain ⟨e1, o1, r1⟩ := obj_new (x := .l _) ok hp (.l (h2.rep _))
        exact q _ _ _ e1 o1 r1
    · cases h
def fIMul : D → D → Sto → Res R := fun d e S => match d, e with
  | .int i, .int j => if mulOk i j = true then .ok (.v (.int (i * j))) S else .bad
  | _, _ => .bad
def fDiv : D → D → Sto → Res R := fun d e S => match d, e with
  | .int i, .int j => if 0 < j ∧ j.natAbs < big then .ok (.v (.int (i / j))) S else .bad
  | _, _ => .bad
theorem mo_div : OpR X (binaryOp .FloorDiv) (rO X.K fDiv) := OpR.imp op_fdivW fun x y H Q ⟨W, S, d, e, r, S', ok, rx, ry, h, q⟩ => by
  unfold fDiv at h
  split at h
  · split at h
    case isFalse => cases h
    cases h
    rename_i hm
    obtain rfl := rx.int_inv
    obtain rfl := ry.int_inv
    exact ⟨_, _, rfl, rfl, wide_div (b := 2000) hm.1 hm.2 (by decide) (by decide), q W H _ (Ext.refl _ _) ok (.int _)⟩
  · cases h
def fMod : D → D → Sto → Res R := fun d e S => match d, e with
  | .int i, .int j => if 0 < j then .ok (.v (.int (i % j))) S else .bad
  | _, _ => .bad
theorem mo_mod : OpR X (binaryOp .Mod) (rO X.K fMod) := OpR.imp op_mod fun x y H Q ⟨W, S, d, e, r, S', ok, rx, ry, h, q⟩ => by
  unfold fMod at h
  split at h
  · split at h
    case isFalse => cases h
    cases h
    rename_i hm
    obtain rfl := rx.int_inv
    obtain rfl := ry.int_inv
    exact ⟨_, _, rfl, rfl, hm, q W H _ (Ext.refl _ _) ok (.int _)⟩
  · cases h
def fPow : D → D → Sto → Res R := fun d e S => match d, e with
  | .int i, .int j => if 0 ≤ j ∧ j ≤ 1000 ∧ i.natAbs < 18446744073709551616 then .ok (.v (.int (i ^ j.toNat))) S else .bad
  | _, _ => .bad
theorem mo_pow : OpR X (binaryOp .Pow) (rO X.K fPow) := OpR.imp op_pow fun x y H Q ⟨W, S, d, e, r, S', ok, rx, ry, h, q⟩ => by
  unfold fPow at h
  split at h
  · split at h
    case isFalse => cases h
    cases h
    rename_i hm
    obtain rfl := rx.int_inv
    obtain rfl := ry.int_inv
    exact ⟨_, _, rfl, rfl, ⟨hm.1, by omega, hm.2.2⟩, q W H _ (Ext.refl _ _) ok (.int _)⟩
  · cases h
def fNeg : D → Sto → Res R := fun d S => match d with
  | .int i => .ok (.v (.int (-i))) S
  | _ => .bad
/-! ### equality -/
def fitN : Nat → D → Bool
  | _, .non => true
  | _, .bl _ => true
  | _, .int _ => true
  | _, .str x => PyData.strOk x
  | n + 1, .tup ds => ds.all (fitN n)
  | n + 1, .lst ds => ds.all (fitN n)
  | _, _ => false
mutual
def toPy : D → PyData
  | .bl b => .bool b
  | .int i => .int i
  | .str x => .str x
  | .tup ds => .tuple (toPys ds)
  | .lst ds => .list (toPys ds)
  | _ => .none
def toPys : List D → List PyData
  | [] => []
  | d :: ds => toPy d :: toPys ds
end
mutual
/-- Python's == of data -/
def deq : D → D → Bool
  | .non, .non => true
  | .bl a, .bl b => a == b
  | .bl a, .int j => (if a then 1 else 0) == j
  | .int i, .bl b => i == (if b then 1 else 0)
  | .int i, .int j => i == j
  | .str x, .str y => x == y
  | .lst xs, .lst ys => deqs xs ys
  | .tup xs, .tup ys => deqs xs ys
  | _, _ => false
def deqs : List D → List D → Bool
  | [], [] => true
  | x :: xs, y :: ys => deq x y && deqs xs ys
  | _, _ => false
end
theorem fit_lay : ∀ (n : Nat) (d : D), fitN n d = true → (toPy d).canLay0 = true ∧ (toPy d).depth ≤ n + 1 := by
  intro n
  induction n with
  | zero =>
    intro d h
    cases d with
    | non => exact ⟨by simp [toPy, PyData.canLay0], by simp [toPy, PyData.depth]⟩
    | bl b => exact ⟨by simp [toPy, PyData.canLay0], by simp [toPy, PyData.depth]⟩
    | int i => exact ⟨by simp [toPy, PyData.canLay0], by simp [toPy, PyData.depth]⟩
    | str x =>
      have h : PyData.strOk x = true := h
      exact ⟨by simpa [toPy, PyData.canLay0] using h, by simp [toPy, PyData.depth]⟩
    | _ => simp [fitN] at h
  | succ n ih =>
    have all : ∀ ds : List D, ds.all (fitN n) = true → PyData.canLayAll0 (toPys ds) = true ∧ PyData.depthAll (toPys ds) ≤ n + 1 := by
      intro ds
      induction ds with
      | nil => intro _; exact ⟨by simp [toPys, PyData.canLayAll0], by simp [toPys, PyData.depthAll]⟩
      | cons d ds ih2 =>
        intro h
        rw [List.all_cons, Bool.and_eq_true] at h
        obtain ⟨h1, h2⟩ := ih d h.1
        obtain ⟨h3, h4⟩ := ih2 h.2
        refine ⟨by simp [toPys, PyData.canLayAll0, h1, h3], ?_⟩
        simp only [toPys, PyData.depthAll]
        omega
    intro d h
    cases d with
    | non => exact ⟨by simp [toPy, PyData.canLay0], by simp [toPy, PyData.depth]⟩
    | bl b => exact ⟨by simp [toPy, PyData.canLay0], by simp [toPy, PyData.depth]⟩
    | int i => exact ⟨by simp [toPy, PyData.canLay0], by simp [toPy, PyData.depth]⟩
    | str x =>
      have h : PyData.strOk x = true := h
      exact ⟨by simpa [toPy, PyData.canLay0] using h, by simp [toPy, PyData.depth]⟩
    | tup ds =>
      have h : ds.all (fitN n) = true := h
      obtain ⟨h1, h2⟩ := all ds h
      refine ⟨by simpa [toPy, PyData.canLay0] using h1, ?_⟩
      simp only [toPy, PyData.depth]
      omega
    | lst ds =>
      have h : ds.all (fitN n) = true := h
      obtain ⟨h1, h2⟩ := all ds h
      refine ⟨by simpa [toPy, PyData.canLay0] using h1, ?_⟩
      simp only [toPy, PyData.depth]
      omega
    | _ => simp [fitN] at h
theorem fit_shaped {d : D} (h : fitN 20 d = true) : SeqAt.shaped (toPy d) = true := by
  obtain ⟨h1, h2⟩ := fit_lay 20 d h
  unfold SeqAt.shaped
  rw [h1, Bool.true_and]
  exact decide_eq_true (by omega)
theorem fit_dp {K : PySem.W.Frag} {G H : Hp} {l : List Addr} (sb : SubH G H) : ∀ (n : Nat) (d : D) (v : V), fitN n d = true → Rep K G l d v → Dp K H v (toPy d) := by
  intro n
  induction n with
  | zero =>
    intro d v h r
    cases r with
    | non => exact .non
    | bl b => exact .bl b
    | int i => exact .int i
    | str x => exact .str x
    | _ => simp [fitN] at h
  | succ n ih =>
    have all : ∀ (ds : List D) (xs : List V), ds.all (fitN n) = true → RepL K G l ds xs → DpAll K H xs (toPys ds) := by
      intro ds
      induction ds with
      | nil => intro xs _ r; cases r; exact .nil
      | cons d ds ih2 =>
        intro xs h r
        rw [List.all_cons, Bool.and_eq_true] at h
        cases r with
        | cons r1 r2 => exact .cons (ih d _ h.1 r1) (ih2 _ h.2 r2)
    intro d v h r
    cases r with
    | non => exact .non
    | bl b => exact .bl b
    | int i => exact .int i
    | str x => exact .str x
    | @tup a xs ds r1 r2 => exact .tup (SqT.of (sb _ _ r1)) (all ds xs h r2)
    | @lst a xs ds r1 r2 => exact .lst (SqL.of (sb _ _ r1)) (all ds xs h r2)
    | _ => simp [fitN] at h
theorem fit_dps {K : PySem.W.Frag} {G H : Hp} {l : List Addr} (sb : SubH G H) (n : Nat) : ∀ (ds : List D) (xs : List V), ds.all (fitN n) = true → RepL K G l ds xs → DpAll K H xs (toPys ds)
  | [], _, _, .nil => .nil
  | d :: ds, _, h, .cons r1 r2 => by
    rw [List.all_cons, Bool.and_eq_true] at h
    exact .cons (fit_dp sb n d _ h.1 r1) (fit_dps sb n ds _ h.2 r2)
theorem RepB.dp {K : PySem.W.Frag} {W : Wd} {S : Sto} {H : Hp} {d : D} {v : V} {n : Nat} (h : RepB K W H d v) (ok : WOk K W S H) (f : fitN (n + 1) d = true) : Dp K H v (toPy d) := by
  rcases h with h | ⟨x, a, u, rfl, rfl, h3, h4, _⟩
  · exact fit_dp ok.sub (n + 1) d v f h
  · cases h4 with
    | @l ds xs h4 => exact .lst (SqL.of h3) (fit_dps ok.sub n ds xs f h4)
    | k _ _ => simp [O.toD, fitN] at f
    | t _ _ => simp [O.toD, fitN] at f
    | fk _ _ => simp [O.toD, fitN] at f
    | ft _ _ => simp [O.toD, fitN] at f
theorem deq_py : ∀ (n : Nat) (d e : D), fitN n d = true → fitN n e = true → PyData.eqv (toPy d) (toPy e) = deq d e := by
  intro n
  induction n with
  | zero =>
    intro d e h1 h2
    cases d <;> first | (simp [fitN] at h1; done) | (cases e <;> first | (simp [fitN] at h2; done) | simp [toPy, PyData.eqv, deq])
  | succ n ih =>
    have all : ∀ ds es : List D, ds.all (fitN n) = true → es.all (fitN n) = true → PyData.eqvAll (toPys ds) (toPys es) = deqs ds es := by
      intro ds
      induction ds with
      | nil => intro es _ _; cases es <;> simp [toPys, PyData.eqvAll, deqs]
      | cons d ds ih2 =>
        intro es h1 h2
        cases es with
        | nil => simp [toPys, PyData.eqvAll, deqs]
        | cons e es =>
          rw [List.all_cons, Bool.and_eq_true] at h1 h2
          simp only [toPys, PyData.eqvAll, deqs]
          rw [ih d e h1.1 h2.1, ih2 es h1.2 h2.2]
    intro d e h1 h2
    cases d <;> first | (simp [fitN] at h1; done) | (cases e <;> first | (simp [fitN] at h2; done) | (simp [toPy, PyData.eqv, deq]; done) | (simp only [toPy, PyData.eqv, deq]; exact all _ _ h1 h2))
def fEq : D → D → Sto → Res R := fun d e S => if fitN 20 d = true ∧ fitN 20 e = true then .ok (.v (.bl (deq d e))) S else .bad
def fNe : D → D → Sto → Res R := fun d e S => if fitN 20 d = true ∧ fitN 20 e = true then .ok (.v (.bl (!deq d e))) S else .bad
theorem mo_eq (hu : X.A.units + 64 < cLine) : OpR X (compareOp .Eq) (rO X.K fEq) := OpR.imp (op_eqD hu) fun x y H Q ⟨W, S, d, e, r, S', ok, rx, ry, h, q⟩ => by
  unfold fEq at h
  split at h
  case isFalse => cases h
  cases h
  rename_i hf
  refine ⟨toPy d, toPy e, rx.dp ok hf.1, ry.dp ok hf.2, fit_shaped hf.1, fit_shaped hf.2, ?_⟩
  rw [deq_py 20 d e hf.1 hf.2]
  exact q W H _ (Ext.refl _ _) ok (.bl _)
theorem mo_ne (hu : X.A.units + 64 < cLine) : OpR X (compareOp .NotEq) (rO X.K fNe) := OpR.imp (op_neD hu) fun x y H Q ⟨W, S, d, e, r, S', ok, rx, ry, h, q⟩ => by
  unfold fNe at h
  split at h
  case isFalse => cases h
  cases h
  rename_i hf
  refine ⟨toPy d, toPy e, rx.dp ok hf.1, ry.dp ok hf.2, fit_shaped hf.1, fit_shaped hf.2, ?_⟩
  rw [deq_py 20 d e hf.1 hf.2]
  exact q W H _ (Ext.refl _ _) ok (.bl _)
def isNon : D → Bool
  | .non => true
  | _ => false
theorem RepB.isNon {K : PySem.W.Frag} {W : Wd} {H : Hp} {d : D} {v : V} (h : RepB K W H d v) : decide (v = .non) = MP.isNon d := by
  rcases h with h | ⟨x, a, u, rfl, rfl, _⟩
  · cases h <;> first | rfl | exact decide_eq_false (fun z => nomatch z)
  · cases x <;> exact decide_eq_false (fun z => nomatch z)
end
end MP

namespace MP
open PySem PySem.Spec PyProof.Rows L2
variable {EX : L2.XK}

/-! ### dicts by keys -/
def keyOf : D → Option Key
  | .int i => some (.inl i)
  | .str x => some (.inr x)
  | _ => none
def keysOfL : List D → Option (List Key)
  | [] => some []
  | d :: ds => match keyOf d, keysOfL ds with
    | some k, some ks => some (k :: ks)
    | _, _ => none
def keysOf : D → Option (List Key)
  | .tup ds => keysOfL ds
  | _ => none
section
variable {κ : Type} [DecidableEq κ]
def lookK : List κ → List D → κ → Option D
  | k :: ks, d :: ds, q => if k = q then some d else lookK ks ds q
  | _, _, _ => none
def putVs : List κ → List D → κ → D → List D
  | k :: ks, d :: ds, q, z => (if k = q then z else d) :: putVs ks ds q z
  | _, _, _, _ => []
def putKs (ks : List κ) (q : κ) : List κ := if q ∈ ks then ks else ks ++ [q]
def putDs (ks : List κ) (ds : List D) (q : κ) (z : D) : List D := if q ∈ ks then putVs ks ds q z else ds ++ [z]
variable {K : PySem.W.Frag} {G : Hp} {l : List Addr}
theorem look_some : ∀ {kvs : List (κ × V)} {ks : List κ} {ds : List D} {q : κ} {d : D}, kvs.map (·.1) = ks → RepL K G l ds (kvs.map (·.2)) → lookK ks ds q = some d → ∃ v, valV kvs q = some v ∧ Rep K G l d v
  | [], ks, ds, q, d, e, r, h => by
    subst e
    cases r
    unfold lookK at h
    cases h
  | (k, v) :: kvs, ks, ds, q, d, e, r, h => by
    subst e
    cases r with
    | cons r1 r2 =>
      rw [List.map_cons] at h
      unfold lookK at h
      by_cases c : k = q
      · rw [if_pos c] at h
        cases h
        exact ⟨v, valV_pos c, r1⟩
      · rw [if_neg c] at h
        obtain ⟨w, h1, h2⟩ := look_some rfl r2 h
        exact ⟨w, by rw [valV_neg c]; exact h1, h2⟩
theorem look_none : ∀ {kvs : List (κ × V)} {ks : List κ} {ds : List D} {q : κ}, kvs.map (·.1) = ks → RepL K G l ds (kvs.map (·.2)) → lookK ks ds q = none → valV kvs q = none
  | [], ks, ds, q, e, r, h => rfl
  | (k, v) :: kvs, ks, ds, q, e, r, h => by
    subst e
    cases r with
    | cons r1 r2 =>
      rw [List.map_cons] at h
      unfold lookK at h
      by_cases c : k = q
      · rw [if_pos c] at h
        cases h
      · rw [if_neg c] at h
        rw [valV_neg c]
        exact look_none rfl r2 h
end
theorem key_rep {K : PySem.W.Frag} {W : Wd} {H : Hp} {d : D} {v : V} {k : Key} (h : RepB K W H d v) (e : keyOf d = some k) : v = kV k := by
  cases d with
  | int i => cases e; rw [h.int_inv]; rfl
  | str x => cases e; rw [h.str_inv]; rfl
  | _ => cases e
theorem keysL_rep {K : PySem.W.Frag} {W : Wd} {H : Hp} : ∀ {ds : List D} {xs : List V} {ks : List Key}, RepL K W.G W.r ds xs → keysOfL ds = some ks → xs = ks.map kV
  | [], _, ks, r, e => by
    cases r
    unfold keysOfL at e
    cases e
    rfl
  | d :: ds, _, ks, r, e => by
    cases r with
    | cons r1 r2 =>
      unfold keysOfL at e
      split at e
      · rename_i k ks' h1 h2
        cases e
        rw [key_rep (H := H) (.inl r1) h1, keysL_rep (H := H) r2 h2]
        rfl
      · cases e
theorem keys_rep {K : PySem.W.Frag} {W : Wd} {S : Sto} {H : Hp} {d : D} {v : V} {ks : List Key} (h : RepB K W H d v) (ok : WOk K W S H) (e : keysOf d = some ks) : ∃ b, v = .ref b ∧ H b = some (.tup (ks.map kV)) := by
  cases d with
  | tup ds =>
    obtain ⟨b, xs, rfl, h1, h2⟩ := h.tup_inv
    rw [← keysL_rep (H := H) h2 e]
    exact ⟨b, rfl, ok.sub _ _ h1⟩
  | _ => cases e
/-- what a dict holds at a key -/
def dlook : D → D → Option (Option D)
  | .dk ks ds, k => match keyOf k with
    | some q => some (lookK ks ds q)
    | none => none
  | .dt ks ds, k => match keysOf k with
    | some q => some (lookK ks ds q)
    | none => none
  | .fk ks ds, k => match keyOf k with
    | some q => some (lookK ks ds q)
    | none => none
  | .ft ks ds, k => match keysOf k with
    | some q => some (lookK ks ds q)
    | none => none
  | _, _ => none
theorem dlook_get {K : PySem.W.Frag} {W : Wd} {S : Sto} {H : Hp} {d k : D} {v y : V} {o : Option D} (ok : WOk K W S H) (h : RepB K W H d v) (hk : RepB K W H k y) (e : dlook d k = some o) :
    ∃ a ov, v = .ref a ∧ DGet H a y ov ∧ ov.isSome = o.isSome ∧ (∀ z, o = some z → ∃ u, ov = some u ∧ Rep K W.G W.r z u) := by
  unfold dlook at e
  split at e
  · split at e
    case h_2 => cases e
    rename_i ks ds _ q hq
    obtain ⟨a, kvs, rfl, h1, h2, h3⟩ := h.dk_inv ok
    obtain rfl := key_rep hk hq
    cases e
    refine ⟨a, valV kvs q, rfl, DGet.k h1, ?_, fun z hz => ?_⟩
    · cases hl : lookK ks ds q with
      | none => rw [look_none h2 h3 hl]; rfl
      | some z =>
        obtain ⟨u, g1, g2⟩ := look_some h2 h3 hl
        rw [g1]
        rfl
    · obtain ⟨u, g1, g2⟩ := look_some h2 h3 hz
      exact ⟨u, g1, g2⟩
  · split at e
    case h_2 => cases e
    rename_i ks ds _ q hq
    obtain ⟨a, kvs, rfl, h1, h2, h3⟩ := h.dt_inv ok
    obtain ⟨b, rfl, hb⟩ := keys_rep hk ok hq
    cases e
    refine ⟨a, valV kvs q, rfl, DGet.t h1 hb, ?_, fun z hz => ?_⟩
    · cases hl : lookK ks ds q with
      | none => rw [look_none h2 h3 hl]; rfl
      | some z =>
        obtain ⟨u, g1, g2⟩ := look_some h2 h3 hl
        rw [g1]
        rfl
    · obtain ⟨u, g1, g2⟩ := look_some h2 h3 hz
      exact ⟨u, g1, g2⟩
  · split at e
    case h_2 => cases e
    rename_i ks ds _ q hq
    obtain ⟨a, oo, kvs, rfl, h1, h2, h3⟩ := h.fk_inv ok
    obtain rfl := key_rep hk hq
    cases e
    refine ⟨a, valV kvs q, rfl, (.inl ⟨kvs, q, .inr ⟨oo, h1⟩, rfl, rfl⟩), ?_, fun z hz => ?_⟩
    · cases hl : lookK ks ds q with
      | none => rw [look_none h2 h3 hl]; rfl
      | some z =>
        obtain ⟨u, g1, g2⟩ := look_some h2 h3 hl
        rw [g1]
        rfl
    · obtain ⟨u, g1, g2⟩ := look_some h2 h3 hz
      exact ⟨u, g1, g2⟩
  · split at e
    case h_2 => cases e
    rename_i ks ds _ q hq
    obtain ⟨a, oo, kvs, rfl, h1, h2, h3⟩ := h.ft_inv ok
    obtain ⟨b, rfl, hb⟩ := keys_rep hk ok hq
    cases e
    refine ⟨a, valV kvs q, rfl, (.inr ⟨kvs, q, b, .inr ⟨oo, h1⟩, rfl, hb, rfl⟩), ?_, fun z hz => ?_⟩
    · cases hl : lookK ks ds q with
      | none => rw [look_none h2 h3 hl]; rfl
      | some z =>
        obtain ⟨u, g1, g2⟩ := look_some h2 h3 hl
        rw [g1]
        rfl
    · obtain ⟨u, g1, g2⟩ := look_some h2 h3 hz
      exact ⟨u, g1, g2⟩
  · cases e

/-! ### in -/
def din (d c : D) : Option Bool := match c with
  | .lst es => if fitN 20 d = true ∧ es.all (fitN 19) = true then some (es.any fun z => deq z d) else none
  | .tup es => if fitN 20 d = true ∧ es.all (fitN 19) = true then some (es.any fun z => deq z d) else none
  | .wt es => if fitN 20 d = true ∧ es.all (fitN 19) = true then some (es.any fun z => deq z d) else none
  | .dk ks ds => (dlook (.dk ks ds) d).map (·.isSome)
  | .dt ks ds => (dlook (.dt ks ds) d).map (·.isSome)
  | .fk ks ds => (dlook (.fk ks ds) d).map (·.isSome)
  | .ft ks ds => (dlook (.ft ks ds) d).map (·.isSome)
  | _ => none
def fIn : D → D → Sto → Res R := fun d c S => match din d c with
  | some b => .ok (.v (.bl b)) S
  | none => .bad
def fNotIn : D → D → Sto → Res R := fun d c S => match din d c with
  | some b => .ok (.v (.bl (!b))) S
  | none => .bad
section
variable {X : Cx}
/-! ### items -/
def ixD (xs : List D) (i : Int) : Option D := if 0 ≤ i then xs[i.toNat]? else if -(xs.length : Int) ≤ i then xs[(i + xs.length).toNat]? else none
def fIx : D → D → Sto → Res R := fun d e S => match d, e with
  | .tup xs, .int i => (match ixD xs i with | some z => .ok (.v z) S | none => .bad)
  | .lst xs, .int i => (match ixD xs i with | some z => .ok (.v z) S | none => .bad)
  | .wt xs, .int i => (match ixD xs i with | some z => .ok (.v z) S | none => .bad)
  | .loc n, .int i => (match S[n]? with
    | some (.l xs) => (match ixD xs i with | some z => .ok (.v z) S | none => .bad)
    | _ => .bad)
  | .scr ns, .int i => (match (if 0 ≤ i then ns[i.toNat]? else none) with | some z => .ok (.v (.int z)) S | none => .bad)
  | .dk ks ds, k => (match dlook (.dk ks ds) k with | some (some z) => .ok (.v z) S | _ => .bad)
  | .dt ks ds, k => (match dlook (.dt ks ds) k with | some (some z) => .ok (.v z) S | _ => .bad)
  | .fk ks ds, k => (match dlook (.fk ks ds) k with | some (some z) => .ok (.v z) S | _ => .bad)
  | .ft ks ds, k => (match dlook (.ft ks ds) k with | some (some z) => .ok (.v z) S | _ => .bad)
  | _, _ => .bad
theorem ixD_at {K : PySem.W.Frag} {G : Hp} {l : List Addr} {ds : List D} {xs : List V} {i : Int} {z : D} (r : RepL K G l ds xs) (h : ixD ds i = some z) : ∃ v, atI xs i = some v ∧ Rep K G l z v := by
  unfold ixD at h
  have hl := r.length
  unfold atI ixN
  by_cases c : 0 ≤ i
  · rw [if_pos c] at h
    obtain ⟨v, g1, g2⟩ := r.get h
    have hi := (List.getElem?_eq_some_iff.mp g1).1
    refine ⟨v, ?_, g2⟩
    rw [if_pos c, if_pos (by omega)]
    exact g1
  · rw [if_neg c] at h
    split at h
    case isFalse => cases h
    rename_i c2
    obtain ⟨v, g1, g2⟩ := r.get h
    refine ⟨v, ?_, g2⟩
    rw [if_neg c, if_pos (by omega), ← hl]
    exact g1
theorem ix_dict (hu : X.A.units + 65 < cLine) : IxR X (fun x y H Q => ∃ a v, x = .ref a ∧ DGet H a y (some v) ∧ Q v H) := by
  intro value slice pins s σ H x y v u Q I rx ry ⟨a, z, ex, g, q⟩ hs
  subst ex
  cases rx
  exact tail_any (dict_typeIs I g) PySem.F.slot_dict_getitem.lookup (d_getItem (by omega) I g ry fun w' s' I' rw' => ⟨z, H, I', rw', q⟩) hs
theorem IxR.or {r r' : R2} (h : IxR X r) (h' : IxR X r') : IxR X (fun x y H Q => r x y H Q ∨ r' x y H Q) := fun value slice pins s σ H x y v u Q I rx ry q => q.elim (h value slice pins s σ H x y v u Q I rx ry) (h' value slice pins s σ H x y v u Q I rx ry)
theorem mo_ix (hu : X.A.units + 65 < cLine) : IxR X (rO X.K fIx) := IxR.imp (IxR.or ix_list (IxR.or ix_tup (ix_dict hu))) fun x y H Q ⟨W, S, d, e, r, S', ok, rx, ry, h, q⟩ => by
  have dictc : ∀ {dd k : D}, (match dlook dd k with | some (some z) => Res.ok (R.v z) S | _ => .bad) = .ok r S' → RepB X.K W H dd x → RepB X.K W H k y → ∃ a v, x = .ref a ∧ DGet H a y (some v) ∧ Q v H := fun {dd k} h1 h2 h3 => by
    split at h1
    · rename_i z hz
      cases h1
      obtain ⟨a, ov, g1, g2, g3, g4⟩ := dlook_get ok h2 h3 hz
      obtain ⟨u, rfl, g6⟩ := g4 z rfl
      exact ⟨a, u, g1, g2, q W H _ (Ext.refl _ _) ok g6⟩
    · cases h1
  unfold fIx at h
  split at h
  · obtain rfl := ry.int_inv
    obtain ⟨a, xs', rfl, h1, h2⟩ := rx.tup_inv
    split at h
    case h_2 => cases h
    rename_i z hz
    cases h
    obtain ⟨v, g1, g2⟩ := ixD_at h2 hz
    exact .inr (.inl ⟨a, xs', _, v, rfl, rfl, SqT.of (ok.sub _ _ h1), g1, q W H _ (Ext.refl _ _) ok g2⟩)
  · obtain rfl := ry.int_inv
    obtain ⟨a, xs', rfl, h1, h2⟩ := rx.lst_inv ok
    split at h
    case h_2 => cases h
    rename_i z hz
    cases h
    obtain ⟨v, g1, g2⟩ := ixD_at h2 hz
    exact .inl ⟨a, xs', _, v, rfl, rfl, SqL.of h1, g1, q W H _ (Ext.refl _ _) ok g2⟩
  · obtain rfl := ry.int_inv
    obtain ⟨a, xs', rfl, h1, h2⟩ := rx.wt_inv
    split at h
    case h_2 => cases h
    rename_i z hz
    cases h
    obtain ⟨v, g1, g2⟩ := ixD_at h2 hz
    exact .inr (.inl ⟨a, xs', _, v, rfl, rfl, ok.sub.sqT h1, g1, q W H _ (Ext.refl _ _) ok g2⟩)
  · obtain rfl := ry.int_inv
    obtain ⟨a, rfl, h1⟩ := rx.loc_inv
    split at h
    case h_2 => cases h
    rename_i xs hS
    obtain ⟨xs', h2, h3⟩ := ok.loc h1 hS
    split at h
    case h_2 => cases h
    rename_i z hz
    cases h
    obtain ⟨v, g1, g2⟩ := ixD_at h3 hz
    exact .inl ⟨a, xs', _, v, rfl, rfl, SqL.of h2, g1, q W H _ (Ext.refl _ _) ok g2⟩
  · rename_i ns i
    obtain rfl := ry.int_inv
    obtain ⟨a, rfl, h1⟩ := rx.scr_inv
    split at h
    case h_2 => cases h
    rename_i z hz
    split at hz
    case isFalse => cases hz
    rename_i c
    cases h
    have hi := (List.getElem?_eq_some_iff.mp hz).1
    refine .inl ⟨a, ns.map V.int, i, .int z, rfl, rfl, ok.sub.sqL h1, ?_, q W H _ (Ext.refl _ _) ok (.int _)⟩
    unfold atI ixN
    rw [if_pos c, if_pos (by rw [List.length_map]; omega)]
    show (ns.map V.int)[i.toNat]? = _
    rw [List.getElem?_map, hz]
    rfl
  · exact .inr (.inr (dictc h rx ry))
  · exact .inr (.inr (dictc h rx ry))
  · exact .inr (.inr (dictc h rx ry))
  · exact .inr (.inr (dictc h rx ry))
  · cases h

/-! ### built-in functions of one argument and more -/
def rC (K : PySem.W.Frag) (f : List D → Sto → Res R) : List V → Hp → VK → Prop := fun xs H Q => ∃ W S ds r S', WOk K W S H ∧ AllB K W H ds xs ∧ f ds S = .ok r S' ∧ ∀ W' H' v, Ext W H W' H' → WOk K W' S' H' → RepR K W' H' H r v → Q v H'
theorem tCB_of {K : PySem.W.Frag} {f : List D → Sto → Res R} {da : DA} {σ : L2.St} {H : Hp} {Q : VK} (h : tR K (dBlt f da) σ H Q) : tCB (rC K f) (tAB K da) σ H Q := by
  obtain ⟨W, S, H0, env, ok, eo, r, S', h, q⟩ := h
  obtain ⟨ds, S1, h1, h2⟩ := bind_ok h
  exact ⟨W, S, H0, env, ok, eo, ds, S1, h1, fun W1 H1 vs e1 o1 r1 => ⟨W1, S1, ds, r, S', o1, r1, h2, fun W2 H2 z e2 o2 r2 => q W2 H2 z (e1.trans e2) o2 (r2.back fun a h => e1.fresh h)⟩⟩
theorem me_callB {id : String} {f : List D → Sto → Res R} {x : Str} {p pos : Pos} {e : Expr} {es : List Expr} {da : DA} (hc : CallR X (.builtin id) (rC X.K f)) (hg : Gl X x) (hm : X.mg x = none) (hv : bootBuiltins x = some (.builtin id)) (ha : PA X (e :: es) (tAB X.K da))
    (hn : x ≠ "__name__" := by decide) (hdb : (x == ("__debug__" : Str)) = false := by decide) (he : starEach (e :: es) X.env = (false, eval e X.env) :: starEach es X.env := by rfl) (hpl : (backTo pos (starEach es X.env)).any (·.1) = false := by rfl) :
    PE X (.Call (.Name x p) (e :: es) [] pos) (tR X.K (dBlt f da)) := PE.imp (pe_callB hc hg hm hv ha hn hdb he hpl) fun _ _ _ h => tCB_of h
theorem me_callTy {T : String} {f : List D → Sto → Res R} {x : Str} {p pos : Pos} {e : Expr} {es : List Expr} {da : DA} (hc : CallR X (.type T) (rC X.K f)) (hg : Gl X x) (hm : X.mg x = none) (hv : bootBuiltins x = some (.type T)) (ha : PA X (e :: es) (tAB X.K da))
    (hn : x ≠ "__name__" := by decide) (hdb : (x == ("__debug__" : Str)) = false := by decide) (he : starEach (e :: es) X.env = (false, eval e X.env) :: starEach es X.env := by rfl) (hpl : (backTo pos (starEach es X.env)).any (·.1) = false := by rfl) :
    PE X (.Call (.Name x p) (e :: es) [] pos) (tR X.K (dBlt f da)) := PE.imp (pe_callTy hc hg hm hv ha hn hdb he hpl) fun _ _ _ h => tCB_of h
theorem CallR.or {f : Value} {r r' : List V → Hp → VK → Prop} (h : CallR X f r) (h' : CallR X f r') : CallR X f (fun x H Q => r x H Q ∨ r' x H Q) := fun pins s σ H x u Q I rx q => q.elim (h pins s σ H x u Q I rx) (h' pins s σ H x u Q I rx)
/-- len -/
def bLen : List D → Sto → Res R := fun ds S => match ds with
  | [.tup xs] => .ok (.v (.int xs.length)) S
  | [.lst xs] => .ok (.v (.int xs.length)) S
  | [.scr ns] => .ok (.v (.int ns.length)) S
  | [.loc n] => (match S[n]? with | some (.l xs) => .ok (.v (.int xs.length)) S | _ => .bad)
  | [.dk ks _] => .ok (.v (.int ks.length)) S
  | _ => .bad
theorem mb_len : CallR X (.builtin "len") (rC X.K bLen) := CallR.imp (CallR.or call_len_seq call_lenD) fun vs H Q ⟨W, S, ds, r, S', ok, ra, h, q⟩ => by
  unfold bLen at h
  split at h
  · cases ra with
    | cons r1 r2 =>
      cases r2
      obtain ⟨a, xs', rfl, h1, h2⟩ := r1.tup_inv
      cases h
      rw [h2.length] at q
      exact .inl ⟨a, xs', rfl, .inr (SqT.of (ok.sub _ _ h1)), q W H _ (Ext.refl _ _) ok (.int _)⟩
  · cases ra with
    | cons r1 r2 =>
      cases r2
      obtain ⟨a, xs', rfl, h1, h2⟩ := r1.lst_inv ok
      cases h
      rw [h2.length] at q
      exact .inl ⟨a, xs', rfl, .inl (SqL.of h1), q W H _ (Ext.refl _ _) ok (.int _)⟩
  · cases ra with
    | cons r1 r2 =>
      cases r2
      obtain ⟨a, rfl, h1⟩ := r1.scr_inv
      cases h
      rw [← List.length_map (f := V.int)] at q
      exact .inl ⟨a, _, rfl, .inl (ok.sub.sqL h1), q W H _ (Ext.refl _ _) ok (.int _)⟩
  · cases ra with
    | cons r1 r2 =>
      cases r2
      obtain ⟨a, rfl, h1⟩ := r1.loc_inv
      split at h
      case h_2 => cases h
      rename_i xs hS
      obtain ⟨xs', h2, h3⟩ := ok.loc h1 hS
      cases h
      rw [h3.length] at q
      exact .inl ⟨a, xs', rfl, .inl (SqL.of h2), q W H _ (Ext.refl _ _) ok (.int _)⟩
  · cases ra with
    | cons r1 r2 =>
      cases r2
      obtain ⟨a, kvs, rfl, h1, h2, h3⟩ := r1.dk_inv ok
      cases h
      rw [← h2, List.length_map] at q
      exact .inr ⟨a, kvs, rfl, h1, q W H _ (Ext.refl _ _) ok (.int _)⟩
  · cases h
/-- list(x), tuple(x) of a list or a tuple -/
def bList : List D → Sto → Res R := fun ds S => match ds with
  | [.tup xs] => .ok (.o (.l xs)) S
  | [.lst xs] => .ok (.o (.l xs)) S
  | _ => .bad
def bTuple : List D → Sto → Res R := fun ds S => match ds with
  | [.tup xs] => .ok (.v (.tup xs)) S
  | [.lst xs] => .ok (.v (.tup xs)) S
  | _ => .bad
def bAbs : List D → Sto → Res R := fun ds S => match ds with
  | [.int i] => .ok (.v (.int (if i < 0 then -i else i))) S
  | _ => .bad
theorem mb_abs : CallR X (.builtin "abs") (rC X.K bAbs) := CallR.imp call_abs fun vs H Q ⟨W, S, ds, r, S', ok, ra, h, q⟩ => by
  unfold bAbs at h
  split at h
  · cases ra with
    | cons r1 r2 =>
      cases r2
      obtain rfl := r1.int_inv
      cases h
      exact ⟨_, rfl, q W H _ (Ext.refl _ _) ok (.int _)⟩
  · cases h
def bInt : List D → Sto → Res R := fun ds S => match ds with
  | [.int i] => .ok (.v (.int i)) S
  | [.bl b] => .ok (.v (.int (if b then 1 else 0))) S
  | _ => .bad
theorem mb_int : CallR X (.type "int") (rC X.K bInt) := CallR.imp call_int1 fun vs H Q ⟨W, S, ds, r, S', ok, ra, h, q⟩ => by
  unfold bInt at h
  split at h
  · cases ra with
    | cons r1 r2 =>
      cases r2
      obtain rfl := r1.int_inv
      cases h
      exact .inl ⟨_, rfl, q W H _ (Ext.refl _ _) ok (.int _)⟩
  · cases ra with
    | cons r1 r2 =>
      cases r2
      obtain rfl := r1.bl_inv
      cases h
      exact .inr ⟨_, rfl, q W H _ (Ext.refl _ _) ok (.int _)⟩
  · cases h
def bMax2 : List D → Sto → Res R := fun ds S => match ds with
  | [.int i, .int j] => .ok (.v (.int (if j > i then j else i))) S
  | _ => .bad
def bMin2 : List D → Sto → Res R := fun ds S => match ds with
  | [.int i, .int j] => .ok (.v (.int (if j < i then j else i))) S
  | _ => .bad
theorem mb_min2 (hc : X.calm = true) : CallR X (.builtin "min") (rC X.K bMin2) := CallR.imp (call_min2 hc) fun vs H Q ⟨W, S, ds, r, S', ok, ra, h, q⟩ => by
  unfold bMin2 at h
  split at h
  · cases ra with
    | cons r1 r2 =>
      cases r2 with
      | cons r2 r3 =>
        cases r3
        obtain rfl := r1.int_inv
        obtain rfl := r2.int_inv
        cases h
        exact ⟨_, _, rfl, q W H _ (Ext.refl _ _) ok (.int _)⟩
  · cases h
/-- lists of ints, of bools -/
def intsOf : List D → Option (List Int)
  | [] => some []
  | .int i :: r => (intsOf r).map (i :: ·)
  | _ :: _ => none
def blsOf : List D → Option (List Bool)
  | [] => some []
  | .bl i :: r => (blsOf r).map (i :: ·)
  | _ :: _ => none
theorem blsOf_rep {K : PySem.W.Frag} {G : Hp} {l : List Addr} : ∀ {ds : List D} {xs : List V} {ns : List Bool}, RepL K G l ds xs → blsOf ds = some ns → xs = ns.map V.bl
  | [], _, ns, r, e => by
    cases r
    unfold blsOf at e
    cases e
    rfl
  | d :: ds, _, ns, r, e => by
    cases r with
    | cons r1 r2 =>
      cases d with
      | bl i =>
        unfold blsOf at e
        obtain ⟨ns', e1, rfl⟩ := Option.map_eq_some_iff.mp e
        cases r1
        rw [blsOf_rep r2 e1]
        rfl
      | _ => unfold blsOf at e; cases e
def bAll : List D → Sto → Res R := fun ds S => match ds with
  | [.lst xs] => (match blsOf xs with | some bs => .ok (.v (.bl (bs.all id))) S | none => .bad)
  | _ => .bad
def bAny : List D → Sto → Res R := fun ds S => match ds with
  | [.lst xs] => (match blsOf xs with | some bs => .ok (.v (.bl (bs.any id))) S | none => .bad)
  | _ => .bad
def bSum : List D → Sto → Res R := fun ds S => match ds with
  | [.lst xs] => (match intsOf xs with | some ns => .ok (.v (.int ns.sum)) S | none => .bad)
  | _ => .bad
theorem mb_all (hc : X.calm = true) : CallR X (.builtin "all") (rC X.K bAll) := CallR.imp (cr_all hc) fun vs H Q ⟨W, S, ds, r, S', ok, ra, h, q⟩ => by
  unfold bAll at h
  split at h
  · cases ra with
    | cons r1 r2 =>
      cases r2
      obtain ⟨a, xs', rfl, h1, h2⟩ := r1.lst_inv ok
      split at h
      case h_2 => cases h
      rename_i bs hb
      cases h
      obtain rfl := blsOf_rep h2 hb
      exact ⟨a, bs, rfl, SqL.of h1, q W H _ (Ext.refl _ _) ok (.bl _)⟩
  · cases h
end
end MP

namespace MP
open PySem PySem.W PySem.Calls PyProof.Rows
variable {EX : L2.XK}
section
variable {prog : Program} {w : World} {A : Around} {E : Value → Shared → Prop} {s : Shared}
end
end MP

namespace MP
open PySem PySem.Spec PyProof.Rows L2
variable {EX : L2.XK}
/-! ### comparisons of numbers and of tuples -/
def cmpOk (d e : D) : Bool := fitN 20 d && fitN 20 e && PySem.W.alike (toPy d) (toPy e)
def ltD (d e : D) : Bool := PySem.W.dataLt (toPy d) (toPy e)
def fLt : D → D → Sto → Res R := fun d e S => match d, e with
  | .int i, .int j => .ok (.v (.bl (decide (i < j)))) S
  | .tup x, .tup y => if cmpOk (.tup x) (.tup y) = true then .ok (.v (.bl (ltD (.tup x) (.tup y)))) S else .bad
  | _, _ => .bad
def fLe : D → D → Sto → Res R := fun d e S => match d, e with
  | .int i, .int j => .ok (.v (.bl (decide (i ≤ j)))) S
  | .tup x, .tup y => if cmpOk (.tup x) (.tup y) = true then .ok (.v (.bl (!ltD (.tup y) (.tup x)))) S else .bad
  | _, _ => .bad
def fGt : D → D → Sto → Res R := fun d e S => match d, e with
  | .int i, .int j => .ok (.v (.bl (decide (j < i)))) S
  | .tup x, .tup y => if cmpOk (.tup x) (.tup y) = true then .ok (.v (.bl (ltD (.tup y) (.tup x)))) S else .bad
  | _, _ => .bad
def fGe : D → D → Sto → Res R := fun d e S => match d, e with
  | .int i, .int j => .ok (.v (.bl (decide (j ≤ i)))) S
  | .tup x, .tup y => if cmpOk (.tup x) (.tup y) = true then .ok (.v (.bl (!ltD (.tup x) (.tup y)))) S else .bad
  | _, _ => .bad
section
variable {X : Cx}
theorem op_ltP (hu : X.A.units + 200 < cLine) : OpR X (compareOp .Lt) (fun x y H Q => ∃ d e, Dp X.K H x d ∧ Dp X.K H y e ∧ PySem.W.alike d e = true ∧ d ≠ .none ∧ d.depth ≤ 60 ∧ Q (.bl (PySem.W.dataLt d e)) H) := by
  intro pins s σ H x y v u Q I rx ry ⟨d, e, hd, he, al, hn, hz, q⟩
  obtain ⟨_, r1⟩ := Dp.reads I d x v hd rx
  obtain ⟨_, r2⟩ := Dp.reads I e y u he ry
  exact PySem.W.lt_data r1 r2 al hn (by have := Nat.min_le_left d.depth e.depth; omega) ⟨.bl _, H, I, rfl, q⟩
theorem mo_lt (hu : X.A.units + 200 < cLine) : OpR X (compareOp .Lt) (rO X.K fLt) := OpR.imp (OpR.or op_lt (op_ltP hu)) fun x y H Q ⟨W, S, d, e, r, S', ok, rx, ry, h, q⟩ => by
  unfold fLt at h
  split at h
  · cases h
    obtain rfl := rx.int_inv
    obtain rfl := ry.int_inv
    exact .inl ⟨_, _, rfl, rfl, q W H _ (Ext.refl _ _) ok (.bl _)⟩
  · split at h
    case isFalse => cases h
    rename_i hc
    cases h
    unfold cmpOk at hc
    simp only [Bool.and_eq_true] at hc
    obtain ⟨⟨f1, f2⟩, al⟩ := hc
    have dp := (fit_lay 20 _ f1).2
    exact .inr ⟨_, _, rx.dp ok f1, ry.dp ok f2, al, by simp [toPy], by omega, q W H _ (Ext.refl _ _) ok (.bl _)⟩
  · cases h
theorem op_gtP (hu : X.A.units + 200 < cLine) : OpR X (compareOp .Gt) (fun x y H Q => ∃ d e, Dp X.K H x d ∧ Dp X.K H y e ∧ PySem.W.alike d e = true ∧ d ≠ .none ∧ d.depth ≤ 60 ∧ Q (.bl (PySem.W.dataLt e d)) H) := by
  intro pins s σ H x y v u Q I rx ry ⟨d, e, hd, he, al, hn, hz, q⟩
  obtain ⟨_, r1⟩ := Dp.reads I d x v hd rx
  obtain ⟨_, r2⟩ := Dp.reads I e y u he ry
  exact PySem.W.gt_data r1 r2 al hn (by have := Nat.min_le_left d.depth e.depth; omega) ⟨.bl _, H, I, rfl, q⟩
theorem mo_gt (hu : X.A.units + 200 < cLine) : OpR X (compareOp .Gt) (rO X.K fGt) := OpR.imp (OpR.or op_gt (op_gtP hu)) fun x y H Q ⟨W, S, d, e, r, S', ok, rx, ry, h, q⟩ => by
  unfold fGt at h
  split at h
  · cases h
    obtain rfl := rx.int_inv
    obtain rfl := ry.int_inv
    exact .inl ⟨_, _, rfl, rfl, q W H _ (Ext.refl _ _) ok (.bl _)⟩
  · split at h
    case isFalse => cases h
    rename_i hc
    cases h
    unfold cmpOk at hc
    simp only [Bool.and_eq_true] at hc
    obtain ⟨⟨f1, f2⟩, al⟩ := hc
    have dp := (fit_lay 20 _ f1).2
    exact .inr ⟨_, _, rx.dp ok f1, ry.dp ok f2, al, by simp [toPy], by omega, q W H _ (Ext.refl _ _) ok (.bl _)⟩
  · cases h
theorem op_geP (hu : X.A.units + 200 < cLine) : OpR X (compareOp .GtE) (fun x y H Q => ∃ d e, Dp X.K H x d ∧ Dp X.K H y e ∧ PySem.W.alike d e = true ∧ d ≠ .none ∧ d.depth ≤ 60 ∧ Q (.bl (!PySem.W.dataLt d e)) H) := by
  intro pins s σ H x y v u Q I rx ry ⟨d, e, hd, he, al, hn, hz, q⟩
  obtain ⟨_, r1⟩ := Dp.reads I d x v hd rx
  obtain ⟨_, r2⟩ := Dp.reads I e y u he ry
  exact PySem.W.ge_data r1 r2 al hn (by have := Nat.min_le_left d.depth e.depth; omega) ⟨.bl _, H, I, rfl, q⟩
theorem mo_ge (hu : X.A.units + 200 < cLine) : OpR X (compareOp .GtE) (rO X.K fGe) := OpR.imp (OpR.or op_ge (op_geP hu)) fun x y H Q ⟨W, S, d, e, r, S', ok, rx, ry, h, q⟩ => by
  unfold fGe at h
  split at h
  · cases h
    obtain rfl := rx.int_inv
    obtain rfl := ry.int_inv
    exact .inl ⟨_, _, rfl, rfl, q W H _ (Ext.refl _ _) ok (.bl _)⟩
  · split at h
    case isFalse => cases h
    rename_i hc
    cases h
    unfold cmpOk at hc
    simp only [Bool.and_eq_true] at hc
    obtain ⟨⟨f1, f2⟩, al⟩ := hc
    have dp := (fit_lay 20 _ f1).2
    exact .inr ⟨_, _, rx.dp ok f1, ry.dp ok f2, al, by simp [toPy], by omega, q W H _ (Ext.refl _ _) ok (.bl _)⟩
  · cases h
/-! ### is -/
def fIsN : D → D → Sto → Res R := fun d e S => match e with
  | .non => .ok (.v (.bl (isNon d))) S
  | .bl b => (match d with
    | .bl a => .ok (.v (.bl (decide (a = b)))) S
    | _ => .bad)
  | _ => .bad
def fNotN : D → D → Sto → Res R := fun d e S => match e with
  | .non => .ok (.v (.bl (!isNon d))) S
  | .bl b => (match d with
    | .bl a => .ok (.v (.bl (!decide (a = b)))) S
    | _ => .bad)
  | _ => .bad
theorem mo_isN : OpR X (compareOp .Is) (rO X.K fIsN) := OpR.imp (OpR.or op_isN op_is_bl) fun x y H Q ⟨W, S, d, e, r, S', ok, rx, ry, h, q⟩ => by
  unfold fIsN at h
  split at h
  · cases h
    refine .inl ⟨ry.non_inv, ?_⟩
    rw [rx.isNon]
    exact q W H _ (Ext.refl _ _) ok (.bl _)
  · split at h
    · cases h
      obtain rfl := rx.bl_inv
      obtain rfl := ry.bl_inv
      exact .inr ⟨_, _, rfl, rfl, q W H _ (Ext.refl _ _) ok (.bl _)⟩
    · cases h
  · cases h
end
end MP

namespace MP
variable {EX : L2.XK}
open PySem PySem.Spec PyProof.Rows L2 PySem.W
/-! ### sorted(a list of empty tuples) -/
section
variable {prog : Program} {w : World} {A : Around} {E : Value → Shared → Prop} {s : Shared}
end
section
variable {prog : Program} {w : World} {A : Around} {E : Value → Shared → Prop} {s : Shared} {β : Type} {vs : List Value} {bs : List β} {enc : β → PyData} {R : Value → β → Prop}
end
end MP

namespace MP
open PySem PySem.Spec PyProof.Rows L2
variable {EX : L2.XK}

/-! ### chains of comparisons -/
def dChain (f f' : D → D → Sto → Res R) (da db dc : DE) : DE := fun env S => (da env S).bind fun x S1 => (db env S1).bind fun y S2 => (f x y S2).bind fun r S3 => match r with
  | .v (.bl true) => (dc env S3).bind fun z S4 => (f' y z S4).map R.val
  | .v (.bl false) => .ok (.bl false) S3
  | _ => .bad
section
variable {X : Cx} {a b c : Expr} {pos : Pos}
/-! ### slices -/
def cutD (xs : List D) (lo hi : Option Int) : List D := (xs.drop (HT.sIx xs.length 0 lo)).take (HT.sIx xs.length xs.length hi - HT.sIx xs.length 0 lo)
abbrev DO := Envm → Sto → Res (Option Int)
def oNone : DO := fun _ S => .ok none S
def oSome (de : DE) : DO := fun env S => (de env S).bind fun d S1 => match d with
  | .int i => .ok (some i) S1
  | _ => .bad
def tO (K : PySem.W.Frag) (d : DO) : TO := fun σ H Q => ∃ W S H0 env, WOk K W S H ∧ EnvOk K W H H0 env σ ∧ ∃ o S', d env S = .ok o S' ∧ ∀ W' H', Ext W H W' H' → WOk K W' S' H' → Q o H'
theorem PO.imp {e : Option Expr} {t t' : TO} (h : PO X e t) (i : ∀ σ H Q, t' σ H Q → t σ H Q) : PO X e t' := ⟨fun pins s σ H Q I q => h.run pins s σ H Q I (i σ H Q q)⟩
def fSl : D → Option Int → Option Int → Option R
  | .lst xs, lo, hi => some (.o (.l (cutD xs lo hi)))
  | .tup xs, lo, hi => some (.v (.tup (cutD xs lo hi)))
  | _, _, _ => none
def dSl (de : DE) (dl dh : DO) : DR := fun env S => (de env S).bind fun d S1 => (dl env S1).bind fun lo S2 => (dh env S2).bind fun hi S3 => match fSl d lo hi with
  | some r => .ok r S3
  | none => .bad
/-! ### sorted -/
open PySem.W in
def dle : D → D → Bool := dataLe false toPy
def dSort (ds : List D) : List D := ds.mergeSort dle
def nonEmptyTup : D → Bool
  | .tup (_ :: _) => true
  | _ => false
def plainD : D → Bool
  | .int _ => true
  | .str _ => true
  | .bl _ => true
  | _ => false
open PySem.W in
def sortOk (ds : List D) : Bool := (ds.all (fitN 19)) && (ds.all nonEmptyTup || ds.all plainD) && (ds.all fun a => ds.all fun b => alike (toPy a) (toPy b)) && decide (ds.length ≤ 100000)
def isMt : D → Bool
  | .tup [] => true
  | _ => false
/-- a list of empty tuples -/
def mtOk (ds : List D) : Bool := ds.all isMt && decide (ds.length ≤ 100000)
def seqOf : D → Option (List D)
  | .lst xs => some xs
  | _ => none
def bSorted : List D → Sto → Res R := fun ds S => match ds with
  | [.lst xs] => if sortOk xs = true then .ok (.o (.l (dSort xs))) S else if mtOk xs = true then .ok (.o (.l (dSort xs))) S else .bad
  | [.tup xs] => if sortOk xs = true then .ok (.o (.l (dSort xs))) S else .bad
  | _ => .bad
end
end MP

namespace MP
open PySem PySem.Spec PyProof.Rows L2
variable {EX : L2.XK}

section
variable {prog : Program} {w : World} {A : Around} {R : Result → Shared → Prop} {I : Addr} {fp wr : List Addr} {n : Nat} {P : Nat → Value → Prop} {St : Nat → Heap → Prop}
end
section
variable {prog : Program} {w : World} {A : Around} {E : Value → Shared → Prop} {s : Shared}
variable {l : Addr} {xs : Array (Int × Tok)}
variable {its : List Value} {ns : List Int}
end
section
variable {X : Cx}
end

section
variable {prog : Program} {w : World} {A : Around} {R : Result → Shared → Prop} {I : Addr} {fp wr : List Addr} {n : Nat} {P : Nat → Value → Prop} {St : Nat → Heap → Prop}
end
section
variable {prog : Program} {w : World} {A : Around} {E : Value → Shared → Prop} {s : Shared}
variable {l : Addr} {xs : Array (Int × Tok)}
variable {its : List Value} {ns : List Int}
end
section
variable {X : Cx}
end
end MP

namespace MP
open PySem PySem.Spec PyProof.Rows L2
variable {EX : L2.XK}

/-! ### set(x) of a list of ints; len and sorted of it -/
abbrev setOb (w : World) : Obj := { cls := .type "set", dict := none, data := .set #[] 0 (.fresh 0 0 (!w.params.followText "set-order")) }
section
variable {P : Program} {w : World} {A : Around} {E : Value → Shared → Prop} {s : Shared}
end
/-! ### the members in order, each once -/
def insU (x : Int) : List Int → List Int
  | [] => [x]
  | y :: ys => if x < y then x :: y :: ys else if x = y then y :: ys else y :: insU x ys
def usort : List Int → List Int
  | [] => []
  | x :: xs => insU x (usort xs)
theorem mem_insU {x k : Int} : ∀ {l : List Int}, k ∈ insU x l ↔ k = x ∨ k ∈ l
  | [] => by simp [insU]
  | y :: ys => by
    unfold insU
    by_cases c : x < y
    · rw [if_pos c]; simp
    · rw [if_neg c]
      by_cases c2 : x = y
      · rw [if_pos c2]; subst c2; simp
      · rw [if_neg c2]
        simp only [List.mem_cons, mem_insU (l := ys)]
        constructor
        · rintro (h | h | h) <;> simp [h]
        · rintro (h | h | h) <;> simp [h]
theorem insU_lt {x : Int} : ∀ {l : List Int}, l.Pairwise (· < ·) → (insU x l).Pairwise (· < ·)
  | [], _ => by simp [insU]
  | y :: ys, h => by
    obtain ⟨h1, h2⟩ := List.pairwise_cons.mp h
    unfold insU
    by_cases c : x < y
    · rw [if_pos c]
      refine List.pairwise_cons.mpr ⟨fun k hk => ?_, h⟩
      rcases List.mem_cons.mp hk with rfl | hk
      · exact c
      · exact Int.lt_trans c (h1 k hk)
    · rw [if_neg c]
      by_cases c2 : x = y
      · rw [if_pos c2]; exact h
      · rw [if_neg c2]
        refine List.pairwise_cons.mpr ⟨fun k hk => ?_, insU_lt h2⟩
        rcases mem_insU.mp hk with rfl | hk
        · omega
        · exact h1 k hk
theorem mem_usort {k : Int} : ∀ {l : List Int}, k ∈ usort l ↔ k ∈ l
  | [] => by simp [usort]
  | x :: xs => by simp [usort, mem_insU, mem_usort (l := xs)]
theorem usort_lt : ∀ l : List Int, (usort l).Pairwise (· < ·)
  | [] => List.Pairwise.nil
  | x :: xs => insU_lt (usort_lt xs)
def seqInts : D → Option (List Int)
  | .tup ds => intsOf ds
  | .lst ds => intsOf ds
  | _ => none
def dLenSet (da : DE) : DR := fun env S => (da env S).bind fun d S1 => match seqInts d with
  | some ns => if ns.length ≤ 1000 then .ok (.v (.int (usort ns).length)) S1 else .bad
  | none => .bad
def dSortSet (da : DE) : DR := fun env S => (da env S).bind fun d S1 => match seqInts d with
  | some ns => if ns.length ≤ 60 then .ok (.o (.l ((usort ns).map D.int))) S1 else .bad
  | none => .bad
section
variable {X : Cx} {a : Expr}
end
end MP

namespace MP
open PySem PySem.Spec PyProof.Rows L2
variable {EX : L2.XK}
section
variable {X : Cx} {e a b : Expr} {pos : Pos}
/-! ### types and isinstance -/
theorem me_ty {x : Str} {T : String} (hg : Gl X x) (hm : X.mg x = none) (hv : bootBuiltins x = some (.type T)) (hn : x ≠ "__name__" := by decide) (hd : (x == ("__debug__" : Str)) = false := by decide) : PE X (.Name x pos) (tV X.K (dC (.ty T))) :=
  me_c (pe_bltn (v := .ty T) hg hm hv rfl hn hd) fun _ _ => .ty T
def tyName : D → Option String
  | .non => some "NoneType"
  | .bl _ => some "bool"
  | .int _ => some "int"
  | .str _ => some "str"
  | .tup _ => some "tuple"
  | .lst _ => some "list"
  | .dk _ _ => some "dict"
  | .dt _ _ => some "dict"
  | _ => none
def tyKnown (t : String) : Bool := t == "int" || t == "bool" || t == "str" || t == "tuple" || t == "list" || t == "dict"
def subTy (a b : String) : Bool := a == b || (a == "bool" && b == "int")
def isi1 (d : D) (t : String) : Option Bool := match tyName d with
  | some n => if tyKnown t = true then some (subTy n t) else none
  | none => none
theorem kit_all : ∀ a ∈ ["NoneType", "bool", "int", "str", "tuple", "list", "dict"], ∀ b ∈ ["int", "bool", "str", "tuple", "list", "dict"], kitB a b = some (subTy a b) := by decide +kernel
theorem tyName_mem {d : D} {n : String} (h : tyName d = some n) : n ∈ ["NoneType", "bool", "int", "str", "tuple", "list", "dict"] := by
  cases d <;> cases h <;> decide
theorem tyKnown_mem {t : String} (h : tyKnown t = true) : t ∈ ["int", "bool", "str", "tuple", "list", "dict"] := by
  unfold tyKnown at h
  simp only [Bool.or_eq_true, beq_iff_eq] at h
  simp only [List.mem_cons, List.not_mem_nil, or_false]
  rcases h with ((((h | h) | h) | h) | h) | h <;> simp [h]
theorem tyx_of {K : PySem.W.Frag} {W : Wd} {S : Sto} {H : Hp} {d : D} {x : V} {n : String} (ok : WOk K W S H) (r : RepB K W H d x) (h : tyName d = some n) : TyX K H x (.type n) := by
  cases d with
  | non => cases h; rw [r.non_inv]; exact .base .non
  | bl b => cases h; rw [r.bl_inv]; exact .base (.bl b)
  | int b => cases h; rw [r.int_inv]; exact .base (.int b)
  | str b => cases h; rw [r.str_inv]; exact .base (.str b)
  | tup ds =>
    cases h
    obtain ⟨p, xs, rfl, h1, h2⟩ := r.tup_inv
    exact .base (.tup (ok.sub _ _ h1))
  | lst ds =>
    cases h
    obtain ⟨p, xs, rfl, h1, h2⟩ := r.lst_inv ok
    exact .base (.lst h1)
  | dk ks ds =>
    cases h
    obtain ⟨p, kvs, rfl, h1, h2, h3⟩ := r.dk_inv ok
    exact .base (.dK h1)
  | dt ks ds =>
    cases h
    obtain ⟨p, kvs, rfl, h1, h2, h3⟩ := r.dt_inv ok
    exact .base (.dT h1)
  | _ => cases h
def tysOf : List D → Option (List String)
  | [] => some []
  | .ty t :: r => (tysOf r).map (t :: ·)
  | _ :: _ => none
def bIsi : List D → Sto → Res R := fun ds S => match ds with
  | [d, .ty t] => (match isi1 d t with | some b => .ok (.v (.bl b)) S | none => .bad)
  | [d, .tup ts] => (match tyName d, tysOf ts with | some n, some l => if l.all tyKnown = true then .ok (.v (.bl (l.any (subTy n)))) S else .bad | _, _ => .bad)
  | _ => .bad
theorem tysOf_rep {K : PySem.W.Frag} {G : Hp} {l : List Addr} : ∀ {ds : List D} {xs : List V} {ts : List String}, RepL K G l ds xs → tysOf ds = some ts → xs = ts.map V.ty
  | [], _, ns, r, e => by
    cases r
    unfold tysOf at e
    cases e
    rfl
  | d :: ds, _, ns, r, e => by
    cases r with
    | cons r1 r2 =>
      cases d with
      | ty i =>
        unfold tysOf at e
        obtain ⟨ns', e1, rfl⟩ := Option.map_eq_some_iff.mp e
        cases r1
        rw [tysOf_rep r2 e1]
        rfl
      | _ => unfold tysOf at e; cases e
theorem kit1 {K : PySem.W.Frag} {d : D} {n t : String} (hn : tyName d = some n) (hk : tyKnown t = true) : PySem.W.kitOne K (.type n) (.type t) = some (subTy n t) := kit_ty (kit_all n (tyName_mem hn) t (tyKnown_mem hk))
theorem clsV_tys : ∀ ts : List String, Paired ClsV (ts.map V.ty) (ts.map Value.type)
  | [] => .nil
  | t :: ts => .cons (.ty t) (clsV_tys ts)
theorem kitA {K : PySem.W.Frag} {d : D} {n : String} (hn : tyName d = some n) : ∀ {ts : List String}, ts.all tyKnown = true → PySem.W.kitAny K (.type n) (ts.map Value.type) = some (ts.any (subTy n))
  | [], _ => rfl
  | t :: ts, h => by
    rw [List.all_cons, Bool.and_eq_true] at h
    rw [List.any_cons]
    refine kitAny_cons (kit1 hn h.1) (fun z => ?_) (fun z => by rw [z]; rfl)
    rw [kitA hn h.2, z]
    rfl
theorem mb_isi : CallR X (.builtin "isinstance") (rC X.K bIsi) := CallR.imp (CallR.or call_isi call_isiT) fun vs H Q ⟨W, S, ds, r, S', ok, ra, h, q⟩ => by
  unfold bIsi at h
  split at h
  · rename_i d t
    cases ra with
    | cons r1 r2 =>
      cases r2 with
      | cons r2 r3 =>
        cases r3
        split at h
        case h_2 => cases h
        rename_i b hb
        cases h
        unfold isi1 at hb
        cases hn : tyName d with
        | none => rw [hn] at hb; cases hb
        | some n =>
          rw [hn] at hb
          have hb : (if tyKnown t = true then some (subTy n t) else none) = some b := hb
          split at hb
          case isFalse => cases hb
          rename_i hk
          cases hb
          have et : ∀ {v : V}, RepB X.K W H (.ty t) v → v = .ty t := fun r => by
            rcases r with r | ⟨x, a, u, e1, _⟩
            · cases r; rfl
            · cases x <;> cases e1
          obtain rfl := et r2
          exact .inl ⟨_, _, _, _, _, rfl, .ty t, tyx_of ok r1 hn, kit1 hn hk, q W H _ (Ext.refl _ _) ok (.bl _)⟩
  · rename_i d ts
    cases ra with
    | cons r1 r2 =>
      cases r2 with
      | cons r2 r3 =>
        cases r3
        split at h
        case h_2 => cases h
        rename_i n l hn hl
        split at h
        case isFalse => cases h
        rename_i hk
        cases h
        obtain ⟨p, xs, rfl, h1, h2⟩ := r2.tup_inv
        obtain rfl := tysOf_rep h2 hl
        exact .inr ⟨_, _, _, _, _, _, rfl, ok.sub _ _ h1, clsV_tys l, tyx_of ok r1 hn, kitA hn hk, q W H _ (Ext.refl _ _) ok (.bl _)⟩
  · cases h
/-! ### dict(x) of a list of pairs -/
def pairsOf : List D → Option (List (Key × D))
  | [] => some []
  | .tup [k, v] :: r => match MP.keyOf k, pairsOf r with
    | some q, some l => some ((q, v) :: l)
    | _, _ => none
  | _ :: _ => none
def putAll : List (Key × D) → List Key → List D → List Key × List D
  | [], ks, ds => (ks, ds)
  | (k, v) :: r, ks, ds => putAll r (putKs ks k) (putDs ks ds k v)
def bDict : List D → Sto → Res R := fun ds S => match ds with
  | [.lst xs] => (match pairsOf xs with
    | some ps => .ok (.o (.k (putAll ps [] []).1 (putAll ps [] []).2)) S
    | none => .bad)
  | _ => .bad
/-! ### d.get -/
def dDget (dd dk dx : DE) : DE := fun env S => (dd env S).bind fun d S1 => (dk env S1).bind fun k S2 => (dx env S2).bind fun z S3 => match dlook d k with
  | some (some v) => .ok v S3
  | some none => .ok z S3
  | none => .bad
/-! ### list(d.values()) -/
def dVals (dd : DE) : DR := fun env S => (dd env S).bind fun d S1 => match d with
  | .dk _ ds => .ok (.o (.l ds)) S1
  | _ => .bad
end
end MP

namespace MP
open PySem PySem.Spec PyProof.Rows L2
variable {EX : L2.XK}
section
variable {X : Cx} {e a b : Expr} {pos : Pos}
/-! ### max(l, default=x), min(l, default=x) -/
def maxL : Int → List Int → Int
  | m, [] => m
  | m, x :: xs => maxL (if x > m then x else m) xs
def minL : Int → List Int → Int
  | m, [] => m
  | m, x :: xs => minL (if x < m then x else m) xs
theorem maxL_spec : ∀ (xs : List Int) (m : Int), (maxL m xs = m ∨ maxL m xs ∈ xs) ∧ m ≤ maxL m xs ∧ ∀ y ∈ xs, y ≤ maxL m xs
  | [], m => by simp [maxL]
  | x :: xs, m => by
    obtain ⟨h1, h2, h3⟩ := maxL_spec xs (if x > m then x else m)
    unfold maxL
    by_cases c : x > m
    · rw [if_pos c] at h1 h2 h3 ⊢
      refine ⟨?_, by omega, fun y hy => ?_⟩
      · rcases h1 with h | h
        · right; rw [h]; exact List.mem_cons_self
        · right; exact List.mem_cons_of_mem _ h
      · rcases List.mem_cons.mp hy with rfl | hy
        · exact h2
        · exact h3 y hy
    · rw [if_neg c] at h1 h2 h3 ⊢
      refine ⟨?_, h2, fun y hy => ?_⟩
      · rcases h1 with h | h
        · left; exact h
        · right; exact List.mem_cons_of_mem _ h
      · rcases List.mem_cons.mp hy with rfl | hy
        · omega
        · exact h3 y hy
theorem minL_spec : ∀ (xs : List Int) (m : Int), (minL m xs = m ∨ minL m xs ∈ xs) ∧ minL m xs ≤ m ∧ ∀ y ∈ xs, minL m xs ≤ y
  | [], m => by simp [minL]
  | x :: xs, m => by
    obtain ⟨h1, h2, h3⟩ := minL_spec xs (if x < m then x else m)
    unfold minL
    by_cases c : x < m
    · rw [if_pos c] at h1 h2 h3 ⊢
      refine ⟨?_, by omega, fun y hy => ?_⟩
      · rcases h1 with h | h
        · right; rw [h]; exact List.mem_cons_self
        · right; exact List.mem_cons_of_mem _ h
      · rcases List.mem_cons.mp hy with rfl | hy
        · exact h2
        · exact h3 y hy
    · rw [if_neg c] at h1 h2 h3 ⊢
      refine ⟨?_, h2, fun y hy => ?_⟩
      · rcases h1 with h | h
        · left; exact h
        · right; exact List.mem_cons_of_mem _ h
      · rcases List.mem_cons.mp hy with rfl | hy
        · omega
        · exact h3 y hy
def bMaxD : D → D → Sto → Res D := fun d z S => match d with
  | .lst ds => (match intsOf ds with
    | some [] => .ok z S
    | some (x :: xs) => .ok (.int (maxL x xs)) S
    | none => .bad)
  | _ => .bad
def bMinD : D → D → Sto → Res D := fun d z S => match d with
  | .lst ds => (match intsOf ds with
    | some [] => .ok z S
    | some (x :: xs) => .ok (.int (minL x xs)) S
    | none => .bad)
  | _ => .bad
def dOp2 (f : D → D → Sto → Res D) (da db : DE) : DE := fun env S => (da env S).bind fun x S1 => (db env S1).bind fun y S2 => f x y S2
/-! ### list(range(..)), tuple(range(..)) -/
def dMkL (di : DA) : DR := fun env S => (di env S).bind fun ds S1 => .ok (.o (.l ds)) S1
def dMkT (di : DA) : DE := fun env S => (di env S).bind fun ds S1 => .ok (.tup ds) S1
/-! ### {} -/
def dNewK : DR := fun _ S => .ok (.o (.k [] [])) S
def dNewT : DR := fun _ S => .ok (.o (.t [] [])) S
/-! ### x[i] = v, x a slot's list -/
def dIxL (ds : List D) (i : Int) : Option Nat := if 0 ≤ i then (if i.toNat < ds.length then some i.toNat else none) else if -(ds.length : Int) ≤ i then some (i + ds.length).toNat else none
def fPut (i v : D) : List D → Option (List D) := fun ds => match i with
  | .int k => (dIxL ds k).map fun j => ds.set j v
  | _ => none
def dPutL (i : Nat) (di dv : DE) : DS := fun env S => match dv env S with
  | .ok v S1 => if listSlot i env S1 = true then (match di env S1 with
    | .ok k S2 => mutL i (fPut k v) env S2
    | .xn _ _ _ => .bad
    | .bad => .bad) else .bad
  | .xn _ _ _ => .bad
  | .bad => .bad
theorem dIxL_ix {K : PySem.W.Frag} {G : Hp} {l : List Addr} {ds : List D} {xs : List V} {i : Int} {j : Nat} (r : RepL K G l ds xs) (h : dIxL ds i = some j) : ixN xs.length i = some j := by
  have hl := r.length
  unfold dIxL at h
  unfold ixN
  split at h
  · rename_i c
    split at h
    case isFalse => cases h
    rename_i c2
    cases h
    rw [if_pos c, if_pos (by omega)]
  · rename_i c
    split at h
    case isFalse => cases h
    rename_i c2
    cases h
    rw [if_neg c, if_pos (by omega), hl]
theorem ms_putL (i : Nat) {x : Str} {ix : Expr} {p1 p2 : Pos} {di dv : DE} (hv : PE X e (tV X.K dv)) (hi : PE X ix (tV X.K di)) (hN : X.N[i]? = some x := by rfl) (hvis : Vis X.env.scope x := by first | exact Or.inl rfl | exact Or.inr (Or.inl rfl) | exact Or.inr (Or.inr rfl)) (hd : (x == ("__debug__" : Str)) = false := by decide)
    (hcd : (x == ("__classdict__" : Str)) = false := by decide) (ha : ∀ v, assign (.Subscript (.Name x p1) ix p2) X.env v = (do
      let ov ← holding [v] (eval (.Name x p1) X.env)
      let iv ← holding [v, ov] (eval ix X.env)
      standAt p2
      holding [v, ov, iv] (setItem ov iv v)
      release [v, ov, iv] []) := by intro _; rfl)
    (hs : swapsWithSole [.Subscript (.Name x p1) ix p2] e pos.line X.env = pure false := by rfl) (hw : swappedStores [.Subscript (.Name x p1) ix p2] e X.env = pure none := by rfl)
    (h1 : (assignEach [.Subscript (.Name x p1) ix p2] X.env).map (·.2) = [assign (.Subscript (.Name x p1) ix p2) X.env] := by rfl) :
    PS X (.Assign [.Subscript (.Name x p1) ix p2] e pos) (tS X.K EX (dPutL i di dv)) := PS.imp (ps_asg hv (pg_sub (pe_var hN hvis hd hcd) hi set_list ha) hs hw h1) fun D σ H ⟨W0, H0, W, S, env, s, q⟩ => by
  unfold dPutL at q
  cases hv : dv env S with
  | xn c x S1 => rw [hv] at q; exact q.elim
  | bad => rw [hv] at q; exact q.elim
  | ok v S1 =>
    rw [hv] at q
    refine ⟨W, S, H0, env, s.ok, s.env, v, S1, hv, fun W1 H1 u e1 o1 r1 => ?_⟩
    have q : OutOk X.K EX W0 H0 W D (if listSlot i env S1 = true then (match di env S1 with
      | .ok k S2 => mutL i (fPut k v) env S2
      | .xn _ _ _ => .bad
      | .bad => .bad) else .bad) := q
    split at q
    case isFalse => exact q.elim
    rename_i hl
    have s1 := s.step e1 o1
    obtain ⟨p, xs, g1, g2⟩ := list_slot o1 s1.env hl
    refine ⟨.ref p, g1, ?_⟩
    cases hk : di env S1 with
    | xn c x S1 => rw [hk] at q; exact q.elim
    | bad => rw [hk] at q; exact q.elim
    | ok k S2 =>
      rw [hk] at q
      refine ⟨W1, S1, H0, env, o1, s1.env, k, S2, hk, fun W2 H2 y e2 o2 r2 => ?_⟩
      obtain ⟨p', ds, xs', ds', k1, k2, k3, k4, k5⟩ := mut_of (s1.step e2 o2) (e1.trans e2).gr q
      rw [g1] at k1
      cases k1
      unfold fPut at k4
      split at k4
      case h_2 => cases k4
      rename_i n
      obtain ⟨j, hj, rfl⟩ := Option.map_eq_some_iff.mp k4
      cases r2
      exact ⟨p, xs', n, j, rfl, rfl, k2, dIxL_ix k3 hj, k5 _ (k3.set (r1.ext e2) j)⟩
/-! ### x[k] = v, x a slot's own dict -/
def dictSlot (i : Nat) (env : Envm) : Bool := match env[i]? with
  | some (.ow (.k _ _)) => true
  | some (.ow (.t _ _)) => true
  | _ => false
def putO (k v : D) : O → Option O
  | .k ks ds => (MP.keyOf k).bind fun q => if ks.length < 100000 then some (.k (putKs ks q) (putDs ks ds q v)) else none
  | .t ks ds => (MP.keysOf k).bind fun q => if ks.length < 100000 then some (.t (putKs ks q) (putDs ks ds q v)) else none
  | _ => none
def dPutD (i : Nat) (dk dv : DE) : DS := fun env S => match dv env S with
  | .ok v S1 => (match dk env S1 with
    | .ok k S2 => (match env[i]? with
      | some (.ow o) => (match putO k v o with
        | some o' => .nx (env.set i (.ow o')) S2
        | none => .bad)
      | _ => .bad)
    | .xn _ _ _ => .bad
    | .bad => .bad)
  | .xn _ _ _ => .bad
  | .bad => .bad
end
end MP

namespace MP
open PySem PySem.Spec PyProof.Rows L2
variable {EX : L2.XK}
/-! ### the defs of a text, one table -/
structure FD where
  x : Str
  m : Nat
  k : Nat
  b : Calls → DS
def startE (k : Nat) (ds : List D) : Envm := ds.map Sl.va ++ List.replicate (k - ds.length) .no
def finO : Out → Res R
  | .nx _ S => .ok (.v .non) S
  | .rt r S => .ok r S
  | .xn c x S => .xn c x S
  | _ => .bad
def callF (C : Calls) (d : FD) (ds : List D) (S : Sto) : Res R := if ds.length = d.m then finO (d.b C (startE d.k ds) S) else .bad
abbrev Tb := Nat → Option FD
def callN (B : Tb) : Nat → Calls
  | 0 => fun _ _ _ => .bad
  | n + 1 => fun f ds S => match B f with
    | some d => callF (callN B n) d ds S
    | none => .bad
theorem callN_eq {B : Tb} {n f : Nat} {d : FD} {ds : List D} {S : Sto} (h : B f = some d) : callN B (n + 1) f ds S = callF (callN B n) d ds S := by
  show (match B f with
    | some d => callF (callN B n) d ds S
    | none => .bad) = _
  rw [h]
def tabOf (B : Tb) : Nat → Option (Str × Nat) := fun f => (B f).map fun d => (d.x, d.m)
theorem start_ok {K : PySem.W.Frag} {W : Wd} {S : Sto} {H : Hp} {ds : List D} {vs : List V} {N : List Str} (r : RepL K W.G W.r ds vs) : EnvOk K W H H (startE N.length ds) (L2.start N vs) := by
  have hl := r.length
  have e1 : (startE N.length ds).length = (L2.start N vs).length := by
    unfold startE L2.start
    simp [hl]
  refine ⟨e1, fun i s o h1 h2 => ?_, fun i j x y a h1 h2 h3 h4 => ?_⟩
  · unfold startE at h1
    unfold L2.start at h2
    by_cases hi : i < ds.length
    · rw [List.getElem?_append_left (by simpa using hi), List.getElem?_map] at h1
      rw [List.getElem?_append_left (by rw [List.length_map]; omega), List.getElem?_map] at h2
      obtain ⟨d, g1, rfl⟩ := Option.map_eq_some_iff.mp h1
      obtain ⟨v, g2, g3⟩ := r.get g1
      rw [g2] at h2
      cases h2
      exact ⟨v, rfl, g3⟩
    · rw [List.getElem?_append_right (by simpa using hi)] at h1
      rw [List.getElem?_replicate] at h1
      split at h1
      · cases h1; trivial
      · cases h1
  · unfold startE at h1
    by_cases hi : i < ds.length
    · rw [List.getElem?_append_left (by simpa using hi), List.getElem?_map] at h1
      obtain ⟨d, g1, g2⟩ := Option.map_eq_some_iff.mp h1
      cases g2
    · rw [List.getElem?_append_right (by simpa using hi)] at h1
      rw [List.getElem?_replicate] at h1
      split at h1 <;> cases h1
abbrev XF (P : Program) (w : World) (K : PySem.W.Frag) (mg : Str → Option Value) (base : Heap) (N : List Str) (qual : Str) (scope : Scope) (f : Addr) (cdv : Value) (A : Around) (outer : List Env) (s : Shared) (H : Hp) (E : XK) : Cx := cxOf (L2.CX P w) P w K mg base N qual scope f cdv A outer s H E
section
variable {P : Program} {w : World} {K : PySem.W.Frag} {mg : Str → Option Value} {base : Heap} {B : Tb}
theorem callN_some {n i : Nat} {d : FD} {ds : List D} {S : Sto} {r : Res R} (hi : B i = some d) (h : callN B (n + 1) i ds S = r) (hr : r ≠ .bad) : ds.length = d.m ∧ finO (d.b (callN B n) (startE d.k ds) S) = r := by
  rw [callN_eq hi] at h
  unfold callF at h
  split at h
  · rename_i hl
    exact ⟨hl, h⟩
  · exact absurd h.symm hr
theorem fn_step {n i : Nat} {d : FD} {qual x : Str} {params : Arguments} {body : List Stmt} {scope : Scope} {f : Addr} {fd : FuncData} {N ps : List Str} (F : FunD K x qual params body scope [] [] f fd) (S : FnScope N ps scope) (hi : B i = some d) (hm : ps.length = d.m) (hk : N.length = d.k)
    (hb : ∀ (cdv : Value) (A : Around) (outer : List Env) (s : Shared) (H : Hp) (E : XK), (A.deeper (envOfC qual scope s.heap.objs.size f cdv)).guards = some [] → Room (n + 3) (A.deeper (envOfC qual scope s.heap.objs.size f cdv)) → PSs (XF P w K mg base N qual scope f cdv A outer s H E) body (tS K E (d.b (callN B n)))) :
    FnG P w K mg base (L2.CX P w) (n + 1 + 3) f fd ps (spC K (callN B (n + 1)) i d.m) := by
  refine fnG_of (k := n + 3) F S (fun vs H Q E h => h.1.trans hm.symm) fun cdv A outer s H vs Q E gd hr h => ⟨tS K E (d.b (callN B n)), hb cdv A outer s H E gd hr, ?_⟩
  obtain ⟨hl, W, S0, ds, ok, rep, h⟩ := h
  have e0 := start_ok (S := S0) (H := H) (N := N) rep
  rw [hk] at e0
  refine ⟨W, H, W, S0, startE d.k ds, ⟨Ext.refl _ _, ok, e0⟩, ?_⟩
  rcases h with ⟨r, S', hc, q⟩ | ⟨c, x, S', hc, q⟩
  · obtain ⟨_, hc⟩ := callN_some hi hc (fun z => nomatch z)
    cases ho : d.b (callN B n) (startE d.k ds) S0 with
    | nx e S1 =>
      rw [ho] at hc
      cases hc
      exact fun W1 H1 σ s1 _ => q W1 H1 .non s1.ext s1.ok .non
    | rt r1 S1 =>
      rw [ho] at hc
      cases hc
      exact fun W1 H1 v e1 o1 r1 => q W1 H1 v e1 o1 r1
    | xn c x S1 => rw [ho] at hc; cases hc
    | bk e S1 => rw [ho] at hc; cases hc
    | ct e S1 => rw [ho] at hc; cases hc
    | bad => rw [ho] at hc; cases hc
  · obtain ⟨_, hc⟩ := callN_some hi hc (fun z => nomatch z)
    cases ho : d.b (callN B n) (startE d.k ds) S0 with
    | nx e S1 => rw [ho] at hc; cases hc
    | rt r1 S1 => rw [ho] at hc; cases hc
    | xn c x S1 =>
      rw [ho] at hc
      cases hc
      exact fun W1 H1 cls dd e1 o1 r1 => q W1 H1 cls dd e1 o1 r1
    | bk e S1 => rw [ho] at hc; cases hc
    | ct e S1 => rw [ho] at hc; cases hc
    | bad => rw [ho] at hc; cases hc
theorem at_of {K : PySem.W.Frag} {x qual : Str} {params : Arguments} {body : List Stmt} {scope : Scope} {dvs : List V} {kws : List (Str × V)} {f : Addr} {fd : FuncData} {ps : List Str} (F : FunD K x qual params body scope dvs kws f fd) (h : params.args.map (·.arg) = ps) : At K f fd ps := by
  obtain ⟨oc, od, dV, kV, doc, pm, an, cdv, ct, osl, rfl, lk, _⟩ := F.ex
  exact ⟨⟨oc, od, osl, lk⟩, h⟩
/-- a def of the text by its place in the table, by name, with its address -/
structure DefOk (P : Program) (w : World) (K : PySem.W.Frag) (mg : Str → Option Value) (base : Heap) (B : Tb) (i : Nat) (d : FD) : Prop where
  ex : ∃ (a : Addr) (fd : FuncData) (ps : List Str), mg d.x = some (.ref a) ∧ PySem.W.keepIn K (.ref a) = true ∧ Binds K fd ps [] ∧ ps.length = d.m ∧ At K a fd ps ∧
    ∀ n, (∀ A, Room (n + 3) A → A.guards = some [] → Fx P w K mg base A n (tabOf B) (callN B n)) → FnG P w K mg base (L2.CX P w) (n + 1 + 3) a fd ps (spC K (callN B (n + 1)) i d.m)
theorem len_ok {n : Nat} {f : Nat} {x : Str} {m : Nat} {ds : List D} {S : Sto} {r : Res R} (h1 : tabOf B f = some (x, m)) (h2 : callN B n f ds S = r) (hr : r ≠ .bad) : ds.length = m := by
  unfold tabOf at h1
  obtain ⟨d, g1, g2⟩ := Option.map_eq_some_iff.mp h1
  cases g2
  cases n with
  | zero => exact absurd h2.symm hr
  | succ n => exact (callN_some g1 h2 hr).1
theorem all_ok (h : ∀ i d, B i = some d → DefOk P w K mg base B i d) : ∀ n A, Room (n + 3) A → A.guards = some [] → Fx P w K mg base A n (tabOf B) (callN B n) := by
  intro n
  induction n with
  | zero =>
    intro A hr gd
    refine ⟨hr, gd, fun f x m ds S r S' h1 h2 => len_ok h1 h2 (fun z => nomatch z), fun f x m ds S c y S' h1 h2 => len_ok h1 h2 (fun z => nomatch z), fun f x m hT => ?_⟩
    unfold tabOf at hT
    obtain ⟨d, g1, g2⟩ := Option.map_eq_some_iff.mp hT
    cases g2
    obtain ⟨a, fd, ps, h1, h2, h3, h4, h6, h5⟩ := (h f d g1).ex
    exact ⟨a, fd, ps, h1, h2, h3, h4, ⟨fun vs H Q E q => (q.1.trans h4.symm).symm, fun E Q H s A outer ar vs us _ _ ⟨_, W, S, ds, _, _, z⟩ _ _ _ => by
      rcases z with ⟨_, _, z, _⟩ | ⟨_, _, _, z, _⟩ <;> cases z⟩, h6⟩
  | succ n ih =>
    intro A hr gd
    refine ⟨hr, gd, fun f x m ds S r S' h1 h2 => len_ok h1 h2 (fun z => nomatch z), fun f x m ds S c y S' h1 h2 => len_ok h1 h2 (fun z => nomatch z), fun f x m hT => ?_⟩
    unfold tabOf at hT
    obtain ⟨d, g1, g2⟩ := Option.map_eq_some_iff.mp hT
    cases g2
    obtain ⟨a, fd, ps, h1, h2, h3, h4, h6, h5⟩ := (h f d g1).ex
    exact ⟨a, fd, ps, h1, h2, h3, h4, h5 n ih, h6⟩
end
/-- where nothing is raised -/
theorem fn_down {P : Program} {w : World} {K : PySem.W.Frag} {mg : Str → Option Value} {base : Heap} {k : Nat} {f : Addr} {fd : FuncData} {ps : List Str} {sp : Sp} (F : FnG P w K mg base (L2.CX P w) k f fd ps sp) : FnG P w K mg base CX0 k f fd ps (fun vs H Q _ => sp vs H Q E0) :=
  ⟨fun vs H Q E h => F.ln vs H Q E0 h, fun E Q H s A outer ar vs us gd rm h hv hb he => codeAny_mono (F.go E0 Q H s A outer ar vs us gd rm h hv hb he) fun r s' hq => by
    cases r with
    | ok fl => cases fl <;> exact hq
    | error e =>
      obtain ⟨_, _, _, _, _, _, _, _, _, _, _, _, z⟩ := hq
      exact z.elim⟩
theorem units_of {n : Nat} {A : Around} (r : Room n A) : A.units + 200 < cLine := by have := r.un; omega
theorem po_nox {P : Program} {w : World} {K : PySem.W.Frag} {mg : Str → Option Value} {base : Heap} {N : List Str} {qual : Str} {scope : Scope} {f : Addr} {cdv : Value} {A : Around} {outer : List Env} {s : Shared} {H : Hp} {E : XK} :
    PassesOwn (model P w) (XF P w K mg base N qual scope f cdv A outer s H E).A (XF P w K mg base N qual scope f cdv A outer s H E).env (XF P w K mg base N qual scope f cdv A outer s H E).xe := PassesOwn.leaving
/-- a new object in an argument is shared -/
def shE (dr : DR) : DE := fun env S => match dr env S with
  | .ok (.o x) S1 => .ok (.loc S1.length) (S1 ++ [x])
  | .ok (.v d) S1 => .ok d S1
  | .xn c x S1 => .xn c x S1
  | .bad => .bad
/-! ### a comprehension's scope, checked -/
def blkB (N : List Str) (sc scope : Scope) (own : List (Str × Nat)) : Bool :=
  (match scope.kind with | .function => true | _ => false) && scope.names.all (fun y => scope.names.lookup y.1 == some y.2) && own.all (fun p => N[p.2]? == some p.1) &&
  scope.names.all (fun y => y.2 != .free || (sc.names.lookup y.1 == some .cell || sc.names.lookup y.1 == some .free)) &&
  scope.names.all (fun y => !(y.2 == .local || y.2 == .cell) || (own.any (fun p => p.1 == y.1) || !N.contains y.1))
theorem blk_of {N : List Str} {sc scope : Scope} {own : List (Str × Nat)} (h : blkB N sc scope own = true) : BlkOk N sc scope own := by
  unfold blkB at h
  simp only [Bool.and_eq_true, List.all_eq_true] at h
  obtain ⟨⟨⟨⟨h1, h2⟩, h3⟩, h4⟩, h5⟩ := h
  refine ⟨?_, fun y hy => ?_, fun p hp => ?_, fun y hy e => ?_, fun y hy e => ?_⟩
  · cases hk : scope.kind <;> rw [hk] at h1 <;> first | rfl | cases h1
  · simpa using h2 y hy
  · simpa using h3 p hp
  · have := h4 y hy
    rw [e] at this
    simpa using this
  · have := h5 y hy
    rcases e with e | e <;> rw [e] at this <;> simpa using this
/-! ### the law -/
theorem law_sp {K : PySem.W.Frag} {C : Calls} {f : Nat} {ns : List Int} {H : Hp} {a : Addr} {E : XK} (h : ∃ S', C f [.scr ns] [] = .ok (.v (.bl true)) S') (hS : SqL K H a (ns.map V.int)) : spC K C f 1 [.ref a] H (fun v _ => v = .bl true) E := by
  obtain ⟨S', h⟩ := h
  refine ⟨rfl, ⟨H, []⟩, [], [.scr ns], ⟨SubH.refl _, List.nodup_nil, rfl, fun n x e => by simp at e, fun b hb => by cases hb⟩, .cons (.scr hS) .nil, .inl ⟨.v (.bl true), S', h, fun W' H' v _ _ r => ?_⟩⟩
  cases (show Rep K W'.G W'.r (.bl true) v from r)
  rfl
end MP

namespace MP
open PySem PySem.Spec PyProof.Rows L2
variable {EX : L2.XK}
section
variable {X : Cx} {e a b : Expr} {pos : Pos}
/-! ### dict(zip(ks, vs)) of two lists -/
def dDictZip (da db : DE) : DR := fun env S => (da env S).bind fun x S1 => (db env S1).bind fun y S2 => match x, y with
  | .lst ks, .lst vs => (match keysOfL ks with
    | some qs => .ok (.o (.k (putAll (qs.zip vs) [] []).1 (putAll (qs.zip vs) [] []).2)) S2
    | none => .bad)
  | _, _ => .bad
end
end MP

namespace MP
open PySem PySem.Spec PyProof.Rows L2
variable {EX : L2.XK}
/-! ### enumerate(x), x a tuple -/
abbrev enOb (it : Addr) : Obj := { cls := .type "enumerate", data := .fields #[.none, .bool false, .ref it, rawInt 0, .none, .none] }
/-- the tuple at a, each item in a new pair -/
def IteT (K : PySem.W.Frag) (a : Addr) : It :=
  ⟨fun i H => ∃ (xs : List V) (x : V), SqT K H a xs ∧ xs[i]? = some x, fun i H v H' => ∃ T x, v = .ref T ∧ H T = none ∧ H' = upd H T (.tup [.int (i : Nat), x]) ∧ ∀ xs, SqT K H a xs → xs[i]? = some x, fun i H => ∃ xs : List V, SqT K H a xs ∧ xs.length ≤ i⟩
section
variable {X : Cx} {e a b : Expr} {pos : Pos}
/-! ### enumerate and zip as what is walked -/
def enumD : Nat → List D → List D
  | _, [] => []
  | i, d :: ds => .tup [.int (i : Nat), d] :: enumD (i + 1) ds
def zipD : List D → List D → List D
  | a :: as, b :: bs => .tup [a, b] :: zipD as bs
  | _, _ => []
theorem zipD_get : ∀ {as bs : List D} {i : Nat} {a b : D}, as[i]? = some a → bs[i]? = some b → (zipD as bs)[i]? = some (.tup [a, b])
  | _ :: _, _ :: _, 0, a, b, h, k => by simp at h k; subst h k; rfl
  | _ :: as, _ :: bs, i + 1, a, b, h, k => by
    exact zipD_get (as := as) (bs := bs) (i := i) (by simpa using h) (by simpa using k)
  | [], _, i, a, b, h, _ => by simp at h
  | _ :: _, [], i, a, b, _, k => by simp at k
theorem zipD_len : ∀ as bs : List D, (zipD as bs).length = min as.length bs.length
  | [], _ => by simp [zipD]
  | _ :: _, [] => by simp [zipD]
  | a :: as, b :: bs => by
    simp only [zipD, List.length_cons, zipD_len as bs]
    omega
def dEnum (de : DE) : DA := fun env S => (de env S).bind fun d S1 => match itemsOf d with
  | some ds => .ok (enumD 0 ds) S1
  | none => .bad
def dZip (da db : DE) : DA := fun env S => (da env S).bind fun x S1 => (db env S1).bind fun y S2 => match x, y with
  | .lst as, .lst bs => .ok (zipD as bs) S2
  | .tup as, .tup bs => .ok (zipD as bs) S2
  | _, _ => .bad
theorem pair_new {K : PySem.W.Frag} {W : Wd} {S : Sto} {H : Hp} {T : Addr} {x y : V} {a b : D} (ok : WOk K W S H) (h : H T = none) (ra : Rep K W.G W.r a x) (rb : Rep K W.G W.r b y) :
    ∃ W', Ext W H W' (upd H T (.tup [x, y])) ∧ WOk K W' S (upd H T (.tup [x, y])) ∧ Rep K W'.G W'.r (.tup [a, b]) (.ref T) := by
  obtain ⟨h1, h2, h3⟩ := tup_new ok h (.cons ra (.cons rb .nil))
  exact ⟨_, h1, h2, h3⟩
theorem walkZ {K : PySem.W.Frag} {a b : Addr} {xs ys : List V} {as bs : List D} {P : Wd → Hp → Prop} (h : ∀ W S H, WOk K W S H → P W H → SqL K H a xs ∧ RepL K W.G W.r as xs ∧ SqL K H b ys ∧ RepL K W.G W.r bs ys) (hl : as.length = xs.length) (hl2 : bs.length = ys.length) : WalkM K P (Itz K a b) (zipD as bs) := by
  refine ⟨fun i W S H hi ok p => ?_, fun W S H ok p => ?_, fun i W S H x H' hi ok p y => ?_⟩
  · rw [zipD_len] at hi
    obtain ⟨h1, _, h3, _⟩ := h W S H ok p
    exact ⟨xs, ys, xs[i]'(by omega), ys[i]'(by omega), h1, h3, List.getElem?_eq_getElem _, List.getElem?_eq_getElem _⟩
  · rw [zipD_len]
    obtain ⟨h1, _, h3, _⟩ := h W S H ok p
    exact ⟨xs, ys, h1, h3, by omega⟩
  · obtain ⟨h1, h2, h3, h4⟩ := h W S H ok p
    obtain ⟨T, v, u, rfl, y1, rfl, y2, y3⟩ := y
    obtain ⟨d, g1, g2⟩ := h2.getV (y2 xs h1)
    obtain ⟨d', g3, g4⟩ := h4.getV (y3 ys h3)
    obtain ⟨W', z1, z2, z3⟩ := pair_new ok y1 g2 g4
    exact ⟨W', _, zipD_get g1 g3, z1, z2, z3⟩
theorem walkZT {K : PySem.W.Frag} {a b : Addr} {xs ys : List V} {as bs : List D} {P : Wd → Hp → Prop} (h : ∀ W S H, WOk K W S H → P W H → SqT K H a xs ∧ RepL K W.G W.r as xs ∧ SqT K H b ys ∧ RepL K W.G W.r bs ys) (hl : as.length = xs.length) (hl2 : bs.length = ys.length) : WalkM K P (RZ.ItzT K a b) (zipD as bs) := by
  refine ⟨fun i W S H hi ok p => ?_, fun W S H ok p => ?_, fun i W S H x H' hi ok p y => ?_⟩
  · rw [zipD_len] at hi
    obtain ⟨h1, _, h3, _⟩ := h W S H ok p
    exact ⟨xs, ys, xs[i]'(by omega), ys[i]'(by omega), h1, h3, List.getElem?_eq_getElem _, List.getElem?_eq_getElem _⟩
  · rw [zipD_len]
    obtain ⟨h1, _, h3, _⟩ := h W S H ok p
    exact ⟨xs, ys, h1, h3, by omega⟩
  · obtain ⟨h1, h2, h3, h4⟩ := h W S H ok p
    obtain ⟨T, v, u, rfl, y1, rfl, y2, y3⟩ := y
    obtain ⟨d, g1, g2⟩ := h2.getV (y2 xs h1)
    obtain ⟨d', g3, g4⟩ := h4.getV (y3 ys h3)
    obtain ⟨W', z1, z2, z3⟩ := pair_new ok y1 g2 g4
    exact ⟨W', _, zipD_get g1 g3, z1, z2, z3⟩
theorem mi_zip {p pos tpos : Pos} {elts : List Expr} {kk : Nat} {da db : DE} (hg : Gl X "zip") (hm : X.mg "zip" = none) (ha : PE X a (tV X.K da)) (hb : PE X b (tV X.K db)) (hs : starEach [a, b] X.env = (false, eval a X.env) :: starEach [b] X.env := by rfl) (hs2 : starEach [b] X.env = (false, eval b X.env) :: starEach [] X.env := by rfl) (hpl : (backTo pos (starEach [b] X.env)).any (·.1) = false := by rfl) :
    PI X (.Tuple elts kk tpos) (.Call (.Name "zip" p) [a, b] [] pos) (iF X.K (dZip da db)) := PI.imp (RZ.pi_zipA hg hm (pa_cons ha (pa_cons hb pa_nil hs2) hs) hs hpl) fun σ H R ⟨W, S, H0, env, ok, eo, ds, S', h, q⟩ => by
  obtain ⟨x, S1, h1, h2⟩ := bind_ok h
  obtain ⟨y, S2, h3, h4⟩ := bind_ok h2
  refine ⟨W, S, H0, env, ok, eo, x, S1, h1, fun W1 H1 v e1 o1 r1 => ?_⟩
  refine ⟨W1, S1, H0, env, o1, eo.ext e1, y, S2, h3, fun W2 H2 u e2 o2 r2 => ?_⟩
  have r1 := r1.ext e2
  split at h4
  · cases h4
    cases r1 with
    | @lst p1 xs _ c1 c2 =>
      cases r2 with
      | @lst p2 ys _ c3 c4 =>
        exact ⟨p1, p2, xs, ys, rfl, .inl ⟨SqL.of (o2.sub _ _ c1), SqL.of (o2.sub _ _ c3), q W2 H2 _ (e1.trans e2) o2 (walkZ (fun W3 S3 H3 o3 p => ⟨SqL.of (o3.sub _ _ (p.g _ _ c1)), c2.mono p.g p.r, SqL.of (o3.sub _ _ (p.g _ _ c3)), c4.mono p.g p.r⟩) c2.length c4.length)⟩⟩
  · cases h4
    cases r1 with
    | @tup p1 xs _ c1 c2 =>
      cases r2 with
      | @tup p2 ys _ c3 c4 =>
        exact ⟨p1, p2, xs, ys, rfl, .inr ⟨SqT.of (o2.sub _ _ c1), SqT.of (o2.sub _ _ c3), q W2 H2 _ (e1.trans e2) o2 (walkZT (fun W3 S3 H3 o3 p => ⟨SqT.of (o3.sub _ _ (p.g _ _ c1)), c2.mono p.g p.r, SqT.of (o3.sub _ _ (p.g _ _ c3)), c4.mono p.g p.r⟩) c2.length c4.length)⟩⟩
  · cases h4
end
end MP

namespace MP
open PySem PySem.Spec PyProof.Rows L2
variable {EX : L2.XK}
/-! ### a tuple that stands somewhere -/
/-! ### a locked dict walked -/
def keyD : Key → D
  | .inl i => .int i
  | .inr x => .str x
def dKeys (de : DE) : DA := fun env S => (de env S).bind fun d S1 => match d with
  | .fk ks _ => .ok (ks.map keyD) S1
  | .ft ks _ => .ok (ks.map fun k => .tup (k.map keyD)) S1
  | _ => .bad
section
variable {X : Cx} {tg : Expr}
end
/-! ### an expression while a slot's own dict is locked -/
def lockO : O → Option O
  | .k ks ds => some (.fk ks ds)
  | .t ks ds => some (.ft ks ds)
  | _ => none
def lockE (i : Nat) (env : Envm) : Option Envm := match env[i]? with
  | some (.ow x) => (lockO x).map fun y => env.set i (.ow y)
  | _ => none
def dLk (i : Nat) (dr : DR) : DR := fun env S => match lockE i env with
  | some e => dr e S
  | none => .bad
/-- a slot's own object is laid anew -/
theorem WOk.upd {K : PySem.W.Frag} {W : Wd} {S : Sto} {H : Hp} {a : Addr} {u : HO} (ok : WOk K W S H) (n : W.G a = none) (m : a ∉ W.r) : WOk K W S (upd H a u) := by
  refine ⟨fun b o e => ?_, ok.nd, ok.len, fun k y e => ?_, ok.ng⟩
  · rw [upd_ne (ne_of_none e n)]
    exact ok.sub b o e
  · obtain ⟨c, v, c1, c2, c3⟩ := ok.cell k y e
    have nc : c ≠ a := fun z => m (by rw [← z]; exact List.mem_of_getElem? c1)
    exact ⟨c, v, c1, by rw [upd_ne nc]; exact c2, c3⟩
theorem EnvOk.swap {K : PySem.W.Frag} {W : Wd} {H H0 : Hp} {env : Envm} {σ : L2.St} {i : Nat} {x y : O} {a : Addr} {u' : HO} (eo : EnvOk K W H H0 env σ) (h : env[i]? = some (.ow x)) (h2 : σ[i]? = some (some (.ref a))) (q : RepO K W.G W.r y u') (n : W.G a = none) (m : a ∉ W.r) (z0 : H0 a = none) : EnvOk K W (upd H a u') H0 (env.set i (.ow y)) σ := by
  have hi := (List.getElem?_eq_some_iff.mp h).1
  refine ⟨by rw [List.length_set]; exact eo.len, fun j t o e1 e2 => ?_, fun j k y1 y2 b e1 e2 e3 e4 => ?_⟩
  · by_cases hj : i = j
    · subst hj
      rw [List.getElem?_set_self hi] at e1
      cases e1
      rw [h2] at e2
      cases e2
      exact ⟨a, u', rfl, upd_same, q, n, m, z0⟩
    · rw [List.getElem?_set_ne hj] at e1
      have z := eo.sl j t o e1 e2
      cases t with
      | no => trivial
      | va d => exact z
      | ow y =>
        obtain ⟨b, u', z1, z2, z3, z4, z5, z6⟩ := z
        have nb : b ≠ a := fun e => by
          subst e
          subst z1
          exact hj (eo.dis i j x y b h e1 h2 e2)
        exact ⟨b, u', z1, by rw [upd_ne nb]; exact z2, z3, z4, z5, z6⟩
  · have f : ∀ (p : Nat) (z : O), (env.set i (.ow y))[p]? = some (.ow z) → ∃ z', env[p]? = some (.ow z') := fun p z hm => by
      by_cases c : i = p
      · subst c
        exact ⟨x, h⟩
      · rw [List.getElem?_set_ne c] at hm
        exact ⟨z, hm⟩
    obtain ⟨z1, f1⟩ := f j _ e1
    obtain ⟨z2, f2⟩ := f k _ e2
    exact eo.dis j k z1 z2 b f1 f2 e3 e4
section
variable {X : Cx} {e : Expr}
end
end MP

namespace MP
open PySem PySem.Spec PyProof.Rows L2
variable {EX : L2.XK}
/-! ### x[i], x[j] = u, v -/
def dPut2 (i : Nat) (da db du dv : DE) : DS := fun env S => match du env S with
  | .ok u S1 => (match dv env S1 with
    | .ok v S2 => dSeqS (dPutL i da (dC u)) (dPutL i db (dC v)) env S2
    | .xn _ _ _ => .bad
    | .bad => .bad)
  | .xn _ _ _ => .bad
  | .bad => .bad
section
variable {X : Cx} {a b e1 e2 : Expr} {pos : Pos}
end
/-! ### chains of three comparisons -/
def tChain3 (r r1 r2 : R2) (ta tb tc td : TE) : TE := fun σ H Q => ta σ H fun x H1 => tb σ H1 fun y H2 => r x y H2 fun z H3 => ∃ k, z = .bl k ∧
  (if k = true then tc σ H3 fun w H4 => r1 y w H4 fun z' H5 => ∃ k', z' = .bl k' ∧ (if k' = true then td σ H5 fun t H6 => r2 w t H6 fun z2 H7 => ∃ k2, z2 = .bl k2 ∧ Q (.bl k2) H7 else Q (.bl false) H5) else Q (.bl false) H3)
section
variable {X : Cx} {a b c d : Expr} {ta tb tc td : TE} {pos : Pos}
def dChain3 (f f1 f2 : D → D → Sto → Res R) (da db dc dd : DE) : DE := fun env S => (da env S).bind fun x S1 => (db env S1).bind fun y S2 => (f x y S2).bind fun r S3 => match r with
  | .v (.bl true) => (dc env S3).bind fun z S4 => (f1 y z S4).bind fun r1 S5 => (match r1 with
    | .v (.bl true) => (dd env S5).bind fun t S6 => (f2 z t S6).bind fun r2 S7 => (match r2 with
      | .v (.bl k) => .ok (.bl k) S7
      | _ => .bad)
    | .v (.bl false) => .ok (.bl false) S5
    | _ => .bad)
  | .v (.bl false) => .ok (.bl false) S3
  | _ => .bad
end
/-! ### min(xs), max(xs) of a list of numbers; x //= k -/
def bMin1 : List D → Sto → Res R := fun ds S => match ds with
  | [.lst xs] => (match intsOf xs with | some (n :: ns) => .ok (.v (.int (minL n ns))) S | _ => .bad)
  | _ => .bad
def bMax1 : List D → Sto → Res R := fun ds S => match ds with
  | [.lst xs] => (match intsOf xs with | some (n :: ns) => .ok (.v (.int (maxL n ns))) S | _ => .bad)
  | _ => .bad
section
variable {X : Cx}
def fIDiv : D → D → Sto → Res R := fun d e S => match d, e with
  | .int i, .int j => if 0 < j ∧ j < 1073741824 then .ok (.v (.int (i / j))) S else .bad
  | _, _ => .bad
end
end MP

namespace MP
open PySem PySem.Spec PyProof.Rows L2
variable {EX : L2.XK}
section
variable {X : Cx} {pos : Pos}
/-! ### names of the module that stand for a tuple, a number -/
theorem me_gint {x : Str} {i : Int} (hg : Gl X x) (hm : ∃ t, X.mg x = some (.int i t)) (hd : (x == ("__debug__" : Str)) = false := by decide) : PE X (.Name x pos) (tV X.K (dC (.int i))) := by
  obtain ⟨t, hm⟩ := hm
  exact PE.imp (pe_glob hg hm (v := .int i) ⟨t, rfl⟩ hd) fun σ H Q ⟨W, S, H0, env, ok, eo, d, S', h, q⟩ => by
    cases h
    exact q W H _ (Ext.refl _ _) ok (.int i)
/-! ### x = own.pop() -/
def dPop (i j : Nat) : DS := fun env S => if i ≠ j then (match env[j]? with
  | some (.ow (.l es)) => (match es[es.length - 1]? with
    | some y => .nx ((env.set j (.ow (.l es.dropLast))).set i (.va y)) S
    | none => .bad)
  | _ => .bad) else .bad
/-! ### c.index(e), of flat items -/
def rIndexT (K : PySem.W.Frag) : V → List V → Hp → VK → Prop := fun x xs H Q => ∃ (a : Addr) (ys : List V) (y : V) (j : Nat) (z : V), x = V.ref a ∧ xs = [y] ∧ SqT K H a ys ∧ flatV y = true ∧ ys.all flatV = true ∧ ys[j]? = some z ∧ eqV z y = true ∧
  (∀ (m : Nat) (z' : V), m < j → ys[m]? = some z' → eqV z' y = false) ∧ Q (.int (j : Nat)) H
def flV : D → Option V
  | .non => some .non
  | .bl b => some (.bl b)
  | .int i => some (.int i)
  | .str x => some (.str x)
  | _ => none
def flVs : List D → Option (List V)
  | [] => some []
  | d :: ds => (match flV d, flVs ds with | some v, some vs => some (v :: vs) | _, _ => none)
theorem flV_rep {K : PySem.W.Frag} {G : Hp} {r : List Addr} {d : D} {v u : V} (h : flV d = some v) (q : Rep K G r d u) : u = v ∧ flatV v = true := by
  cases q <;> cases h <;> exact ⟨rfl, rfl⟩
theorem flVs_rep {K : PySem.W.Frag} {G : Hp} {r : List Addr} : ∀ {ds : List D} {vs us : List V}, flVs ds = some vs → RepL K G r ds us → us = vs ∧ vs.all flatV = true
  | [], vs, us, h, q => by
    cases q
    cases h
    exact ⟨rfl, rfl⟩
  | d :: ds, vs, us, h, q => by
    cases q with
    | cons q1 q2 =>
      unfold flVs at h
      split at h
      case h_2 => cases h
      rename_i v vs' h1 h2
      cases h
      obtain ⟨rfl, f1⟩ := flV_rep h1 q1
      obtain ⟨rfl, f2⟩ := flVs_rep h2 q2
      exact ⟨rfl, by rw [List.all_cons, f1, f2]; rfl⟩
def idxV (es : List D) (d : D) : Option Nat := match flVs es, flV d with
  | some ys, some y => ys.findIdx? fun z => eqV z y
  | _, _ => none
def fIndex : D → D → Sto → Res D := fun c d S => match c with
  | .lst es => (match idxV es d with | some j => .ok (.int (j : Nat)) S | none => .bad)
  | _ => .bad
def dIndex (dc dd : DE) : DE := fun env S => (dc env S).bind fun c S1 => (dd env S1).bind fun d S2 => fIndex c d S2
end
theorem andL {a b : Bool} (h : (a && b) = true) : a = true := (Bool.and_eq_true _ _ ▸ h).1
theorem andR {a b : Bool} (h : (a && b) = true) : b = true := (Bool.and_eq_true _ _ ▸ h).2
/-! ### the head's facts, with a Bool of one's own -/
def obsX (bx : PySem.W.Frag → Bool) (fa : List He.Fa) (fn : List He.DefD) (K : PySem.W.Frag) : Bool × He.AlD := (bx K, He.obsD fa fn K)
def obsXG (n : Nat) (bx : PySem.W.Frag → Bool) (fa : List He.Fa) (fn : List He.DefD) (g : Addr → Option Obj) : Bool × He.AlD := obsX bx fa fn (He.frG g (He.asD g n))
def hookX (n : Nat) (bx : PySem.W.Frag → Bool) (fa : List He.Fa) (fn : List He.DefD) : PySem.W.Hook where
  α := Bool × He.AlD
  obs := fun s => obsXG n bx fa fn s.heap.get?
  val := fun _ => (true, He.valD fn)
  says := fun _ h => ∃ K : PySem.W.Frag, K.In h ∧ bx K = true ∧ He.SaysD fa fn K
  of := fun _ _ e => ⟨_, He.frG_in, congrArg (fun z : Bool × He.AlD => z.1) e, congrArg (fun z : Bool × He.AlD => z.2) e⟩
  keeps := fun _ _ _ ⟨K, hK, b, c⟩ k => ⟨K, PySem.W.Frag.In.keeps hK k, b, c⟩
theorem obsXG_eq {n : Nat} {bx : PySem.W.Frag → Bool} {fa : List He.Fa} {fn : List He.DefD} {g : Addr → Option Obj} {s : Shared} (h : ∀ a, g a = s.heap.get? a) : obsXG n bx fa fn g = (hookX n bx fa fn).obs s := by
  rw [show g = s.heap.get? from funext h]
  rfl
end MP

namespace MP
open PySem PySem.Spec PyProof.Rows L2
variable {EX : L2.XK}
section
variable {X : Cx} {e : Expr} {st : Stmt} {pos : Pos} {tg : Expr}
/-! ### a thing locked for good -/
def lkD1 : R → D
  | .v d => d
  | .o (.k ks ds) => .fk ks ds
  | .o (.t ks ds) => .ft ks ds
  | .o x => x.toD
/-- a value; a new dict is locked -/
def fzL (dr : DR) : DE := fun env S => (dr env S).map lkD1
theorem Ext.upd {W W' : Wd} {H H' : Hp} {a : Addr} {u : HO} (x : Ext W H W' H') (h : H a = none) : Ext W H W' (upd H' a u) := by
  refine ⟨x.g, x.r, x.gn, x.rn, fun b o e n => ?_, fun b o e => ?_⟩
  · rw [upd_ne (ne_of_none e h)]
    exact x.h b o e n
  · rw [upd_ne (ne_of_none e h)]
    exact x.k b o e
/-- .. of a slot -/
def lkE (i : Nat) (env : Envm) : Envm := match lockE i env with
  | some e => frzE i e
  | none => frzE i env
def dFrzL (i : Nat) (a : DS) : DS := fun env S => a (lkE i env) S
/-! ### {k: v} -/
def dDisp1 (dk dv : DE) : DR := fun env S => (dk env S).bind fun k S1 => (dv env S1).bind fun v S2 => match keyOf k with
  | some q => .ok (.o (.k [q] [v])) S2
  | none => .bad
/-! ### walks over a locked dict -/
def itemsD : List Key → List D → List D
  | k :: ks, d :: ds => .tup [keyD k, d] :: itemsD ks ds
  | _, _ => []
def dItems (de : DE) : DA := fun env S => (de env S).bind fun d S1 => match d with
  | .fk ks ds => .ok (itemsD ks ds) S1
  | _ => .bad
def dValsI (de : DE) : DA := fun env S => (de env S).bind fun d S1 => match d with
  | .fk _ ds => .ok ds S1
  | _ => .bad
/-! ### sorted(d) -/
def keyInts : List Key → Option (List Int)
  | [] => some []
  | .inl i :: ks => (keyInts ks).map (i :: ·)
  | .inr _ :: _ => none
def sortK (ks : List Key) : Option (List Int) := match keyInts ks with
  | some ns => if ns.length < 64 ∧ ns.Nodup then some (usort ns) else none
  | none => none
def bSortK : List D → Sto → Res R := fun ds S => match ds with
  | [.dk ks _] => (match sortK ks with | some ns => .ok (.o (.l (ns.map D.int))) S | none => .bad)
  | [.fk ks _] => (match sortK ks with | some ns => .ok (.o (.l (ns.map D.int))) S | none => .bad)
  | _ => .bad
/-! ### c.count(e), of flat items -/
def rCntF (K : PySem.W.Frag) : V → List V → Hp → VK → Prop := fun x xs H Q => ∃ (p : Addr) (ys : List V) (y : V), x = .ref p ∧ xs = [y] ∧ SqL K H p ys ∧ flatV y = true ∧ ys.all flatV = true ∧ Q (.int (ys.countP (fun z => eqV z y) : Nat)) H
theorem cntU {y : V} : ∀ {ys : List V} {its : List Value}, Vals ys its → ys.all flatV = true → its.countP (eqU y) = ys.countP fun z => eqV z y
  | [], _, r, _ => by cases r; rfl
  | a :: ys, _, r, f => by
    cases r with
    | cons r1 r2 =>
      rw [List.all_cons, Bool.and_eq_true] at f
      rw [List.countP_cons, List.countP_cons, cntU r2 f.2, eqU_of r1 f.1]
theorem mt_lcountF : MtR X "list.count" (rCntF X.K) := by
  intro pins s σ H x xs v us Q I rx rxs h
  obtain ⟨p, ys, y, rfl, rfl, hs, fy, fys, q⟩ := h
  cases rx
  obtain ⟨u, rfl, ru⟩ := rxs.one
  obtain ⟨its, rv, ⟨⟨cls, dd, data, sl⟩, n, ho, hc, hdn, hd⟩, hlen⟩ := I.list hs
  simp only at hc hd
  subst hc hd
  refine call_meets PySem.F.slot_list_count ⟨_, ho, rfl⟩ PySem.F.entry_list_count (PySem.F.args_list_count_2 _ _)
    (SeqAt.list_countAt p its.toArray n dd sl u (eqU y)) ⟨ho, fun u' hu' => mem_eqAt ru fy rv fys u' (by simpa using hu'), ?_⟩
  have ec : its.toArray.toList.countP (eqU y) = ys.countP fun z => eqV z y := by
    rw [List.toList_toArray]
    exact cntU rv fys
  refine ⟨.int (ys.countP (fun z => eqV z y) : Nat), H, I.tok _, ⟨s.toks, ?_⟩, q⟩
  show Value.int ((its.toArray.toList.countP (eqU y) : Nat) : Int) s.toks = _
  rw [ec]
def fCount : D → D → Sto → Res D := fun c d S => match c with
  | .lst es => (match flVs es, flV d with | some ys, some y => .ok (.int (ys.countP (fun z => eqV z y) : Nat)) S | _, _ => .bad)
  | _ => .bad
def dCount (dc dd : DE) : DE := fun env S => (dc env S).bind fun c S1 => (dd env S1).bind fun d S2 => fCount c d S2
theorem me_count {o e : Expr} {apos cpos : Pos} {dc dd : DE} (ho : PE X o (MP.tB X.K dc)) (he : PE X e (tV X.K dd)) (hst : starEach [e] X.env = (false, eval e X.env) :: starEach [] X.env := by rfl) (hbase : attributeBase o "count" X.env (eval o X.env) = eval o X.env := by rfl)
    (hfew : ((backTo cpos (starEach [e] X.env)).all (fun x => !x.1) && (backToKw cpos (keywordEach [] X.env)).all (fun x => x.1.isSome) && decide ([e].length + ([] : List Keyword).length + (if ([] : List Keyword).isEmpty then 0 else 1) < 30)) = true := by rfl)
    (hline : (apos.endLine == cpos.line) = true := by rfl) : PE X (.Call (.Attribute o "count" apos) [e] [] cpos) (tV X.K (dCount dc dd)) :=
  PE.imp (pe_bm PySem.F.plainAttrs_list PySem.F.slot_list_count PySem.F.type_list_count mt_lcountF ho (pa_cons he pa_nil hst) hbase hfew hline hst) fun σ H Q ⟨W, S, H0, env, ok, eo, d, S', h, q⟩ => by
    obtain ⟨c, S1, h1, h2⟩ := bind_ok h
    obtain ⟨k, S2, h3, h4⟩ := bind_ok h2
    refine ⟨W, S, H0, env, ok, eo, c, S1, h1, fun W1 H1 v e1 o1 r1 => ?_⟩
    unfold fCount at h4
    split at h4
    case h_2 => cases h4
    rename_i es
    split at h4
    case h_2 => cases h4
    rename_i ys y g1 g2
    cases h4
    have r1' := r1
    obtain ⟨a, xs, rfl, f1, f2⟩ := r1.lst_inv o1
    refine ⟨.inl ⟨rfl, xs, SqL.of f1⟩, W1, S1, H0, env, o1, eo.ext e1, k, _, h3, fun W2 H2 v2 e2 o2 r2 => ?_⟩
    obtain ⟨a2, zs, ea, f3, f4⟩ := (r1'.ext e2).lst_inv o2
    cases ea
    obtain ⟨rfl, t1⟩ := flVs_rep g1 f4
    obtain ⟨rfl, t2⟩ := flV_rep g2 r2
    exact ⟨a, zs, v2, rfl, rfl, SqL.of f3, t2, t1, q W2 H2 _ (e1.trans e2) o2 (.int _)⟩
end
end MP

namespace MP
open PySem PySem.Spec PyProof.Rows L2
variable {EX : L2.XK}
/-! ### list(enumerate(xs)) -/
abbrev EnX (h : Heap) (e it : Addr) (i : Int) (x : Value) (a : Addr) (b : Bool) : Prop :=
  h.get? e = some { cls := .type "enumerate", dict := none, data := .fields #[rawInt a, .bool b, .ref it, rawInt i, .none, x], slots := #[] }
section
variable {prog : Program} {w : World} {A : Around} {E : Value → Shared → Prop} {s : Shared}
/-- the items that are made so far: new pairs -/
structure EnAcc (N : Nat) (items : Array Value) (acc : Array Value) (h : Heap) (i : Nat) : Prop where
  len : acc.size = i
  at_ : ∀ j v, j < i → acc[j]? = some v → ∃ T t x, v = .ref T ∧ N ≤ T ∧ items[j]? = some x ∧ h.get? T = some { cls := .type "tuple", data := .seq #[.int j t, x] }
  dist : ∀ (j k : Nat) (T : Addr), acc[j]? = some (Value.ref T) → acc[k]? = some (Value.ref T) → j = k
end
section
variable {X : Cx} {pins : List (Addr × Obj)} {σ : L2.St} {H : Hp} {s : Shared}
def dListEnum (de : DE) : DR := fun env S => (de env S).bind fun d S1 => match d with
  | .lst ds => if ds.length ≤ 100000 then .ok (.o (.l (enumD 0 ds))) S1 else .bad
  | _ => .bad
end
end MP

namespace MP
open PySem PySem.Spec PyProof.Rows L2
variable {EX : L2.XK}
/-! ### zip of two tuples, each pair kept under a name -/
abbrev ZipX (h : Heap) (z TI TO : Addr) (f0 : Value) (b : Bool) : Prop :=
  h.get? z = some { cls := .type "zip", dict := none, data := .fields #[f0, .bool b, .bool false, .ref TI, .ref TO], slots := #[] }
def Hel (f0 : Value) : Prop := f0 = .none ∨ ∃ a : Addr, f0 = rawInt a
section
variable {prog : Program} {w : World} {A : Around} {E : Value → Shared → Prop} {s : Shared}
end
def iZipN (K : PySem.W.Frag) (ta : TA) : TI := fun σ H R => ta σ H fun vs H1 => ∃ a b xs ys, vs = [.ref a, .ref b] ∧ SqT K H1 a xs ∧ SqT K H1 b ys ∧ R (RZ.ItzT K a b) H1
/-- zip of two tuples -/
def dZipT (da db : DE) : DA := fun env S => (da env S).bind fun x S1 => (db env S1).bind fun y S2 => match x, y with
  | .tup as, .tup bs => .ok (zipD as bs) S2
  | _, _ => .bad
section
variable {X : Cx} {a b : Expr}
end
end MP

namespace MP
variable {EX : L2.XK}
variable {EX : L2.XK}
open PySem PySem.Spec PyProof.Rows L2
/-! ### exceptions of one's own over a built-in class -/
structure BaseF (Bn newId initId : String) (bm : List Value) : Prop where
  eb : ExcBaseFacts Bn newId initId bm
  st : StoreFacts Bn bm "object.__setattr__" "object"
  ty : typeOf (.type Bn) = pure (.type "type")
  stub : Manifest.isStub Bn = false
  hand : PySem.W.handedIn (.builtin initId) = true
  blt : ∃ x : Str, x ≠ "__name__" ∧ (x == ("__debug__" : Str)) = false ∧ bootBuiltins x = some (.type Bn) ∧ x = Str.ofString Bn
structure OexG (K : PySem.W.Frag) (C : Addr) (newId : String) (bm : List Value) : Prop where
  cls : ∃ nm q N bs sn sub ab col dd k0 k1 k2 k3 k5, K.lookup C = some (excClassObj nm q C N bs bm true sn sub ab col dd k0 k1 k2 k3 k5 newId)
  sa : PySem.W.findIn K (.ref C) "__setattr__" = some (some (.builtin "object.__setattr__"))
  exC : PySem.W.subIn K (.ref C) (.type "BaseException") = some true
  tyC : PySem.W.typeIn K (.ref C) = some (.type "type")
  kC : PySem.W.keepIn K (.ref C) = true
section
variable {prog : Program} {w : World} {A : Around} {R : Result → Shared → Prop} {hx : Heap} {gs : Array GenState} {dr : Drawn} {tn : Nat} {os : OsState}
/-- the first field of an exception, whatever its built-in base -/
theorem osaG {K : PySem.W.Frag} {fl : Str} {tk : Tok} {y : Value} {a C : Addr} {fv : Array Value} {cd : ClassData}
    (KX : K.In hx) (hat : hx.get? a = some { cls := .ref C, data := .fields fv }) (hc : PySem.W.clsIn K C = some cd) (hp : PySem.refuseLoop (.ref a) "__setattr__" cd.mro = pure ()) (hob : cd.mro.contains (.type "object") = true) (hh : cd.hasDict = true) (hno : PySem.W.findIn K (.ref C) fl = some none)
    (hq : ∀ h2 tk2 dx, (∀ b o, b ≠ a → hx.get? b = some o → h2.get? b = some o) → hx.objs.size ≤ dx → dx ≠ a → h2.get? a = some { cls := .ref C, dict := some dx, data := .fields fv } →
      h2.Ns1 dx (fun z => if z = fl then some y else none) → R (.ok (.ret .none)) ⟨h2, gs, dr, tk2, os⟩) :
    codeAny (model prog w) A (.call (.builtin "object.__setattr__") ⟨[.ref a, .str fl tk, y], []⟩) R ⟨hx, gs, dr, tn, os⟩ := by
  have IA : PySem.W.InstAt hx a { cls := .ref C, data := .fields fv } C none := ⟨hat, rfl, rfl, trivial⟩
  have SO := PySem.F.store_object
  have ne : cd.mro.isEmpty = false := by
    cases e : cd.mro with
    | nil => rw [e] at hob; cases hob
    | cons _ _ => rfl
  have hxs : a ≠ hx.objs.size := Nat.ne_of_lt (Heap.lt_size hat)
  have isO : PySem.W.Looks (model prog w) hx (isInstance (.ref a) (.type "object")) true := IA.type.andThen (PySem.W.looks_mroIn KX (by unfold PySem.W.mroIn; rw [hc, Option.bind_some, if_neg (by rw [ne]; decide), hob]))
  refine codeAny_call_builtin SO.slot.plain SO.entry (@PySem.W.check_slot (model prog w) _ _ ⟨hx, gs, dr, tn, os⟩ "object.__setattr__" "object" "__setattr__" (.ref a) [.str fl tk, y] [] _ SO.kind SO.split isO (SO.args (.ref a) (.str fl tk) y) ?_)
  have hmr : PySem.W.Looks (model prog w) hx (mroOf (.ref C)) cd.mro := (PySem.W.looks_clsIn KX hc).andThen .now
  have L3 : PySem.W.Looks (model prog w) hx (Builtin.ObjectAttr.storeTaker? none) none := .now
  have hcl : PySem.W.Looks (model prog w) hx (classData C) cd := PySem.W.looks_clsIn KX hc
  rw [PySem.W.osa_eq, PySem.refuse_eq]
  refine wpAny_bind (wpAny_bind (IA.type.at (wpAny_bind (hmr.at ?_))))
  rw [hp]
  refine wpAny_pure (wpAny_bind (IA.type.at (wpAny_bind ((PySem.W.looks_findIn KX hno).at (wpAny_bind (L3.at ?_))))))
  show wpAny _ _ (Builtin.ObjectAttr.storeInOwnDict (.ref a) (.ref C) (.str fl tk) fl y false) _ _ _
  obtain ⟨c1, c2, c3, c4, c5, c6, c7, c8, c9, c10, c11⟩ := cd
  dsimp only at hh
  subst hh
  unfold Builtin.ObjectAttr.storeInOwnDict Builtin.ObjectAttr.ownDictForStores
  repeat (first | with_reducible refine PySem.HandSPX.store_in_new ?_ ?_ | with_reducible refine wpAny_loadPart_at hat ?_ | with_reducible refine hcl.at ?_ | wp_step)
  · exact ⟨_, #[], _, (Heap.get?_update_ne _ _ _ _ hxs.symm).trans (Heap.get?_push_at rfl rfl), rfl, fun e he => absurd he (by simp), fun _ => rfl⟩
  · intro h2 tk2 hn2 hs
    have hat2 : (hx.push { cls := .type "dict", data := .dict #[] }).get? a = some { cls := .ref C, data := .fields fv } := Heap.get?_push_of_some _ hat
    refine hq h2 tk2 hx.objs.size (fun b o hb ho => ?_) (Nat.le_refl _) hxs.symm ?_ hn2
    · exact (hs.2 b (Nat.ne_of_lt (Heap.lt_size ho))).trans ((Heap.get?_update_ne _ _ _ _ hb).trans (Heap.get?_push_of_some _ ho))
    · exact (hs.2 a hxs).trans (Heap.get?_update_self _ hat2 rfl)
end
theorem bf_ValueError : BaseF "ValueError" "ValueError.__new__" "ValueError.__init__" [.type "ValueError", .type "Exception", .type "BaseException", .type "object"] :=
  ⟨F.excBase_ValueError, F.store_ValueError, by kernel_rfl, by decide +kernel, by decide +kernel, "ValueError", by decide, by decide, by kernel_rfl, rfl⟩
theorem bf_LookupError : BaseF "LookupError" "LookupError.__new__" "LookupError.__init__" [.type "LookupError", .type "Exception", .type "BaseException", .type "object"] :=
  ⟨F.excBase_LookupError, F.store_LookupError, by kernel_rfl, by decide +kernel, by decide +kernel, "LookupError", by decide, by decide, by kernel_rfl, rfl⟩
theorem bf_RuntimeError : BaseF "RuntimeError" "RuntimeError.__new__" "RuntimeError.__init__" [.type "RuntimeError", .type "Exception", .type "BaseException", .type "object"] :=
  ⟨F.excBase_RuntimeError, F.store_RuntimeError, by kernel_rfl, by decide +kernel, by decide +kernel, "RuntimeError", by decide, by decide, by kernel_rfl, rfl⟩
theorem bf_OverflowError : BaseF "OverflowError" "OverflowError.__new__" "OverflowError.__init__" [.type "OverflowError", .type "ArithmeticError", .type "Exception", .type "BaseException", .type "object"] :=
  ⟨F.excBase_OverflowError, F.store_OverflowError, by kernel_rfl, by decide +kernel, by decide +kernel, "OverflowError", by decide, by decide, by kernel_rfl, rfl⟩
end MP

namespace MP
variable {EX : L2.XK}
variable {EX : L2.XK}
open PySem PySem.Spec PyProof.Rows L2
section
variable {X : Cx} {pins : List (Addr × Obj)} {σ : L2.St} {H : Hp} {s : Shared} {a C dx : Addr} {fl : Str} {y : V} {u : Value} {E : Value → Shared → Prop} {A : Around} {Bn newId initId : String} {bm : List Value}
theorem oex_cls {K : PySem.W.Frag} (T : OexG K C newId bm) : ∃ cd, PySem.W.clsIn K C = some cd ∧ cd.mro = .ref C :: bm ∧ cd.hasDict = true := by
  obtain ⟨nm, q, N, bs, sn, sub, ab, col, dd, k0, k1, k2, k3, k5, hC⟩ := T.cls
  exact ⟨_, by unfold PySem.W.clsIn; rw [hC], rfl, rfl⟩
/-- self.f = y -/
theorem ostG {Q : Unit → Shared → Prop} (BF : BaseF Bn newId initId bm) (T : OexG X.K C newId bm) (I : Inv X pins σ H s) (e : H a = some (exo a C none)) (hno : PySem.W.findIn X.K (.ref C) fl = some none) (ry : RelV y u)
    (h : ∀ dx s2, H dx = none → dx ≠ a → Inv X pins σ (upd (upd H dx (exd dx [(fl, y)])) a (exo a C (some dx))) s2 → Q () s2) : wpAny (model X.prog X.w) A (setAttr (.ref a) fl u) Q E s := by
  obtain ⟨cd, hcl, hmr, hhd⟩ := oex_cls T
  obtain ⟨t1, hat⟩ := exo_at I.hok e
  obtain ⟨hx, gs, dr, tn, os⟩ := s
  refine PySem.W.set_plain I.kIn (ox := { cls := .ref C, dict := none, data := .fields #[.ref t1, .none, .none, .none, .bool false, .none] }) (od := none) ⟨hat, rfl, rfl, trivial⟩ T.sa ?_
  refine osaG I.kIn hat hcl (by rw [hmr, refuseLoop_ref]; exact BF.st.passes _) (by rw [hmr, List.contains_cons, BF.st.hasOwner, Bool.or_true]) hhd hno (fun h2 tk2 dx k dn dne hax hn => ?_)
  have hnd : H dx = none := I.hok.fresh dn
  have lt1 : ∀ {b : Addr} {o : Obj}, hx.get? b = some o → b ≠ dx := fun {b o} q => Nat.ne_of_lt (Nat.lt_of_lt_of_le (Heap.lt_size q) dn)
  have out1 : ∀ {b : Addr}, H b = none → b ≠ a := fun {b} n z => by
    rw [z, e] at n
    cases n
  have UU : Un X.fs [] H (upd (upd H dx (exd dx [(fl, y)])) a (exo a C (some dx))) hx h2 := {
    keep := fun b o q n _ _ => k b o (out1 n) q
    slot := fun b o q n _ _ => ⟨o.slots, k b o (out1 n) q⟩
    free := fun b o q n _ => by rw [upd_ne (out1 n), upd_ne (lt1 q)]; exact n
    there := fun b o q _ => by
      by_cases hb : b = a
      · exact ⟨_, by rw [hb]; exact hax⟩
      · exact ⟨o, k b o hb q⟩
    tups := fun b zs q => by rw [upd_ne (at_ne e q exo_tup), upd_ne (ne_of_none q hnd)]; exact q
    frzs := fun b o z q => by rw [upd_ne (at_ne e q exo_frz), upd_ne (ne_of_none q hnd)]; exact q
    tbls := fun b zs q => ⟨#[], by rw [upd_ne (at_ne e q exo_tbl), upd_ne (ne_of_none q hnd), q]; simp⟩ }
  refine h dx _ hnd dne (I.un (t' := tk2) UU fun b o q => ?_)
  by_cases hb : b = a
  · subst hb
    rw [upd_same] at q
    cases q
    exact exo_ok hax
  · rw [upd_ne hb] at q
    by_cases hd : b = dx
    · subst hd
      rw [upd_same] at q
      cases q
      exact exd_ok hn (relO_put (fs := []) ry fun g => True.intro)
    · rw [upd_ne hd] at q
      exact (I.hok b o q).stay (fun c w hc z => k c w (by
          rcases hc with hc | hc
          · rw [hc]
            exact hb
          · exact at_ne e hc exo_own) z)
        (fun c hc => by rw [upd_ne (at_ne e hc exo_own), upd_ne (ne_of_none hc hnd)]; exact hc) (fun c zs hc => by rw [upd_ne (at_ne e hc exo_tup), upd_ne (ne_of_none hc hnd)]; exact hc)
/-- B.__init__(self, ..) -/
theorem oinitG {us : List Value} {Q : Value → Shared → Prop} (BF : BaseF Bn newId initId bm) (T : OexG X.K C newId bm) (I : Inv X pins σ H s) (e : H a = some (exo a C none)) (hl : us.length ≤ sizeLine) (h : ∀ s2, Inv X pins σ H s2 → Q .none s2) :
    wpAny (model X.prog X.w) A (call (.builtin initId) (.ref a :: us)) Q E s := by
  obtain ⟨nm, q, N, bs, sn, sub, ab, col, dd, k0, k1, k2, k3, k5, hC⟩ := T.cls
  obtain ⟨t1, hat⟩ := exo_at I.hok e
  obtain ⟨hx, gs, dr, tn, os⟩ := s
  refine wpAny_call (PySem.HandSPX.init_base BF.eb (fun Y => rfl) (I.kIn _ _ hC) hat hl fun h2 t2 k hax => ?_)
  have J := I.write (t' := tn) (x := a) (e := a) (o := exo a C none) (by rw [e]; exact True.intro) (.inl rfl) k ⟨_, hax⟩ (exo_ok hax)
  have eu : upd H a (exo a C none) = H := by
    funext b
    by_cases hb : b = a
    · rw [hb, upd_same]
      exact e.symm
    · rw [upd_ne hb]
  rw [eu] at J
  exact h _ J
end
/-- B.__init__(self, ..), read -/
def tIniG (K : PySem.W.Frag) (newId : String) (bm : List Value) (ta : TA) : TE := fun σ H Q => ta σ H fun vs H1 => ∃ (a C : Addr) (ws : List V), vs = .ref a :: ws ∧ ws.length ≤ 1000 ∧ OexG K C newId bm ∧ H1 a = some (exo a C none) ∧ Q .non H1
/-- self.f = e, the first one, read -/
def tFldG (K : PySem.W.Frag) (newId : String) (bm : List Value) (f : Str) (to te : TE) : TS := fun D σ H => te σ H fun y H1 => to σ H1 fun x H2 => ∃ a C : Addr, x = .ref a ∧ OexG K C newId bm ∧ PySem.W.findIn K (.ref C) f = some none ∧
  H2 a = some (exo a C none) ∧ ∀ dx, H2 dx = none → dx ≠ a → D.nx σ (upd (upd H2 dx (exd dx [(f, y)])) a (exo a C (some dx)))
section
variable {X : Cx} {o e : Expr} {es : List Expr} {to te : TE} {ta : TA} {f : Str} {p p' p1 p2 pos : Pos} {newId initId : String} {bm : List Value}
theorem pe_iniG {Bn : String} {Bs : Str} {pl : Sem Bool} (BF : BaseF Bn newId initId bm) (hB : Bs = Str.ofString Bn) (hg : Gl X Bs) (hm : X.mg Bs = none) (hfind : PySem.W.findCls X.K (.type Bn) (.type "type") "__init__" = some (.val (.builtin initId)))
    (ha : PA X (e :: es) ta) (hcl : eval (.Call (.Attribute (.Name Bs p1) "__init__" p2) (e :: es) [] pos) X.env = (do
      let ov ← eval (.Name Bs p1) X.env
      standAt p2.atName
      let (fv, fst) ← holding [ov] (getMethod ov "__init__" pl)
      callWith pos fv fst (backTo pos (starEach (e :: es) X.env)) (backToKw pos (keywordEach [] X.env))) := by rfl)
    (he : starEach (e :: es) X.env = (false, eval e X.env) :: starEach es X.env := by rfl) (hpl : (backTo pos (starEach es X.env)).any (·.1) = false := by rfl) :
    PE X (.Call (.Attribute (.Name Bs p1) "__init__" p2) (e :: es) [] pos) (tIniG X.K newId bm ta) := by
  obtain ⟨x, x1, x2, x3, x4⟩ := BF.blt
  rw [← hB] at x4
  subst x4
  refine ⟨fun pins s σ H Q I h => ?_⟩
  refine PySem.W.methodCall_KW (ld_blt I hg hm x3 ?_ x1 x2) hcl
  obtain ⟨m, fr⟩ := I.fr
  refine PySem.W.method_type fr I.ok.mod.kin BF.ty BF.stub hfind BF.hand ?_
  show wpAny _ _ (callWith pos (Value.builtin initId) [] (backTo pos (starEach (e :: es) X.env)) []) _ _ _
  refine PyProof.Rows.callWith_method1 (thn (ha.run pos pins _ σ H _ (I.tok _) h) fun us s1 ⟨vs, H1, I1, r1, a, C, ws, ev, hl, T, ea, q⟩ => ?_) he hpl
  subst ev
  cases r1 with
  | @cons _ u0 _ ur ra rw' =>
    obtain rfl : u0 = Value.ref a := ra
    have hlen : ur.length ≤ sizeLine := by
      rw [sizeLine_eq]
      have := Paired.length rw'
      omega
    exact oinitG BF T I1 ea hlen fun s2 J => ⟨.non, H1, J, rfl, q⟩
theorem ps_fldG {Bn : String} (BF : BaseF Bn newId initId bm) (ho : PE X o to) (he : PE X e te) (hs : swapsWith e (some (.Attribute o f p')) pos.line X.env = pure false := by rfl) : PS X (.Assign [.Attribute o f p'] e pos) (tFldG X.K newId bm f to te) := by
  refine ⟨fun pins s σ H D I h => ?_⟩
  refine plainObj_wpAny_Assign_Attribute (thn (he.run pins s σ H _ I h) fun v s1 ⟨y, H1, I1, r1, q1⟩ => thn (ho.run pins s1 σ H1 _ I1 q1) fun u s2 ⟨x, H2, I2, r2, a, C, ex, T, hno, ea, q⟩ => ?_) hs
  subst ex
  obtain rfl : u = Value.ref a := r2
  exact ostG BF T I2 ea hno r1 fun dx s3 n ne J => ⟨σ, _, J, q dx n ne⟩
end
end MP

namespace MP
variable {EX : L2.XK}
open PySem PySem.Spec PyProof.Rows L2
/-! ### a value in an f-string -/
def ItOk : V → Prop
  | .int i => i.natAbs.log2 < 1920
  | .str y => y.length ≤ 100 ∧ ∀ c ∈ y.cps.toList, c < 16 ^ 8
  | _ => False
inductive FmtOk (K : PySem.W.Frag) (H : Hp) : V → Prop
  | int {i : Int} : i.natAbs.log2 < 1920 → FmtOk K H (.int i)
  | tup {a : Addr} {xs : List V} : SqT K H a xs → xs.length ≤ 8 → (∀ y ∈ xs, ItOk y) → FmtOk K H (.ref a)
theorem it_texts {prog : Program} {w : World} : ∀ {xs : List V} {its : List Value}, Vals xs its → (∀ y ∈ xs, ItOk y) → ∃ ts, ReprAll prog w its ts ∧ piled ts ≤ xs.length * 2000
  | [], _, r, _ => by
    cases r
    exact ⟨[], .nil, Nat.zero_le _⟩
  | y :: l, _, r, h => by
    cases r with
    | cons r1 r2 =>
      obtain ⟨ts, h1, h2⟩ := it_texts r2 fun z hz => h z (List.mem_cons_of_mem _ hz)
      have hy := h y List.mem_cons_self
      cases y with
      | int i =>
        obtain ⟨t, rfl⟩ := r1
        have hl := PyProof.Rows.int_text_len_1921 (i := i) hy
        refine ⟨_, .cons (ReprIs.int t hy) h1, ?_⟩
        rw [piled_cons, List.length_cons]
        have e : (toString i : Str).length ≤ 1921 := hl
        omega
      | str x =>
        obtain ⟨t, rfl⟩ := r1
        have hl := StrLaws.reprText_len x hy.2
        have h0 := hy.1
        refine ⟨_, .cons (ReprIs.str x t (by rw [sizeLine_eq]; omega)) h1, ?_⟩
        rw [piled_cons, List.length_cons]
        omega
      | _ => exact hy.elim
def tFmtV (K : PySem.W.Frag) (te : TE) : TE := fun σ H Q => te σ H fun x H1 => FmtOk K H1 x ∧ ∀ m : Str, m.length ≤ 20000 → Q (.str m) H1
section
variable {X : Cx} {e : Expr} {te : TE} {pos : Pos}
theorem pe_fmtV (hu : X.A.units + 64 < cLine) (he : PE X e te) : PE X (.FormattedValue e (-1) none pos) (tFmtV X.K te) := by
  refine ⟨fun pins s σ H Q I h => ?_⟩
  refine wpAny_FormattedValue_plain (thn (he.run pins s σ H _ I h) fun v s1 ⟨x, H1, I1, r1, f, q⟩ => ?_)
  cases f with
  | @int i hz =>
    obtain ⟨t, rfl⟩ := r1
    have hl := PyProof.Rows.int_text_len_1921 hz
    exact wpAny_formatField_int hz ⟨.str (toString i), H1, I1.tok _, ⟨_, rfl⟩, q _ (Nat.le_trans hl (by decide))⟩
  | @tup a xs ht hl hc =>
    cases r1
    obtain ⟨its, rv, ⟨o, ho, hcl, n, hd⟩, _⟩ := I1.tuple ht
    obtain ⟨ts, h1, h2⟩ := it_texts (prog := X.prog) (w := X.w) rv hc
    have htx := fmt_text ts
    refine fmt_tuple (ts := ts) (by omega) ho hcl hd h1 (by rw [sizeLine_eq]; omega) fun m u tk hm => ⟨.str m, H1, I1.tok _, ⟨u, rfl⟩, q m (by omega)⟩
end
/-! ### __init__ of a class with one field -/
def spI (K : PySem.W.Frag) (newId : String) (bm : List Value) (fl : Str) : Sp := fun vs H Q _ => ∃ a C v, vs = [.ref a, v] ∧ OexG K C newId bm ∧ PySem.W.findIn K (.ref C) fl = some none ∧ H a = some (exo a C none) ∧ FmtOk K H v ∧
  ∀ dx, H dx = none → dx ≠ a → Q .non (upd (upd H dx (exd dx [(fl, v)])) a (exo a C (some dx)))
def tIB (K : PySem.W.Frag) (newId : String) (bm : List Value) (fl : Str) : TS := fun D σ H => ∃ a C v, σ[0]? = some (some (.ref a)) ∧ σ[1]? = some (some v) ∧ OexG K C newId bm ∧ PySem.W.findIn K (.ref C) fl = some none ∧ H a = some (exo a C none) ∧ FmtOk K H v ∧
  ∀ dx, H dx = none → dx ≠ a → D.nx σ (upd (upd H dx (exd dx [(fl, v)])) a (exo a C (some dx)))
section
variable {X : Cx} {newId initId Bn : String} {bm : List Value} {Bs sf ar fl s1 : Str} {tl : List Expr} {k1 : Nat} {q1 q2 q3 q4 q5 q6 q7 q8 q9 r1 r2 r3 r4 : Pos}
theorem str_cat {x y : Str} {a b : Nat} (h1 : x.length ≤ a) (h2 : y.length ≤ b) : (x ++ y).length ≤ a + b := by
  rw [strLen_append]
  omega
theorem init_run (BF : BaseF Bn newId initId bm) (hB : Bs = Str.ofString Bn) (hu : X.A.units + 64 < cLine) (hg : Gl X Bs) (hm : X.mg Bs = none) (hfind : PySem.W.findCls X.K (.type Bn) (.type "type") "__init__" = some (.val (.builtin initId)))
    (h0 : X.N[0]? = some sf) (h1 : X.N[1]? = some ar) (v0 : Vis X.env.scope sf) (v1 : Vis X.env.scope ar) (d0 : (sf == ("__debug__" : Str)) = false) (d1 : (ar == ("__debug__" : Str)) = false) (c0 : (sf == ("__classdict__" : Str)) = false) (c1 : (ar == ("__classdict__" : Str)) = false)
    (l1 : s1.length ≤ 1000) (htl : tl = [] ∨ ∃ (s2 : Str) (k : Nat) (p : Pos), s2.length ≤ 1000 ∧ tl = [.Constant (.str s2) k p])
    {pl : Sem Bool} (hcl : eval (.Call (.Attribute (.Name Bs q1) "__init__" q2) (.Name sf q3 :: [.JoinedStr (.Constant (.str s1) k1 q4 :: .FormattedValue (.Name ar q5) (-1) none q6 :: tl) q7]) [] q8) X.env = (do
      let ov ← eval (.Name Bs q1) X.env
      standAt q2.atName
      let (fv, fst) ← holding [ov] (getMethod ov "__init__" pl)
      callWith q8 fv fst (backTo q8 (starEach (.Name sf q3 :: [.JoinedStr (.Constant (.str s1) k1 q4 :: .FormattedValue (.Name ar q5) (-1) none q6 :: tl) q7]) X.env)) (backToKw q8 (keywordEach [] X.env))) := by rfl)
    (hs1 : swapsWith (.Call (.Attribute (.Name Bs q1) "__init__" q2) (.Name sf q3 :: [.JoinedStr (.Constant (.str s1) k1 q4 :: .FormattedValue (.Name ar q5) (-1) none q6 :: tl) q7]) [] q8) none (q9 : Pos).line X.env = pure false := by rfl)
    (hs2 : swapsWith (.Name ar r3) (some (.Attribute (.Name sf r1) fl r2)) (r4 : Pos).line X.env = pure false := by rfl) :
    PSs X [.Expr (.Call (.Attribute (.Name Bs q1) "__init__" q2) (.Name sf q3 :: [.JoinedStr (.Constant (.str s1) k1 q4 :: .FormattedValue (.Name ar q5) (-1) none q6 :: tl) q7]) [] q8) q9, .Assign [.Attribute (.Name sf r1) fl r2] (.Name ar r3) r4] (tIB X.K newId bm fl) := by
  have fin : ∀ {ts : List TE}, PJ X tl ts → (∀ (acc : Str) (σ : L2.St) (H : Hp) (Q : Str → Hp → Prop), acc.length ≤ 22000 → (∀ z, Q z H) → tJs ts acc σ H Q) → PSs X [.Expr (.Call (.Attribute (.Name Bs q1) "__init__" q2) (.Name sf q3 :: [.JoinedStr (.Constant (.str s1) k1 q4 :: .FormattedValue (.Name ar q5) (-1) none q6 :: tl) q7]) [] q8) q9, .Assign [.Attribute (.Name sf r1) fl r2] (.Name ar r3) r4] (tIB X.K newId bm fl) := fun {ts} pj hts => by
    have e1 := pe_joined (pos := q7) (PJ.cons (pe_str (x := s1) (j := k1) (pos := q4)) (PJ.cons (pe_fmtV (pos := q6) hu (pe_var (pos := q5) h1 v1 d1 c1)) pj))
    have e2 := pe_iniG (p1 := q1) (p2 := q2) (pos := q8) (pl := pl) BF hB hg hm hfind (pa_cons (pe_var (pos := q3) h0 v0 d0 c0) (pa_cons e1 pa_nil)) hcl
    have e3 := ps_fldG (p' := r2) (pos := r4) (f := fl) BF (pe_var (pos := r1) h0 v0 d0 c0) (pe_var (pos := r3) h1 v1 d1 c1) hs2
    refine PSs.imp (pss_cons (ps_expr e2 hs1) (pss_one e3)) fun D σ H ⟨a, C, v, g0, g1, T, hno, ea, fo, q⟩ => ?_
    refine ⟨.ref a, g0, ?_⟩
    refine ⟨s1, rfl, Nat.le_trans (str_cat (a := 0) (b := 1000) (Nat.le_of_eq rfl) l1) (by rw [sizeLine_eq]; omega), v, g1, fo, fun m hm => ?_⟩
    have l2 : ((Str.empty ++ s1) ++ m).length ≤ 22000 := Nat.le_trans (str_cat (str_cat (a := 0) (b := 1000) (Nat.le_of_eq rfl) l1) hm) (by omega)
    refine ⟨m, rfl, Nat.le_trans l2 (by rw [sizeLine_eq]; omega), hts _ σ H _ l2 fun z => ?_⟩
    refine ⟨a, C, [.str z], rfl, (show 1 ≤ 1000 by decide), T, ea, ?_⟩
    exact ⟨v, g1, .ref a, g0, a, C, rfl, T, hno, ea, fun dx n ne => q dx n ne⟩
  rcases htl with rfl | ⟨s2, k, p, l3, rfl⟩
  · exact fin .nil fun acc σ H Q _ h => h _
  · exact fin (.cons pe_str .nil) fun acc σ H Q ha h => ⟨s2, rfl, Nat.le_trans (str_cat ha l3) (by rw [sizeLine_eq]; omega), h _⟩
end
/-- what a text knows of an exception class with one field -/
structure XIn (P : Program) (w : World) (K : PySem.W.Frag) (mg : Str → Option Value) (base : Heap) (n fl : Str) : Prop where
  ex : ∃ (Bn newId initId : String) (bm : List Value) (fI : Addr) (fd : FuncData) (ps : List Str), BaseF Bn newId initId bm ∧ OexG K (He.ga K n) newId bm ∧ PySem.W.findIn K (.ref (He.ga K n)) "__init__" = some (some (.ref fI)) ∧ PySem.W.typeIn K (.ref fI) = some (.type "function") ∧
    PySem.W.findIn K (.ref (He.ga K n)) fl = some none ∧ FnOk P w K mg base (L2.CX P w) 1 fI fd ps (spI K newId bm fl) ∧ Binds K fd ps []
  g : mg n = some (.ref (He.ga K n))
end MP

namespace MP
variable {EX : L2.XK}
open PySem PySem.Spec PyProof.Rows L2
/-! ### expressions that raise -/
theorem PS.or {X : Cx} {st : Stmt} {t1 t2 : TS} (h1 : PS X st t1) (h2 : PS X st t2) : PS X st (fun D σ H => t1 D σ H ∨ t2 D σ H) :=
  ⟨fun pins s σ H D I h => h.elim (h1.run pins s σ H D I) (h2.run pins s σ H D I)⟩
def onlyR {α : Type} : Res α → Res α
  | .ok a S => .ok a S
  | _ => .bad
/-- nothing is raised within -/
def only {α : Type} (f : Envm → Sto → Res α) : Envm → Sto → Res α := fun env S => onlyR (f env S)
section
variable {X : Cx} {e a b : Expr} {es : List Expr} {pos : Pos}
/-- the reading of an expression where it raises -/
def tN (K : PySem.W.Frag) (U : WX) (dr : DR) : TE := fun σ H _ => ∃ W S H0 env, WOk K W S H ∧ EnvOk K W H H0 env σ ∧ ∃ c x S', dr env S = .xn c x S' ∧ ∀ W' H' cls d, Ext W H W' H' → WOk K W' S' H' → RepX K W' x cls d → U cls d σ H'
variable {n : Nat} {T : Nat → Option (Str × Nat)} {C : Calls} {U : WX}
end
/-! ### statements that raise -/
def dDropX (dr : DR) : DS := fun env S => match dr env S with
  | .ok _ S1 => .nx env S1
  | .xn c x S1 => .xn c x S1
  | .bad => .bad
def dSetX (i : Nat) (dr : DR) : DS := fun env S => match dr env S with
  | .ok r S1 => .nx (env.set i (slOf r)) S1
  | .xn c x S1 => .xn c x S1
  | .bad => .bad
def dRetX (dr : DR) : DS := fun env S => match dr env S with
  | .ok r S1 => .rt r S1
  | .xn c x S1 => .xn c x S1
  | .bad => .bad
/-- a statement, its wish about exceptions by the slots (which stand as they were) -/
def OutX (K : PySem.W.Frag) (U : WX) (env : Envm) (σ : L2.St) (W0 : Wd) (H0 : Hp) (Wc : Wd) (D : Ends) : Out → Prop
  | .xn _ x S => ∀ W H cls d, SOk K W0 H0 W H S env σ → Gr Wc W → RepX K W x cls d → U cls d σ H
  | o => OutOk K E0 W0 H0 Wc D o
def tX (K : PySem.W.Frag) (U : WX) (ds : DS) : TS := fun D σ H => ∃ W0 H0 W S env, SOk K W0 H0 W H S env σ ∧ OutX K U env σ W0 H0 W D (ds env S)
theorem OutX.mono {K : PySem.W.Frag} {U : WX} {env : Envm} {σ : L2.St} {W0 W W' : Wd} {H0 : Hp} {D : Ends} {o : Out} (h : OutX K U env σ W0 H0 W D o) (g : Gr W W') : OutX K U env σ W0 H0 W' D o := by
  cases o with
  | xn c x S => exact fun W1 H cls d s g1 r => h W1 H cls d s (g.trans g1) r
  | nx e S => exact fun W1 H σ s g1 => h W1 H σ s (g.trans g1)
  | bk e S => exact fun W1 H σ s g1 => h W1 H σ s (g.trans g1)
  | ct e S => exact fun W1 H σ s g1 => h W1 H σ s (g.trans g1)
  | rt r S => exact h
  | bad => exact h
section
variable {X : Cx} {e : Expr} {pos : Pos} {U : WX}
end
end MP

namespace MP
variable {EX : L2.XK}
open PySem PySem.Spec PyProof.Rows L2
/-! ### raise C(e) -/
/-- a new thing is laid and frozen -/
theorem lay_frz {K : PySem.W.Frag} {W : Wd} {S : Sto} {H : Hp} {p : Addr} {u : HO} (ok : WOk K W S H) (h : H p = none) : Ext W H ⟨upd W.G p u, W.r⟩ (upd H p u) ∧ WOk K ⟨upd W.G p u, W.r⟩ S (upd H p u) ∧ SubH W.G (upd W.G p u) := by
  have n := ok.gnone h
  have s : SubH W.G (upd W.G p u) := fun b o e => by rw [upd_ne (ne_of_none e n)]; exact e
  refine ⟨freeze_ext (lay_ext W h) n h, ⟨fun b o e => ?_, ok.nd, ok.len, fun i y e => ?_, fun b hb => ?_⟩, s⟩
  · by_cases hb : b = p
    · subst hb
      have e' : upd W.G b u b = some o := e
      rw [upd_same] at e'
      rw [upd_same]
      exact e'
    · have e' : upd W.G p u b = some o := e
      rw [upd_ne hb] at e'
      rw [upd_ne hb]
      exact ok.sub b o e'
  · obtain ⟨c, v, h1, h2, h3⟩ := ok.cell i y e
    exact ⟨c, v, h1, by rw [upd_ne (ne_of_none h2 h)]; exact h2, h3.mono s (List.prefix_refl _)⟩
  · have hb' : b ≠ p := fun z => ok.rnone h (z ▸ hb)
    show upd W.G p u b = none
    rw [upd_ne hb']
    exact ok.ng b hb
def fmtI : D → Bool
  | .int i => decide (i.natAbs.log2 < 1920)
  | .str y => decide (y.length ≤ 100) && y.cps.toList.all fun c => decide (c < 16 ^ 8)
  | _ => false
/-- a value that an error's text may show -/
def fmtD : D → Bool
  | .int i => decide (i.natAbs.log2 < 1920)
  | .tup ds => decide (ds.length ≤ 8) && ds.all fmtI
  | _ => false
theorem fmt_its {K : PySem.W.Frag} {G : Hp} {l : List Addr} : ∀ {ds : List D} {xs : List V}, RepL K G l ds xs → ds.all fmtI = true → ∀ y ∈ xs, ItOk y
  | _, _, .nil, _, y, hy => nomatch hy
  | d :: ds, x :: xs, .cons a b, h, y, hy => by
    rw [List.all_cons, Bool.and_eq_true] at h
    rcases List.mem_cons.mp hy with rfl | hy
    · cases a with
      | int i => exact of_decide_eq_true (p := i.natAbs.log2 < 1920) h.1
      | str z =>
        have h1 : (decide (z.length ≤ 100) && z.cps.toList.all fun c => decide (c < 16 ^ 8)) = true := h.1
        rw [Bool.and_eq_true, decide_eq_true_eq, List.all_eq_true] at h1
        exact ⟨h1.1, fun c hc => of_decide_eq_true (h1.2 c hc)⟩
      | _ => exact absurd h.1 (fun z => nomatch z)
    · exact fmt_its b h.2 y hy
theorem fmt_rep {K : PySem.W.Frag} {G H : Hp} {l : List Addr} {d : D} {v : V} (h : fmtD d = true) (r : Rep K G l d v) (s : SubH G H) : FmtOk K H v := by
  cases r with
  | int i => exact .int (of_decide_eq_true h)
  | @tup a xs ds g r =>
    have h1 : (decide (ds.length ≤ 8) && ds.all fmtI) = true := h
    rw [Bool.and_eq_true, decide_eq_true_eq] at h1
    exact .tup (SqT.of (s _ _ g)) (by rw [← r.length]; exact h1.1) (fmt_its r h1.2)
  | _ => exact absurd h (fun z => nomatch z)
def dRaise (n f : Str) (de : DE) : DS := fun env S => match de env S with
  | .ok v S1 => if fmtD v = true then .xn 0 (.ex n f v) S1 else .bad
  | _ => .bad
section
variable {X : Cx} {e : Expr} {pos pos' p : Pos}
end
/-! ### try: .. except (A, B) as e: y = e -/
/-- the classes that a clause names, asked of an exception of the class cls -/
def TestX (X : Cx) (Te : Expr) (cls : Value) (b : Bool) : Prop := ∀ (a : Addr) (pn pins : List (Addr × Obj)) (σ : L2.St) (H : Hp) (s : Shared) (Q : Bool → Shared → Prop) (E : Value → Shared → Prop), Inv (X.suite a pn) pins σ H s → PySem.W.Looks (model X.prog X.w) s.heap (typeOf (.ref a)) cls →
  (∀ h', (∀ c o, s.heap.get? c = some o → h'.get? c = some o) → Q b { s with heap := h' }) → wpAny (model X.prog X.w) (X.A.mark (some (.ref a))) (eval Te X.env) (fun cv s1 => wpAny (model X.prog X.w) (X.A.mark (some (.ref a))) (excMatches (.ref a) cv) Q E s1) E s
/-- what is wished of an exception of the body -/
def wTry (X : Cx) (Te : Expr) (i j : Nat) (Wout : WX) (D : Ends) : WX := fun cls d σ H =>
  ∃ b, TestX X Te cls b ∧ (b = true → ∀ a, H a = none → ∃ C, cls = .ref C ∧ D.nx (((σ.set i (some (.ref a))).set j (some (.ref a))).set i none) (upd H a (exT a C d))) ∧ (b = false → Wout cls d σ H)
section
variable {X : Cx} {xn y : Str} {Te : Expr} {i j : Nat} {body : List Stmt} {p1 p2 p3 pos pos' : Pos} {tb : WX → TS} {Wout : WX}
end
end MP

namespace MP
variable {EX : L2.XK}
open PySem PySem.Spec PyProof.Rows L2 PySem.W PySem.Calls
/-! ### what isinstance asks of an exception that has its own dict -/
section
variable {prog : Program} {w : World} {A : Around} {E : Value → Shared → Prop} {s : Shared} {K : PySem.W.Frag} {a C : Addr} {oa : Obj} {oq : Option Obj}
theorem findObj_dat2 {name : Str} {at_ gt : Value} (hc : (clsIn K C).isSome = true) (ha : findIn K (.ref C) name = some (some at_)) (hg : specialIn K at_ "__get__" = some (some gt)) (ht : takesIn K at_ = some true) : findObj K C oq name = some (.bind gt at_) := by
  obtain ⟨cc, hc⟩ := Option.isSome_iff_exists.mp hc
  unfold findObj
  rw [hc, Option.bind_some, ha, Option.bind_some]
  simp [hg, ht]
theorem class_ex2 {Q : Option Value → Shared → Prop} (F : ExcC K C) (X : K.In s.heap) (I : InstAt s.heap a oa C oq) (h : Q (some (.ref C)) { s with toks := s.toks + 1 }) : wpAny (model prog w) A (getAttr? (.ref a) "__class__") Q E s := by
  have hf : findObj K C oq "__class__" = some (.bind (.builtin "getset_descriptor.__get__") (.builtin "object.__class__")) := findObj_dat2 (by obtain ⟨cc, hc, _⟩ := any_some F.hd; rw [hc]; rfl) F.ha F.hn F.ht
  obtain ⟨hx, gs, dr, tn, os⟩ := s
  have T0 := I.type (M := model prog w)
  have T1 := looks_findIn (M := model prog w) X F.hg
  have T2 := looks_findIn (M := model prog w) X F.hk
  have T3 := looks_find (M := model prog w) X I hf
  have isB : Looks (model prog w) hx (isInstance (.ref a) (.type "BaseException")) true := T0.andThen (looks_subIn X F.hs)
  have c0 : (false && onTheHeap (Value.builtin "BaseException.__getattribute__")) = false := rfl
  have c2 : (Value.builtin "BaseException.__getattribute__" == Value.builtin "object.__getattribute__") = false := by decide +kernel
  have c1 : (onTheHeap (Value.ref C) && Value.builtin "BaseException.__getattribute__" == Value.builtin "object.__getattribute__") = false := by rw [c2]; rfl
  unfold getAttr? getAttrBy? getAttrBy
  refine wpAny_bind (wpAny_mkText (wpAny_bind (wpAny_attempt (wpAny_holding (wpAny_bind (T0.at (wpAny_bind (T1.at ?_))))))))
  show wpAny _ _ (if (onTheHeap (Value.ref C) && Value.builtin "BaseException.__getattribute__" == Value.builtin "object.__getattribute__") = true then _ else _) _ _ _
  rw [c1, if_neg Bool.false_ne_true]
  unfold getAttrByItsOwn hookBefore
  refine wpAny_bind ?_
  rw [if_pos (show onTheHeap (Value.ref C) = true from rfl)]
  refine T2.at ?_
  refine wpAny_bind (wpAny_attempt (wpAny_holding ?_))
  unfold callGetattribute
  rw [c0, if_neg Bool.false_ne_true]
  unfold boundAndCalled
  rw [PySem.F.excAttr_ValueError.ga.bind (.ref a)]
  refine wpAny_bind (wpAny_pure ?_)
  show wpAny _ _ (call (.builtin "BaseException.__getattribute__") [.ref a, .str "__class__" tn]) _ _ _
  refine wpAny_call (codeAny_call_builtin PySem.F.excAttr_ValueError.ga.plain PySem.F.entry_bexc_ga ?_)
  refine @check_slot (model prog w) _ _ ⟨hx, gs, dr, tn + 1, os⟩ "BaseException.__getattribute__" "BaseException" "__getattribute__" (.ref a) [.str "__class__" tn] [] _ (by decide +kernel) (by decide +kernel) isB (PySem.F.args_bexc_ga (.ref a) (.str "__class__" tn)) ?_
  unfold Builtin.«object.__getattribute__»
  refine wpAny_bind (wpAny_of_eq (a := ((Value.ref a : Value), [Value.str "__class__" tn])) (by first | rfl | (simp only [slotArgs]; rfl)) ?_)
  refine wpAny_bind (wpAny_pure (wpAny_bind (T0.at (wpAny_bind (T3.at ?_)))))
  show wpAny _ _ (holding [Value.builtin "object.__class__"] (call (.builtin "getset_descriptor.__get__") [.builtin "object.__class__", .ref a, .ref C]) >>= ret) _ _ _
  refine wpAny_bind (wpAny_holding (wpAny_call (class_get (s := ⟨hx, gs, dr, tn + 1, os⟩) (ox := oa) (od := oq) X I F.hm ?_)))
  refine wpAny_pure ?_
  show wpAny _ _ (handedOut (.ref C)) _ _ _
  rw [handedOut_of (v := .ref C) rfl]
  first
    | exact wpAny_pure (wpAny_pure h)
    | exact wpAny_pure h
    | exact wpAny_pure (wpAny_bind (wpAny_pure (wpAny_pure h)))
theorem kitx_ex2 (F : ExcC K C) : KitX K (.ref a) (.ref C) (fun h => InstAt h a oa C oq) where
  ty := fun _ _ _ J => J.type
  it := fun _ _ X _ => by
    obtain ⟨cc, hcc, _⟩ := any_some F.hd
    unfold clsIn at hcc
    split at hcc
    · rename_i b1 b2 b3 b4 hob
      intro A2 Q2 E2 s2 k q
      unfold isType loadHead
      exact wpAny_bind (wpAny_loadPart (k _ _ (X _ _ hob)) (wpAny_pure q))
    · cases hcc
  ne := fun h tp dd its n sl X htp => by
    obtain ⟨cc, hcc, _⟩ := any_some F.hd
    refine Bool.eq_false_iff.mpr fun q => ?_
    have e : C = tp := Value.ref.inj (beq_iff_eq.mp q)
    subst e
    unfold clsIn at hcc
    split at hcc
    · rename_i b1 b2 b3 b4 hob
      have z := (X _ _ hob).symm.trans htp
      cases z
    · cases hcc
  ca := fun X J k => class_ex2 F X J k
end
/-! ### the exception classes of a text -/
def xBases : List String := ["ValueError", "LookupError", "RuntimeError", "OverflowError"]
def xFields : List Str := ["number", "time", "town", "evidence", "note", "pair", "many", "text"]
structure XTab (K : PySem.W.Frag) (tab : List (Str × String)) : Prop where
  c : ∀ p ∈ tab, ExcC K (He.ga K p.1)
  k : ∀ p ∈ tab, ∀ q ∈ tab, kitOne K (.ref (He.ga K p.1)) (.ref (He.ga K q.1)) = some (p.1 == q.1)
  m : ∀ p ∈ tab, ∀ q ∈ tab, exmOne K (.ref (He.ga K p.1)) (.ref (He.ga K q.1)) = some (p.1 == q.1)
  b : ∀ p ∈ tab, ∀ t ∈ xBases, kitOne K (.ref (He.ga K p.1)) (.type t) = some (p.2 == t)
  f : ∀ p ∈ tab, ∀ x ∈ xFields, findIn K (.ref (He.ga K p.1)) x = some none
def excCB (K : PySem.W.Frag) (C : Addr) : Bool := decide (findIn K (.ref C) "__getattribute__" = some (some (.builtin "BaseException.__getattribute__"))) && (decide (findIn K (.ref C) "__getattr__" = some none) && (decide (subIn K (.ref C) (.type "BaseException") = some true) && (hasDictIn K C &&
  (decide (findIn K (.ref C) "__class__" = some (some (.builtin "object.__class__"))) && (decide (specialIn K (.builtin "object.__class__") "__get__" = some (some (.builtin "getset_descriptor.__get__"))) && (decide (takesIn K (.builtin "object.__class__") = some true) && decide (mroIn K C (.type "object") = some true)))))))
theorem excCB_ok {K : PySem.W.Frag} {C : Addr} (h : excCB K C = true) : ExcC K C := by
  unfold excCB at h
  simp only [Bool.and_eq_true, decide_eq_true_eq] at h
  obtain ⟨h1, h2, h3, h4, h5, h6, h7, h8⟩ := h
  exact ⟨h1, h2, h3, h4, h5, h6, h7, h8⟩
def xtabB (tab : List (Str × String)) (K : PySem.W.Frag) : Bool := tab.all fun p => excCB K (He.ga K p.1) && ((tab.all fun q => decide (kitOne K (.ref (He.ga K p.1)) (.ref (He.ga K q.1)) = some (p.1 == q.1)) && decide (exmOne K (.ref (He.ga K p.1)) (.ref (He.ga K q.1)) = some (p.1 == q.1))) &&
  ((xBases.all fun t => decide (kitOne K (.ref (He.ga K p.1)) (.type t) = some (p.2 == t))) && xFields.all fun x => decide (findIn K (.ref (He.ga K p.1)) x = some none)))
theorem xtabB_ok {K : PySem.W.Frag} {tab : List (Str × String)} (h : xtabB tab K = true) : XTab K tab := by
  unfold xtabB at h
  simp only [List.all_eq_true, Bool.and_eq_true, decide_eq_true_eq] at h
  exact ⟨fun p hp => excCB_ok (h p hp).1, fun p hp q hq => ((h p hp).2.1 q hq).1, fun p hp q hq => ((h p hp).2.1 q hq).2, fun p hp t ht => (h p hp).2.2.1 t ht, fun p hp x hx => (h p hp).2.2.2 x hx⟩
end MP

namespace MP
variable {EX : L2.XK}
open PySem PySem.Spec PyProof.Rows L2
/-! ### classes as values, isinstance of a caught exception -/
section
variable {X : Cx} {e : Expr} {pos : Pos}
theorem me_cls {x : Str} (hg : Gl X x) (hm : X.mg x = some (.ref (He.ga X.K x))) (hd : (x == ("__debug__" : Str)) = false := by decide) : PE X (.Name x pos) (tV X.K (dC (.cl x))) :=
  me_c (pe_glob (v := .ref (He.ga X.K x)) hg hm rfl hd) fun _ _ => .cl
end
def exName : D → Option Str
  | .ex n _ _ => some n
  | .ex0 n => some n
  | _ => none
def inTab (tab : List (Str × String)) (n : Str) : Bool := tab.any fun p => p.1 == n
def isXc (tab : List (Str × String)) (n : Str) : D → Option Bool
  | .cl m => if inTab tab m = true then some (n == m) else none
  | .ty t => if xBases.contains t = true then (tab.find? fun p => p.1 == n).map fun p => p.2 == t else none
  | _ => none
def isXa (tab : List (Str × String)) (n : Str) : List D → Option Bool
  | [] => some false
  | c :: r => match isXc tab n c with
    | some true => if (isXa tab n r).isSome = true then some true else none
    | some false => isXa tab n r
    | none => none
def isXd (tab : List (Str × String)) (n : Str) : D → Option Bool
  | .tup cs => isXa tab n cs
  | c => isXc tab n c
def bIsiX (tab : List (Str × String)) : List D → Sto → Res R := fun ds S => match ds with
  | [d, c] => (match exName d with
    | some n => if inTab tab n = true then (match isXd tab n c with | some b => .ok (.v (.bl b)) S | none => .bad) else .bad
    | none => bIsi [d, c] S)
  | _ => .bad
theorem inTab_mem {tab : List (Str × String)} {n : Str} (h : inTab tab n = true) : ∃ p ∈ tab, p.1 = n := by
  obtain ⟨p, h1, h2⟩ := List.any_eq_true.mp h
  exact ⟨p, h1, by simpa using h2⟩
theorem isXc_ok {K : PySem.W.Frag} {tab : List (Str × String)} {G : Hp} {l : List Addr} {n : Str} {c : D} {v : V} {b : Bool} (T : XTab K tab) (hn : inTab tab n = true) (h : isXc tab n c = some b) (r : Rep K G l c v) : ∃ cv, ClsV v cv ∧ PySem.W.kitOne K (.ref (He.ga K n)) cv = some b := by
  obtain ⟨p, hp, rfl⟩ := inTab_mem hn
  cases c with
  | cl m =>
    cases r
    have h : (if inTab tab m = true then some (p.1 == m) else none) = some b := h
    split at h
    · rename_i hm
      obtain ⟨q, hq, rfl⟩ := inTab_mem hm
      cases h
      exact ⟨_, .own _, T.k p hp q hq⟩
    · cases h
  | ty t =>
    cases r
    have h : (if xBases.contains t = true then (tab.find? fun z => z.1 == p.1).map fun z => z.2 == t else none) = some b := h
    split at h
    · rename_i ht
      obtain ⟨q, hq, rfl⟩ := Option.map_eq_some_iff.mp h
      have q1 := List.mem_of_find?_eq_some hq
      have q2 := List.find?_some hq
      have q2 : q.1 = p.1 := by simpa using q2
      have := T.b q q1 t (by simpa using ht)
      rw [q2] at this
      exact ⟨_, .ty t, this⟩
    · cases h
  | _ => cases h
theorem isXa_ok {K : PySem.W.Frag} {tab : List (Str × String)} {G : Hp} {l : List Addr} {n : Str} (T : XTab K tab) (hn : inTab tab n = true) : ∀ {cs : List D} {vs : List V} {b : Bool}, isXa tab n cs = some b → RepL K G l cs vs → ∃ us, Paired ClsV vs us ∧ PySem.W.kitAny K (.ref (He.ga K n)) us = some b
  | [], _, b, h, r => by
    cases r
    cases h
    exact ⟨[], .nil, rfl⟩
  | c :: cs, _, b, h, r => by
    cases r with
    | cons r1 r2 =>
      unfold isXa at h
      cases hc : isXc tab n c with
      | none => rw [hc] at h; cases h
      | some z =>
        rw [hc] at h
        obtain ⟨cv, k1, k2⟩ := isXc_ok T hn hc r1
        cases z with
        | true =>
          have h : (if (isXa tab n cs).isSome = true then some true else none) = some b := h
          split at h
          · rename_i hs
            cases h
            obtain ⟨b2, hb2⟩ := Option.isSome_iff_exists.mp hs
            obtain ⟨us, u1, u2⟩ := isXa_ok T hn hb2 r2
            exact ⟨cv :: us, .cons k1 u1, by unfold PySem.W.kitAny; rw [k2]⟩
          · cases h
        | false =>
          have h : isXa tab n cs = some b := h
          obtain ⟨us, u1, u2⟩ := isXa_ok T hn h r2
          exact ⟨cv :: us, .cons k1 u1, by unfold PySem.W.kitAny; rw [k2]; exact u2⟩
/-- what stands at an exception -/
def ExAt (K : PySem.W.Frag) (H : Hp) (n : Str) (a : Addr) : Prop := ∃ d, H a = some (exT a (He.ga K n) d) ∧ ∀ dd, d = some dd → ∃ fs, H dd = some (.xd fs)
theorem ex_inst {P : Program} {w : World} {K : PySem.W.Frag} {H : Hp} {h : Heap} {n : Str} {a : Addr} (hok : HOk P w H h) (e : ExAt K H n a) : ∃ oa oq, PySem.W.InstAt h a oa (He.ga K n) oq := by
  obtain ⟨d, e1, e2⟩ := e
  have z : ObjOk P w H h a (.ext fun h => ∃ vs sl, h.get? a = some ({ cls := .ref (He.ga K n), dict := d, data := .fields vs, slots := sl } : Obj)) := hok a _ e1
  obtain ⟨vs, sl, q⟩ := z.1
  cases d with
  | none => exact ⟨_, none, q, rfl, rfl, True.intro⟩
  | some dd =>
    obtain ⟨fs, e3⟩ := e2 dd rfl
    obtain ⟨od, q2⟩ := objOk_get (hok dd _ e3)
    exact ⟨_, some od, q, rfl, rfl, q2⟩
def rE (K : PySem.W.Frag) (tab : List (Str × String)) : List V → Hp → VK → Prop := fun xs H Q => ∃ (a : Addr) (n : Str) (c : V) (b : Bool), xs = [.ref a, c] ∧ inTab tab n = true ∧ ExAt K H n a ∧
  ((∃ cv, ClsV c cv ∧ PySem.W.kitOne K (.ref (He.ga K n)) cv = some b) ∨ ∃ (tp : Addr) (cs : List V) (us : List Value), c = .ref tp ∧ H tp = some (.tup cs) ∧ Paired ClsV cs us ∧ PySem.W.kitAny K (.ref (He.ga K n)) us = some b) ∧ Q (.bl b) H
section
variable {X : Cx} {tab : List (Str × String)}
theorem call_rE (T : XTab X.K tab) : CallR X (.builtin "isinstance") (rE X.K tab) := by
  intro pins s σ H xs us Q I r h
  obtain ⟨a, n, c, b, rfl, hn, ea, hc, q⟩ := h
  obtain ⟨u1, u2, rfl, r1, r2⟩ := vals2 r
  cases (show u1 = Value.ref a from r1)
  obtain ⟨oa, oq, J⟩ := ex_inst I.hok ea
  obtain ⟨p, hp, rfl⟩ := inTab_mem hn
  rcases hc with ⟨cv, k, e⟩ | ⟨tp, cs, ws, rfl, hT, k, e⟩
  · have e2 := k.eq r2
    subst e2
    exact PySem.W.kia_one (kitx_ex2 (T.c p hp)) I.kIn J e (fun z => nomatch z) fun tk => ⟨.bl b, H, I.tok tk, rfl, q⟩
  · cases (show u2 = Value.ref tp from r2)
    obtain ⟨_, its, rv, o, h1, h2, m, h3⟩ := (show ObjOk X.prog X.w H s.heap tp (.tup cs) from I.hok tp _ hT)
    have e3 := ClsV.all k rv
    subst e3
    obtain ⟨oc, od, dt, sl⟩ := o
    simp only at h2 h3
    subst h2 h3
    exact PySem.W.kia_tup (kitx_ex2 (T.c p hp)) I.kIn J h1 e (fun z => nomatch z) fun tk => ⟨.bl b, H, I.tok tk, rfl, q⟩
theorem ex_at {K : PySem.W.Frag} {W : Wd} {S : Sto} {H : Hp} {d : D} {v : V} {n : Str} (ok : WOk K W S H) (r : RepB K W H d v) (h : exName d = some n) : ∃ a, v = .ref a ∧ ExAt K H n a := by
  rcases r with r | ⟨y, a, u, e, _⟩
  · cases d with
    | ex m f x =>
      cases h
      cases r with
      | @ex a d _ _ _ v g1 g2 _ => exact ⟨a, rfl, some d, ok.sub _ _ g1, fun dd e => by cases e; exact ⟨_, ok.sub _ _ g2⟩⟩
    | ex0 m =>
      cases h
      cases r with
      | @ex0 a _ g1 => exact ⟨a, rfl, none, ok.sub _ _ g1, fun dd e => nomatch e⟩
    | _ => cases h
  · subst e
    cases y <;> cases h
theorem mb_isiX (T : XTab X.K tab) : CallR X (.builtin "isinstance") (rC X.K (bIsiX tab)) := CallR.imp (CallR.or (call_rE T) mb_isi) fun vs H Q ⟨W, S, ds, r, S', ok, ra, h, q⟩ => by
  unfold bIsiX at h
  split at h
  · rename_i d c
    cases he : exName d with
    | none =>
      rw [he] at h
      exact .inr ⟨W, S, [d, c], r, S', ok, ra, h, q⟩
    | some n =>
      rw [he] at h
      have h : (if inTab tab n = true then (match isXd tab n c with | some b => Res.ok (R.v (.bl b)) S | none => .bad) else .bad) = .ok r S' := h
      split at h
      case isFalse => cases h
      rename_i hn
      cases hx : isXd tab n c with
      | none => rw [hx] at h; cases h
      | some b =>
        rw [hx] at h
        cases h
        cases ra with
        | cons r1 r2 =>
          cases r2 with
          | @cons _ cv _ _ r2 r3 =>
            cases r3
            obtain ⟨a, rfl, ea⟩ := ex_at ok r1 he
            have fin := q W H (.bl b) (Ext.refl _ _) ok (.bl b)
            have rc : ∀ z, isXc tab n c = some z → Rep X.K W.G W.r c cv := fun z hz => by
              rcases r2 with r2 | ⟨y, a2, u, e, _⟩
              · exact r2
              · subst e
                cases y <;> cases hz
            refine .inl ⟨a, n, cv, b, rfl, hn, ea, ?_, fin⟩
            by_cases ct : ∃ cs, c = .tup cs
            · obtain ⟨cs, rfl⟩ := ct
              obtain ⟨tp, xs, rfl, g1, g2⟩ := r2.tup_inv
              obtain ⟨us, u1, u2⟩ := isXa_ok T hn hx g2
              exact .inr ⟨tp, xs, us, rfl, ok.sub _ _ g1, u1, u2⟩
            · have hx : isXc tab n c = some b := by
                cases c with
                | tup cs => exact absurd ⟨cs, rfl⟩ ct
                | _ => exact hx
              exact .inl (isXc_ok T hn hx (rc b hx))
  · cases h
end
end MP

namespace MP
variable {EX : L2.XK}
open PySem PySem.Spec PyProof.Rows L2
/-! ### a field of a caught exception -/
def dXf (tab : List (Str × String)) (f : Str) (de : DE) : DE := fun env S => match de env S with
  | .ok (.ex n g x) S1 => if (g == f && (inTab tab n && xFields.contains f)) = true then .ok x S1 else .bad
  | _ => .bad
section
variable {X : Cx} {e : Expr} {pos : Pos} {tab : List (Str × String)} {f : Str} {de : DE}
theorem me_xf (T : XTab X.K tab) (he : PE X e (tV X.K de)) (hb : attributeBase e f X.env (eval e X.env) = eval e X.env := by rfl) : PE X (.Attribute e f pos) (tV X.K (dXf tab f de)) := ⟨fun pins s σ H Q I ⟨W, S, H0, env, ok, eo, d, S', h, q⟩ => by
  unfold dXf at h
  cases hd : de env S with
  | bad => rw [hd] at h; cases h
  | xn c x S1 => rw [hd] at h; cases h
  | ok v0 S1 =>
    rw [hd] at h
    cases v0 with
    | ex n g x =>
      have h : (if (g == f && (inTab tab n && xFields.contains f)) = true then Res.ok x S1 else .bad) = .ok d S' := h
      split at h
      case isFalse => cases h
      rename_i hc
      injection h with h1 h2
      subst h1
      subst h2
      rw [Bool.and_eq_true, Bool.and_eq_true, beq_iff_eq] at hc
      obtain ⟨rfl, hn, hf⟩ := hc
      obtain ⟨p, hp, rfl⟩ := inTab_mem hn
      have F := T.c p hp
      have hno := T.f p hp g (by simpa using hf)
      refine attr_of hb (thn (he.run pins s σ H (fun v H1 => ∃ W1, Ext W H W1 H1 ∧ WOk X.K W1 S1 H1 ∧ Rep X.K W1.G W1.r (.ex p.1 g x) v) I ⟨W, S, H0, env, ok, eo, _, S1, hd, fun W1 H1 v e1 o1 r1 => ⟨W1, e1, o1, r1⟩⟩) fun u s1 hh => ?_)
      obtain ⟨v, H1, I1, rv, W1, e1, o1, rx⟩ := hh
      cases rx with
      | @ex a dd _ _ _ y g1 g2 ry =>
        obtain rfl : u = Value.ref a := rv
        have z : ObjOk X.prog X.w H1 s1.heap a (.ext fun h => ∃ vs sl, h.get? a = some ({ cls := .ref (He.ga X.K p.1), dict := some dd, data := .fields vs, slots := sl } : Obj)) := I1.hok a _ (o1.sub _ _ g1)
        obtain ⟨vs, sl, q1⟩ := z.1
        have z2 : ObjOk X.prog X.w H1 s1.heap dd (.xd [(g, y)]) := I1.hok dd _ (o1.sub _ _ g2)
        obtain ⟨mA, hns, hr⟩ := z2
        obtain ⟨od, ho, hl⟩ := lookIn_ns hns
        have l1 : ([(g, y)] : List (Str × V)).lookup g = some y := by simp [List.lookup]
        obtain ⟨uy, hu, ru⟩ := RelO.some_of (v := y) (o := mA g) (by rw [← l1]; exact hr g)
        have J : PySem.W.InstAt s1.heap a ({ cls := .ref (He.ga X.K p.1), dict := some dd, data := .fields vs, slots := sl } : Obj) (He.ga X.K p.1) (some od) := ⟨q1, rfl, rfl, ho⟩
        exact HandSPX.exc_get I1.kIn J F.hg F.hk F.hs (PySem.W.findObj_own F.hd hno rfl (by rw [hl, hu])) (handed_of ru) ⟨y, H1, I1.tok _, ru, q W1 H1 y e1 o1 ry⟩
    | _ => cases h⟩
end
/-! ### the test of an except clause -/
section
open PySem.W
variable {M : Model} {K : PySem.W.Frag}
end
def NmX (X : Cx) (x : Str) : Prop := Gl X x ∧ X.mg x = some (.ref (He.ga X.K x)) ∧ (x == ("__debug__" : Str)) = false
section
variable {X : Cx} {x1 x2 x3 x4 x5 : Str} {p1 p2 p3 p4 p5 tp : Pos} {kk : Nat} {cls : Value} {b : Bool}
end
/-! ### try: .. except (A, B) as e: y = e, read -/
def dTryE (i j : Nat) (tab : List (Str × String)) (ns : List Str) (b : DS) : DS := fun env S => match b env S with
  | .xn c x S1 => (match exName x with
    | some n => if inTab tab n = true then (if ns.contains n = true then .nx (((env.set i (.va x)).set j (.va x)).set i .no) S1 else .xn c x S1) else .bad
    | none => .bad)
  | o => o
theorem EnvOk.setN {K : PySem.W.Frag} {W : Wd} {H H0 : Hp} {e : Envm} {σ : L2.St} (q : EnvOk K W H H0 e σ) (i : Nat) : EnvOk K W H H0 (e.set i .no) (σ.set i none) := by
  refine ⟨by rw [List.length_set, List.length_set]; exact q.len, fun j s o h1 h2 => ?_, fun j k x y a h1 h2 h3 h4 => ?_⟩
  · by_cases hj : i = j
    · subst hj
      by_cases hi : i < e.length
      · rw [List.getElem?_set_self hi] at h1
        cases h1
        trivial
      · rw [List.getElem?_eq_none (by rw [List.length_set]; omega)] at h1
        cases h1
    · rw [List.getElem?_set_ne hj] at h1 h2
      exact q.sl j s o h1 h2
  · have f : ∀ (m : Nat) (z : O), (e.set i .no)[m]? = some (.ow z) → i ≠ m ∧ e[m]? = some (.ow z) := fun m z hm => by
      by_cases c : i = m
      · subst c
        by_cases hi : i < e.length
        · rw [List.getElem?_set_self hi] at hm; cases hm
        · rw [List.getElem?_eq_none (by rw [List.length_set]; omega)] at hm; cases hm
      · rw [List.getElem?_set_ne c] at hm
        exact ⟨c, hm⟩
    obtain ⟨n1, g1⟩ := f j x h1
    obtain ⟨n2, g2⟩ := f k y h2
    rw [List.getElem?_set_ne n1] at h3
    rw [List.getElem?_set_ne n2] at h4
    exact q.dis j k x y a g1 g2 h3 h4
section
variable {X : Cx} {xn y : Str} {Te : Expr} {i j : Nat} {body : List Stmt} {p1 p2 p3 pos pos' : Pos} {Uo : WX} {tab : List (Str × String)} {ns : List Str} {b : DS}
end
end MP

namespace MP
variable {EX : L2.XK}
open PySem PySem.Spec PyProof.Rows L2
/-! ### raise C(), a class whose exceptions have no field -/
section
variable {X : Cx} {e : Expr} {es : List Expr} {p pos : Pos} {newId initId : String} {bm : List Value}
/-- C(), read -/
def tMk0 (C : Addr) (sp : Sp) : L2.St → Hp → XK → Prop := fun σ H Q => ∀ a, H a = none → sp [.ref a] (upd H a (exo a C none)) (fun v H2 => v = .non ∧ H2 = upd H a (exo a C none) ∧ Q (.ref C) none H) (fun _ _ _ => False)
end
def sp0 (K : PySem.W.Frag) (newId : String) (bm : List Value) : Sp := fun vs H Q _ => ∃ a C, vs = [.ref a] ∧ OexG K C newId bm ∧ H a = some (exo a C none) ∧ Q .non H
def tI0 (K : PySem.W.Frag) (newId : String) (bm : List Value) : TS := fun D σ H => ∃ a C, σ[0]? = some (some (.ref a)) ∧ OexG K C newId bm ∧ H a = some (exo a C none) ∧ D.nx σ H
section
variable {X : Cx} {newId initId Bn : String} {bm : List Value} {Bs sf s1 : Str} {k1 : Nat} {q1 q2 q3 q4 q8 q9 : Pos}
theorem init_run0 (BF : BaseF Bn newId initId bm) (hB : Bs = Str.ofString Bn) (hg : Gl X Bs) (hm : X.mg Bs = none) (hfind : PySem.W.findCls X.K (.type Bn) (.type "type") "__init__" = some (.val (.builtin initId)))
    (h0 : X.N[0]? = some sf) (v0 : Vis X.env.scope sf) (d0 : (sf == ("__debug__" : Str)) = false) (c0 : (sf == ("__classdict__" : Str)) = false)
    {pl : Sem Bool} (hcl : eval (.Call (.Attribute (.Name Bs q1) "__init__" q2) (.Name sf q3 :: [.Constant (.str s1) k1 q4]) [] q8) X.env = (do
      let ov ← eval (.Name Bs q1) X.env
      standAt q2.atName
      let (fv, fst) ← holding [ov] (getMethod ov "__init__" pl)
      callWith q8 fv fst (backTo q8 (starEach (.Name sf q3 :: [.Constant (.str s1) k1 q4]) X.env)) (backToKw q8 (keywordEach [] X.env))) := by rfl)
    (hs1 : swapsWith (.Call (.Attribute (.Name Bs q1) "__init__" q2) (.Name sf q3 :: [.Constant (.str s1) k1 q4]) [] q8) none (q9 : Pos).line X.env = pure false := by rfl) :
    PSs X [.Expr (.Call (.Attribute (.Name Bs q1) "__init__" q2) (.Name sf q3 :: [.Constant (.str s1) k1 q4]) [] q8) q9] (tI0 X.K newId bm) := by
  have e2 := pe_iniG (p1 := q1) (p2 := q2) (pos := q8) (pl := pl) BF hB hg hm hfind (pa_cons (pe_var (pos := q3) h0 v0 d0 c0) (pa_cons (pe_str (x := s1) (j := k1) (pos := q4)) pa_nil)) hcl
  refine PSs.imp (pss_one (ps_expr e2 hs1)) fun D σ H ⟨a, C, g0, T, ea, q⟩ => ?_
  exact ⟨.ref a, g0, a, C, [.str s1], rfl, (show 1 ≤ 1000 by decide), T, ea, q⟩
end
/-- what a text knows of an exception class without fields -/
structure XIn0 (P : Program) (w : World) (K : PySem.W.Frag) (mg : Str → Option Value) (base : Heap) (n : Str) : Prop where
  ex : ∃ (Bn newId initId : String) (bm : List Value) (fI : Addr) (fd : FuncData) (ps : List Str), BaseF Bn newId initId bm ∧ OexG K (He.ga K n) newId bm ∧ PySem.W.findIn K (.ref (He.ga K n)) "__init__" = some (some (.ref fI)) ∧ PySem.W.typeIn K (.ref fI) = some (.type "function") ∧
    FnOk P w K mg base (L2.CX P w) 1 fI fd ps (sp0 K newId bm) ∧ Binds K fd ps []
  g : mg n = some (.ref (He.ga K n))
theorem init_fn0 {P : Program} {w : World} {K : PySem.W.Frag} {mg : Str → Option Value} {base : Heap} {newId : String} {bm : List Value} {x qual : Str} {params : Arguments} {body : List Stmt} {scope : Scope} {f : Addr} {fd : FuncData} {N ps : List Str} (F : FunD K x qual params body scope [] [] f fd) (S : FnScope N ps scope) (hp : ps.length = 1) (hN : N.length = 1)
    (hb : ∀ (cdv : Value) (A : Around) (outer : List Env) (s : Shared) (H : Hp) (E : XK), Room 0 (A.deeper (envOfC qual scope s.heap.objs.size f cdv)) → PSs (XF P w K mg base N qual scope f cdv A outer s H E) body (tI0 K newId bm)) :
    FnOk P w K mg base (L2.CX P w) 1 f fd ps (sp0 K newId bm) := by
  refine F.ok (k := 0) S (fun vs H Q E h => ?_) fun cdv A outer s H vs Q E hr h => ⟨tI0 K newId bm, hb cdv A outer s H E hr, ?_⟩
  · obtain ⟨a, C, rfl, _⟩ := h
    exact hp.symm
  · obtain ⟨a, C, rfl, T, ea, q⟩ := h
    refine ⟨a, C, ?_, T, ea, q⟩
    rfl
def dRaise0 (n : Str) : DS := fun _ S => .xn 0 (.ex0 n) S
end MP

namespace MP
variable {EX : L2.XK}
open PySem PySem.Spec PyProof.Rows L2
def clsB : Stmt → List Stmt
  | .ClassDef (body := b) .. => b
  | _ => []
/-! ### the facts of exception classes, looked up in the written part -/
def oexB (newId : String) (bm : List Value) (K : PySem.W.Frag) (C : Addr) : Bool := (match K.lookup C with
  | some ⟨.type "type", _, .cls cd, sl⟩ => (match cd.mro, sl.toList with
    | .ref C2 :: b2, [_, _, _, _, some (.builtin n), _] => C2 == C && (n == newId && (!cd.hasDel && (cd.hasDict && decide (b2 = bm))))
    | _, _ => false)
  | _ => false) && (decide (PySem.W.findIn K (.ref C) "__setattr__" = some (some (.builtin "object.__setattr__"))) && (decide (PySem.W.subIn K (.ref C) (.type "BaseException") = some true) && (decide (PySem.W.typeIn K (.ref C) = some (.type "type")) && PySem.W.keepIn K (.ref C))))
theorem oexB_ok {newId : String} {bm : List Value} {K : PySem.W.Frag} {C : Addr} (h : oexB newId bm K C = true) : OexG K C newId bm := by
  unfold oexB at h
  rw [Bool.and_eq_true, Bool.and_eq_true, Bool.and_eq_true, Bool.and_eq_true, decide_eq_true_eq, decide_eq_true_eq, decide_eq_true_eq] at h
  obtain ⟨h0, h1, h2, h3, h4⟩ := h
  refine ⟨?_, h1, h2, h3, h4⟩
  split at h0
  · rename_i dd cd sl ho
    split at h0
    · rename_i C2 b2 k0 k1 k2 k3 n k5 hm hs
      simp only [Bool.and_eq_true, beq_iff_eq, Bool.not_eq_true', decide_eq_true_eq] at h0
      obtain ⟨rfl, rfl, hdel, hhd, rfl⟩ := h0
      obtain ⟨nm, bs, mro, ns, qn, hd, sn, sub, ab, col, del⟩ := cd
      dsimp only at hm hdel hhd
      subst hm hdel hhd
      have hsl : sl = #[k0, k1, k2, k3, some (.builtin n), k5] := by
        obtain ⟨l⟩ := sl
        simp only at hs
        rw [hs]
      subst hsl
      exact ⟨nm, qn, ns, bs, sn, sub, ab, col, dd, k0, k1, k2, k3, k5, ho⟩
    · cases h0
  · cases h0
/-- a class with its own __init__ over a built-in one -/
def xinB (n : Str) (Bn newId initId : String) (bm : List Value) (fs : List Str) (K : PySem.W.Frag) : Bool := oexB newId bm K (He.ga K n) && (decide (PySem.W.findIn K (.ref (He.ga K n)) "__init__" = some (some (.ref (He.ma K (He.ga K n) "__init__")))) &&
  (decide (PySem.W.typeIn K (.ref (He.ma K (He.ga K n) "__init__")) = some (.type "function")) && ((match PySem.W.findCls K (.type Bn) (.type "type") "__init__" with | some (.val (.builtin i)) => i == initId | _ => false) && fs.all fun f => decide (PySem.W.findIn K (.ref (He.ga K n)) f = some none))))
structure XInB (n : Str) (Bn newId initId : String) (bm : List Value) (fs : List Str) (K : PySem.W.Frag) : Prop where
  o : OexG K (He.ga K n) newId bm
  i : PySem.W.findIn K (.ref (He.ga K n)) "__init__" = some (some (.ref (He.ma K (He.ga K n) "__init__")))
  t : PySem.W.typeIn K (.ref (He.ma K (He.ga K n) "__init__")) = some (.type "function")
  c : PySem.W.findCls K (.type Bn) (.type "type") "__init__" = some (.val (.builtin initId))
  f : ∀ f ∈ fs, PySem.W.findIn K (.ref (He.ga K n)) f = some none
theorem xinB_ok {n : Str} {Bn newId initId : String} {bm : List Value} {fs : List Str} {K : PySem.W.Frag} (h : xinB n Bn newId initId bm fs K = true) : XInB n Bn newId initId bm fs K := by
  unfold xinB at h
  rw [Bool.and_eq_true, Bool.and_eq_true, Bool.and_eq_true, Bool.and_eq_true, decide_eq_true_eq, decide_eq_true_eq, List.all_eq_true] at h
  obtain ⟨h0, h1, h2, h3, h4⟩ := h
  refine ⟨oexB_ok h0, h1, h2, ?_, fun f hf => of_decide_eq_true (h4 f hf)⟩
  split at h3
  · rename_i i e
    rw [e, beq_iff_eq.mp h3]
  · cases h3
end MP

namespace MP
variable {EX : L2.XK}
open PySem PySem.Spec PyProof.Rows L2
/-! ### calls by keywords alone -/
/-- how a call by keywords named ks binds: g puts their values in the parameters' order -/
structure KB0 (K : PySem.W.Frag) (fd : FuncData) (ps ks : List Str) (pm : List Nat) : Prop where
  to : ∀ (s : Shared) (ws : List Value), K.In s.heap → ws.length = ks.length → BindsTo s fd ⟨[], ks.zip ws⟩ (ps.zip (pm.map fun i => ws.getD i .none))
section
variable {X : Cx} {CX : CXT} {k : Nat} {f : Addr} {fd : FuncData} {ps ks : List Str} {sp : Sp} {E : L2.St → XK} {x : Str} {p pos : Pos} {kws : List Keyword} {tk : TA} {pm : List Nat}
def tCallK0 (sp : Sp) (pm : List Nat) (m : Nat) (E : L2.St → XK) (tk : TA) : TE := fun σ H Q => tk σ H fun zs H2 => zs.length = m ∧ sp (pm.map fun i => zs.getD i .non) H2 Q (E σ)
end
/-! ### the denotation -/
def permD (pm : List Nat) (xs : List D) : List D := pm.map fun i => xs.getD i .non
def dPerm (pm : List Nat) (da : DA) : DA := fun env S => (da env S).map (permD pm)
/-- what a caller must know of a def that is called by keywords -/
def KwOk (K : PySem.W.Frag) (mg : Str → Option Value) (x : Str) (ks : List Str) (pm : List Nat) : Prop := ∀ (a : Addr) (fd : FuncData) (ps : List Str), mg x = some (.ref a) → At K a fd ps → KB0 K fd ps ks pm
section
variable {X : Cx} {pos p kpos : Pos} {n : Nat} {T : Nat → Option (Str × Nat)} {C : Calls} {e : Expr} {kws : List Keyword} {nm : Option Str} {x : Str}
theorem PK.imp {t t' : TA} (h : PK X kws t) (i : ∀ σ H Q, t' σ H Q → t σ H Q) : PK X kws t' := ⟨fun pos pins s σ H Q I z => h.run pos pins s σ H Q I (i σ H Q z)⟩
theorem mk_nil : PK X [] (tAV X.K dNil) := PK.imp pk_nil fun σ H Q ⟨W, S, H0, env, ok, eo, d, S', h, q⟩ => by
  cases h
  exact q W H [] (Ext.refl _ _) ok .nil
theorem mk_cons {da : DE} {dr : DA} (ha : PE X e (tV X.K da)) (hr : PK X kws (tAV X.K dr)) : PK X (⟨nm, e, kpos⟩ :: kws) (tAV X.K (dCons da dr)) :=
  PK.imp (pk_cons ha hr) fun σ H Q ⟨W, S, H0, env, ok, eo, d, S', h, q⟩ => by
    obtain ⟨x, S1, h1, h2⟩ := bind_ok h
    obtain ⟨xs, h3, h4⟩ := map_ok h2
    subst h4
    refine ⟨W, S, H0, env, ok, eo, x, S1, h1, fun W1 H1 v e1 o1 r1 => ?_⟩
    refine ⟨W1, S1, H0, env, o1, eo.ext e1, xs, S', h3, fun W2 H2 vs e2 o2 r2 => ?_⟩
    exact q W2 H2 _ (e1.trans e2) o2 (.cons (r1.ext e2) r2)
theorem len_nil : ∀ env S ds S', dNil env S = .ok ds S' → ds.length = 0 := fun env S ds S' h => by
  cases h
  rfl
theorem len_cons {da : DE} {dr : DA} {k : Nat} (h : ∀ env S ds S', dr env S = .ok ds S' → ds.length = k) : ∀ env S ds S', dCons da dr env S = .ok ds S' → ds.length = k + 1 := fun env S ds S' z => by
  obtain ⟨x, S1, h1, h2⟩ := bind_ok z
  obtain ⟨xs, h3, h4⟩ := map_ok h2
  subst h4
  rw [List.length_cons, h _ _ _ _ h3]
end
end MP

namespace MP
variable {EX : L2.XK}
open PySem PySem.Spec PyProof.Rows L2
/-! ### repr of data -/
def shownD (d : D) : Str := (toPy d).shown
def repOk (d : D) : Bool := fitN 20 d && ((toPy d).showable && decide ((toPy d).shown.length ≤ 16777216))
def bRepr : List D → Sto → Res R := fun ds S => match ds with
  | [d] => if repOk d = true then .ok (.v (.str (shownD d))) S else .bad
  | _ => .bad
section
variable {X : Cx}
end
end MP

namespace MP
variable {EX : L2.XK}
open PySem PySem.Spec PyProof.Rows L2
/-! ### l.index(x) where the items are data of any depth -/
def fIndexD : D → D → Sto → Res D := fun c d S => match c with
  | .lst es => if fitN 20 (.lst es) = true ∧ fitN 20 d = true then (match es.findIdx? fun z => deq z d with | some j => .ok (.int (j : Nat)) S | none => .bad) else .bad
  | _ => .bad
def dIndexD (dc dd : DE) : DE := fun env S => (dc env S).bind fun c S1 => (dd env S1).bind fun d S2 => fIndexD c d S2
section
variable {X : Cx}
/-! ### == of texts -/
def fEqS : D → D → Sto → Res R := fun d e S => match d, e with
  | .str x, .str y => .ok (.v (.bl (decide (x = y)))) S
  | _, _ => .bad
def fNeS : D → D → Sto → Res R := fun d e S => match d, e with
  | .str x, .str y => .ok (.v (.bl (!decide (x = y)))) S
  | _, _ => .bad
end
end MP

namespace MP
variable {EX : L2.XK}
open PySem PySem.Spec PyProof.Rows L2
/-! ### an expression that only looks: shared lists are lent to it, frozen as long as it runs -/
mutual
def noLoc : D → Bool
  | .loc _ => false
  | .tup l => noLocs l
  | .lst l => noLocs l
  | .wt l => noLocs l
  | .dk _ l => noLocs l
  | .dt _ l => noLocs l
  | .fk _ l => noLocs l
  | .ft _ l => noLocs l
  | .ex _ _ x => noLoc x
  | _ => true
def noLocs : List D → Bool
  | [] => true
  | d :: ds => noLoc d && noLocs ds
end
def noLocO : O → Bool
  | .l ds => noLocs ds
  | .k _ ds => noLocs ds
  | .t _ ds => noLocs ds
  | .fk _ ds => noLocs ds
  | .ft _ ds => noLocs ds
def lendC (n : Nat) : Option O → D
  | some (O.l ds) => if noLocs ds = true then .lst ds else .loc n
  | _ => .loc n
mutual
def lendD (S : Sto) : D → D
  | .loc n => lendC n S[n]?
  | .tup l => .tup (lendDs S l)
  | .lst l => .lst (lendDs S l)
  | .wt l => .wt (lendDs S l)
  | .dk ks l => .dk ks (lendDs S l)
  | .dt ks l => .dt ks (lendDs S l)
  | .fk ks l => .fk ks (lendDs S l)
  | .ft ks l => .ft ks (lendDs S l)
  | .ex n f x => .ex n f (lendD S x)
  | .non => .non
  | .bl b => .bl b
  | .int i => .int i
  | .str x => .str x
  | .ty n => .ty n
  | .scr ns => .scr ns
  | .ex0 n => .ex0 n
  | .cl n => .cl n
def lendDs (S : Sto) : List D → List D
  | [] => []
  | d :: ds => lendD S d :: lendDs S ds
end
def lendO (S : Sto) : O → O
  | .l ds => .l (lendDs S ds)
  | .k ks ds => .k ks (lendDs S ds)
  | .t ks ds => .t ks (lendDs S ds)
  | .fk ks ds => .fk ks (lendDs S ds)
  | .ft ks ds => .ft ks (lendDs S ds)
def lendSl (S : Sto) : Sl → Sl
  | .no => .no
  | .va d => if noLoc (lendD S d) = true then .va (lendD S d) else .no
  | .ow x => if noLocO (lendO S x) = true then .ow (lendO S x) else .no
mutual
theorem lend_id {S : Sto} : ∀ {d : D}, noLoc d = true → lendD S d = d
  | .loc n, h => by simp [noLoc] at h
  | .tup l, h => by rw [lendD, lends_id (d := l) h]
  | .lst l, h => by rw [lendD, lends_id (d := l) h]
  | .wt l, h => by rw [lendD, lends_id (d := l) h]
  | .dk ks l, h => by rw [lendD, lends_id (d := l) h]
  | .dt ks l, h => by rw [lendD, lends_id (d := l) h]
  | .fk ks l, h => by rw [lendD, lends_id (d := l) h]
  | .ft ks l, h => by rw [lendD, lends_id (d := l) h]
  | .ex n f x, h => by rw [lendD, lend_id (d := x) h]
  | .non, _ => by rw [lendD]
  | .bl b, _ => by rw [lendD]
  | .int i, _ => by rw [lendD]
  | .str x, _ => by rw [lendD]
  | .ty n, _ => by rw [lendD]
  | .scr ns, _ => by rw [lendD]
  | .ex0 n, _ => by rw [lendD]
  | .cl n, _ => by rw [lendD]
theorem lends_id {S : Sto} : ∀ {d : List D}, noLocs d = true → lendDs S d = d
  | [], _ => by rw [lendDs]
  | d :: ds, h => by
    have h : (noLoc d && noLocs ds) = true := h
    rw [Bool.and_eq_true] at h
    rw [lendDs, lend_id h.1, lends_id h.2]
end
theorem lendSl_id {S : Sto} {d : D} (h : noLoc d = true) : lendSl S (.va d) = .va d := by
  show (if noLoc (lendD S d) = true then Sl.va (lendD S d) else Sl.no) = _
  rw [lend_id h, if_pos h]
section
variable {K : PySem.W.Frag} {G G' : Hp} {r : List Addr} {S : Sto}
mutual
/-- what leans on no shared object stands in a larger world without any -/
theorem Rep.dry (h : SubH G G') : ∀ {d : D} {v : V}, noLoc d = true → Rep K G r d v → Rep K G' [] d v
  | .non, _, _, q => by cases q; exact .non
  | .bl _, _, _, q => by cases q; exact .bl _
  | .int _, _, _, q => by cases q; exact .int _
  | .str _, _, _, q => by cases q; exact .str _
  | .ty _, _, _, q => by cases q; exact .ty _
  | .tup ds, _, n, q => by cases q with | tup a b => exact .tup (h _ _ a) (RepL.dry h (ds := ds) n b)
  | .wt ds, _, n, q => by cases q with | wt a b => exact .wt (h.sqT a) (RepL.dry h (ds := ds) n b)
  | .lst ds, _, n, q => by cases q with | lst a b => exact .lst (h _ _ a) (RepL.dry h (ds := ds) n b)
  | .scr ns, _, _, q => by cases q with | scr a => exact .scr (h.sqL a)
  | .loc n, _, z, _ => by simp [noLoc] at z
  | .dk ks ds, _, n, q => by cases q with | dk a b c => exact .dk (h _ _ a) b (RepL.dry h (ds := ds) n c)
  | .dt ks ds, _, n, q => by cases q with | dt a b c => exact .dt (h _ _ a) b (RepL.dry h (ds := ds) n c)
  | .fk ks ds, _, n, q => by cases q with | fk a b c => exact .fk (h _ _ a) b (RepL.dry h (ds := ds) n c)
  | .ft ks ds, _, n, q => by cases q with | ft a b c => exact .ft (h _ _ a) b (RepL.dry h (ds := ds) n c)
  | .ex n f x, _, z, q => by cases q with | ex a b c => exact .ex (h _ _ a) (h _ _ b) (Rep.dry h (d := x) z c)
  | .ex0 n, _, _, q => by cases q with | ex0 a => exact .ex0 (h _ _ a)
  | .cl n, _, _, q => by cases q with | cl => exact .cl
theorem RepL.dry (h : SubH G G') : ∀ {ds : List D} {xs : List V}, noLocs ds = true → RepL K G r ds xs → RepL K G' [] ds xs
  | [], _, _, q => by cases q; exact .nil
  | d :: ds, _, n, q => by
    have n : (noLoc d && noLocs ds) = true := n
    rw [Bool.and_eq_true] at n
    cases q with
    | cons a b => exact .cons (Rep.dry h n.1 a) (RepL.dry h n.2 b)
end
/-- the cells that are lent stand frozen in G' -/
def Lent (K : PySem.W.Frag) (G G' : Hp) (r : List Addr) (S : Sto) : Prop := SubH G G' ∧ ∀ (n : Nat) (ds : List D) (a : Addr), S[n]? = some (O.l ds) → noLocs ds = true → r[n]? = some a → ∃ xs, G' a = some (.lst xs) ∧ RepL K G' [] ds xs
mutual
theorem lend_rep (h : Lent K G G' r S) : ∀ {d : D} {v : V}, noLoc (lendD S d) = true → Rep K G r d v → Rep K G' [] (lendD S d) v
  | .non, _, _, q => by rw [lendD]; cases q; exact .non
  | .bl _, _, _, q => by rw [lendD]; cases q; exact .bl _
  | .int _, _, _, q => by rw [lendD]; cases q; exact .int _
  | .str _, _, _, q => by rw [lendD]; cases q; exact .str _
  | .ty _, _, _, q => by rw [lendD]; cases q; exact .ty _
  | .tup ds, _, n, q => by rw [lendD] at n ⊢; cases q with | tup a b => exact .tup (h.1 _ _ a) (lends_rep h n b)
  | .wt ds, _, n, q => by rw [lendD] at n ⊢; cases q with | wt a b => exact .wt (h.1.sqT a) (lends_rep h n b)
  | .lst ds, _, n, q => by rw [lendD] at n ⊢; cases q with | lst a b => exact .lst (h.1 _ _ a) (lends_rep h n b)
  | .scr ns, _, _, q => by rw [lendD]; cases q with | scr a => exact .scr (h.1.sqL a)
  | .loc m, _, n, q => by
    rw [lendD] at n ⊢
    cases q with
    | @loc _ a q =>
      cases hS : S[m]? with
      | none => rw [hS] at n; simp [lendC, noLoc] at n
      | some x =>
        rw [hS] at n
        cases x with
        | l ds =>
          unfold lendC at n ⊢
          by_cases z : noLocs ds = true
          · obtain ⟨xs, h1, h2⟩ := h.2 m ds a hS z q
            simp only [z, if_true]
            exact .lst h1 h2
          · simp [z, noLoc] at n
        | _ => simp [lendC, noLoc] at n
  | .dk ks ds, _, n, q => by rw [lendD] at n ⊢; cases q with | dk a b c => exact .dk (h.1 _ _ a) b (lends_rep h n c)
  | .dt ks ds, _, n, q => by rw [lendD] at n ⊢; cases q with | dt a b c => exact .dt (h.1 _ _ a) b (lends_rep h n c)
  | .fk ks ds, _, n, q => by rw [lendD] at n ⊢; cases q with | fk a b c => exact .fk (h.1 _ _ a) b (lends_rep h n c)
  | .ft ks ds, _, n, q => by rw [lendD] at n ⊢; cases q with | ft a b c => exact .ft (h.1 _ _ a) b (lends_rep h n c)
  | .ex n f x, _, z, q => by rw [lendD] at z ⊢; cases q with | ex a b c => exact .ex (h.1 _ _ a) (h.1 _ _ b) (lend_rep h z c)
  | .ex0 n, _, _, q => by rw [lendD]; cases q with | ex0 a => exact .ex0 (h.1 _ _ a)
  | .cl n, _, _, q => by rw [lendD]; cases q with | cl => exact .cl
theorem lends_rep (h : Lent K G G' r S) : ∀ {ds : List D} {xs : List V}, noLocs (lendDs S ds) = true → RepL K G r ds xs → RepL K G' [] (lendDs S ds) xs
  | [], _, _, q => by rw [lendDs]; cases q; exact .nil
  | d :: ds, _, n, q => by
    rw [lendDs] at n ⊢
    have n : (noLoc (lendD S d) && noLocs (lendDs S ds)) = true := n
    rw [Bool.and_eq_true] at n
    cases q with
    | cons a b => exact .cons (lend_rep h n.1 a) (lends_rep h n.2 b)
end
end
/-- a value that leans on nothing -/
def scalD : D → Bool
  | .non => true
  | .bl _ => true
  | .int _ => true
  | .str _ => true
  | _ => false
theorem Rep.scal {K : PySem.W.Frag} {G G' : Hp} {r r' : List Addr} {d : D} {v : V} (h : scalD d = true) (q : Rep K G r d v) : Rep K G' r' d v := by
  cases q <;> first | (simp [scalD] at h; done) | skip
  · exact .non
  · exact .bl _
  · exact .int _
  · exact .str _
def scR (d : D) (S : Sto) : Res D := if scalD d = true then .ok d S else .bad
def dLend (de : DE) : DE := fun env S => match de (env.map (lendSl S)) [] with
  | .ok d _ => scR d S
  | _ => .bad
section
variable {K : PySem.W.Frag} {W : Wd} {S : Sto} {H H0 : Hp} {env : Envm} {σ : L2.St}
open Classical in
/-- the frozen world that is lent -/
noncomputable def lentG (W : Wd) (S : Sto) (H : Hp) : Hp := fun a => match W.G a with
  | some o => some o
  | none => if ∃ (n : Nat) (ds : List D), W.r[n]? = some a ∧ S[n]? = some (O.l ds) ∧ noLocs ds = true then H a else none
end
section
variable {X : Cx} {e : Expr}
/-! ### x[i].append(e) of a shared list -/
def isLst : Option O → Bool
  | some (.l _) => true
  | _ => false
def putApp (env : Envm) (n : Nat) (d : D) (S : Sto) : Out := match S[n]? with
  | some (O.l ds) => if ds.length ≤ 100000 then .nx env (S.set n (.l (ds ++ [d]))) else .bad
  | _ => .bad
def dAppAt (dv de : DE) : DS := fun env S => match dv env S with
  | .ok (.loc n) S1 => if isLst S1[n]? = true then (match de env S1 with
    | .ok d S2 => putApp env n d S2
    | _ => .bad) else .bad
  | _ => .bad
end
end MP

namespace MP
variable {EX : L2.XK}
open PySem PySem.Spec PyProof.Rows L2
/-! ### a def picked out of a list, called by keywords -/
def dCallV (C : Calls) (tb : List (Str × Nat)) (de : DE) (da : DA) : DR := fun env S => (de env S).bind fun v S1 => match v with
  | .cl n => (match tb.lookup n with
    | some i => (da env S1).bind fun xs S2 => C i xs S2
    | none => .bad)
  | _ => .bad
/-- what a caller knows of the defs of the list -/
def TbV (K : PySem.W.Frag) (mg : Str → Option Value) (T : Nat → Option (Str × Nat)) (m : Nat) (ks : List Str) (pm : List Nat) (tb : List (Str × Nat)) : Prop := ∀ n i, tb.lookup n = some i → T i = some (n, m) ∧ mg n = some (.ref (He.ga K n)) ∧ KwOk K mg n ks pm
section
variable {X : Cx} {pos : Pos} {n : Nat} {T : Nat → Option (Str × Nat)} {C : Calls} {e0 : Expr} {kws : List Keyword}
end
end MP

namespace MP
open PySem PySem.Spec PyProof.Rows L2
/-! ### a test that only looks, with shared lists lent -/
def dLendT (dt : DT) : DT := fun env S => match dt (env.map (lendSl S)) [] with
  | .ok d _ => .ok d S
  | _ => .bad
end MP

namespace MP
open PySem PySem.Spec PyProof.Rows L2
/-! ### x[::-1], a list's or a tuple's -/
section
variable {prog : Program} {w : World} {A : Around} {E : Value → Shared → Prop} {s : Shared}
end
/-- x[::-1], both -/
def tRev (K : PySem.W.Frag) (te : TE) : TE := fun σ H Q => te σ H fun x H1 => (∃ a xs, x = .ref a ∧ SqL K H1 a xs ∧ ∀ p, H1 p = none → Q (.ref p) (upd H1 p (.lst xs.reverse))) ∨
  ∃ a xs, x = .ref a ∧ SqT K H1 a xs ∧ ∀ p, H1 p = none → Q (.ref p) (upd H1 p (.tup xs.reverse))
section
variable {X : Cx}
def dRev (de : DE) : DR := fun env S => (de env S).bind fun d S1 => match d with
  | .lst xs => .ok (.o (.l xs.reverse)) S1
  | .tup xs => .ok (.v (.tup xs.reverse)) S1
  | _ => .bad
end
end MP

namespace MP
open PySem PySem.Spec PyProof.Rows L2
/-! ### sorted(set(x)) of many ints, few of them different -/
def fSortSetW : D → Sto → Res R := fun d S1 => match seqInts d with
  | some ns => if ns.length ≤ 1000 ∧ (usort ns).length ≤ 60 then .ok (.o (.l ((usort ns).map D.int))) S1 else .bad
  | none => .bad
def dSortSetW (da : DE) : DR := fun env S => (da env S).bind fSortSetW
section
variable {X : Cx} {a : Expr}
end
/-! ### the rest of a def only looks: run with the shared lists lent; a truth is returned -/
def allVa : Envm → Bool := fun env => env.all fun s => match s with
  | .ow _ => false
  | _ => true
def rtV : R → Sto → Out := fun r S => match r with
  | .v (.bl b) => .rt (.v (.bl b)) S
  | _ => .bad
def dLendS (d : DS) : DS := fun env S => if allVa env = true then (match d (env.map (lendSl S)) [] with
  | .rt r _ => rtV r S
  | _ => .bad) else .bad
end MP

namespace MP
open PySem PySem.Spec PyProof.Rows L2
/-! ### a slot's own list handed on: to a test that only looks (a loan), to a statement that changes it (borrowed) -/
def locOk (n : Nat) : D → Bool
  | .loc k => decide (k < n)
  | d => noLoc d
section
variable {K : PySem.W.Frag} {G G' : Hp} {r r' : List Addr}
theorem Rep.cut {n : Nat} (h : SubH G G') (e : ∀ k, k < n → r'[k]? = r[k]?) {d : D} {v : V} (z : locOk n d = true) (q : Rep K G r d v) : Rep K G' r' d v := by
  by_cases c : ∃ k, d = .loc k
  · obtain ⟨k, rfl⟩ := c
    have := of_decide_eq_true z
    cases q with
    | loc a => exact .loc ((e k this).trans a)
  · have nl : noLoc d = true := by
      unfold locOk at z
      split at z
      · exact absurd ⟨_, rfl⟩ c
      · exact z
    exact (Rep.dry h nl q).mono (SubH.refl _) List.nil_prefix
theorem RepO.cut (h : SubH G G') {x : O} {u : HO} (z : noLocO x = true) (q : RepO K G r x u) : RepO K G' r' x u := by
  have m : ∀ {ds : List D} {xs : List V}, noLocs ds = true → RepL K G r ds xs → RepL K G' r' ds xs := fun n q => (RepL.dry h n q).mono (SubH.refl _) List.nil_prefix
  cases q with
  | l a => exact .l (m z a)
  | k a b => exact .k a (m z b)
  | t a b => exact .t a (m z b)
  | fk a b => exact .fk a (m z b)
  | ft a b => exact .ft a (m z b)
theorem RepL.scal {G G' : Hp} {r r' : List Addr} : ∀ {ds : List D} {xs : List V}, ds.all scalD = true → RepL K G r ds xs → RepL K G' r' ds xs
  | [], _, _, q => by cases q; exact .nil
  | d :: ds, _, n, q => by
    rw [List.all_cons, Bool.and_eq_true] at n
    cases q with
    | cons a b => exact .cons (a.scal n.1) (RepL.scal n.2 b)
end
def flatO : O → Bool
  | .l ds => ds.all scalD
  | _ => false
theorem RepO.flat {K : PySem.W.Frag} {G G' : Hp} {r r' : List Addr} {x : O} {u : HO} (z : flatO x = true) (q : RepO K G r x u) : RepO K G' r' x u := by
  cases q with
  | l a => exact .l (RepL.scal z a)
  | k a b => cases z
  | t a b => cases z
  | fk a b => cases z
  | ft a b => cases z
def hidSl : Sl → Sl
  | .va d => if noLoc d = true then .va d else .no
  | .ow x => if noLocO x = true then .ow x else .no
  | .no => .no
section
variable {K : PySem.W.Frag} {W : Wd} {S : Sto} {H H0 : Hp} {env : Envm} {σ : L2.St}
end
/-- a test that draws from the box of slot j (or from none) and reads slot i's own list -/
def dLoanT (i j : Nat) (dt : DT) : DT := fun env S => match env[i]?, env[j]? with
  | some (.ow (.l ds)), some (.va (.loc b)) => (match S[b]? with
    | some x => if noLocO x = true ∧ noLocs ds = true then (match dt ((((env.set i .no).map hidSl).set i (.va (.lst ds))).set j (.va (.loc 0))) [x] with
      | .ok t S1 => (match S1[0]? with
        | some y => if flatO y = true then .ok t (S.set b y) else .bad
        | none => .bad)
      | _ => .bad) else .bad
    | none => .bad)
  | _, _ => .bad
/-! slot i's own list is handed on alone, to a test or a call that changes it -/
def brE (env : Envm) (i : Nat) : Envm := ((env.set i .no).map hidSl).set i (.va (.loc 0))
def brB (o : Option O) (f : List D → Out) : Out := match o with
  | some (.l ds) => if noLocs ds = true then f ds else .bad
  | _ => .bad
def dIfB (i : Nat) (dt : DT) (A B : DS) : DS := fun env S => match env[i]? with
  | some (.ow (.l ds)) => if noLocs ds = true then (match dt (brE env i) [.l ds] with
    | .ok t S1 => brB S1[0]? fun ds2 => if t = true then A (env.set i (.ow (.l ds2))) S else B (env.set i (.ow (.l ds2))) S
    | _ => .bad) else .bad
  | _ => .bad
def dDropB (i : Nat) (de : DE) : DS := fun env S => match env[i]? with
  | some (.ow (.l ds)) => if noLocs ds = true then (match de (brE env i) [.l ds] with
    | .ok _ S1 => brB S1[0]? fun ds2 => .nx (env.set i (.ow (.l ds2))) S
    | _ => .bad) else .bad
  | _ => .bad
section
variable {K : PySem.W.Frag} {W0 W : Wd} {H0 H : Hp} {S : Sto} {env : Envm} {σ : L2.St}
end
section
variable {X : Cx} {EX : XK}
end
end MP

namespace MP
open PySem PySem.Spec PyProof.Rows L2
/-! ### an exception out of a comprehension's iterable, and on through a builtin's call -/
def dWhen (d0 main : DR) : DR := fun env S => match d0 env S with
  | .xn c x S1 => .xn c x S1
  | .ok _ _ => onlyR (main env S)
  | .bad => .bad
section
variable {X : Cx} {U : WX} {e : Expr} {dr d0 main : DR}
end
end MP

namespace MP
open PySem PySem.Spec PyProof.Rows L2
/-! ### {t: v}, t a tuple of numbers and texts -/
section
variable {prog : Program} {w : World} {K : Type} [DecidableEq K] {knd : HeapKind prog w K} {A : Around} {E : Value → Shared → Prop} {s : Shared}
end
section
variable {X : Cx} {pos : Pos}
def tDispT (tk tv : TE) : TE := fun σ H Q => ∀ p, H p = none → tk σ (upd H p (.dT [])) fun x H1 => tv σ H1 fun y H2 => H2 p = some (.dT []) ∧ ∃ b k, x = .ref b ∧ H2 b = some (.tup (k.map kV)) ∧ Q (.ref p) (upd H2 p (.dT [(k, y)]))
def dDispT1 (dk dv : DE) : DR := fun env S => (dk env S).bind fun k S1 => (dv env S1).bind fun v S2 => match MP.keysOf k with
  | some q => .ok (.o (.t [q] [v])) S2
  | none => .bad
end
end MP

namespace MP
open PySem PySem.Spec PyProof.Rows L2
/-! ### sorted(set(x)) of a tuple of pairs of small ints -/
section
variable {P : Program} {w : World} {A : Around} {E : Value → Shared → Prop} {s : Shared}
end
/-- pairs of numbers below 64, each as one number -/
def codesOf : List D → Option (List Int)
  | [] => some []
  | .tup [.int a, .int b] :: r => if 0 ≤ a ∧ a < 64 ∧ 0 ≤ b ∧ b < 64 then (codesOf r).map (fun l => (a * 64 + b) :: l) else none
  | _ :: _ => none
def dPr (c : Int) : D := .tup [.int (c / 64), .int (c % 64)]
def fSortSetP : D → Sto → Res R := fun d S1 => match d with
  | .tup ds => (match codesOf ds with
    | some cs => if cs.length ≤ 60 then .ok (.o (.l ((usort cs).map dPr))) S1 else .bad
    | none => .bad)
  | _ => .bad
def dSortSetP (da : DE) : DR := fun env S => (da env S).bind fSortSetP
section
variable {X : Cx} {a : Expr}
end
end MP

namespace MP
open PySem PySem.Spec PyProof.Rows L2
/-! ### sorted(d), the keys of d tuples -/
def keyTD (k : List Key) : D := .tup (k.map keyD)
def bSortKT : List D → Sto → Res R := fun ds S => match ds with
  | [.dt ks _] => if (sortOk (ks.map keyTD) || mtOk (ks.map keyTD)) = true then .ok (.o (.l (dSort (ks.map keyTD)))) S else .bad
  | [.ft ks _] => if (sortOk (ks.map keyTD) || mtOk (ks.map keyTD)) = true then .ok (.o (.l (dSort (ks.map keyTD)))) S else .bad
  | _ => .bad
section
variable {X : Cx}
end
end MP

namespace MP
open PySem PySem.Spec PyProof.Rows L2
/-! ### x.pop(k) and x.insert(k, y) as statements -/
section
variable {EX : L2.XK}
end
def fPopI : List D → D → Option (List D) := fun ds d => match d with
  | .int k => if 0 ≤ k ∧ k.toNat < ds.length ∧ k ≤ 100000 then some (ds.eraseIdx k.toNat) else none
  | _ => none
def fInsI (k : Int) (y : D) : List D → Option (List D) := fun ds => if 0 ≤ k ∧ k ≤ 100000 ∧ ds.length ≤ 100000 then some (ds.take k.toNat ++ [y] ++ ds.drop k.toNat) else none
def dIns (i : Nat) (d1 d2 : DE) : DS := fun env S => if listSlot i env S = true then (match d1 env S with
  | .ok (.int k) S1 => (match d2 env S1 with
    | .ok y S2 => mutL i (fInsI k y) env S2
    | .xn _ _ _ => .bad
    | .bad => .bad)
  | .ok _ _ => .bad
  | .xn _ _ _ => .bad
  | .bad => .bad) else .bad
section
variable {X : Cx} {EX : L2.XK} {e e2 : Expr} {pos : Pos}
/-- str(i) of an int -/
def bStr : List D → Sto → Res R := fun ds S => match ds with
  | [.int i] => if i.natAbs.log2 < 1920 then .ok (.v (.str (toString i))) S else .bad
  | _ => .bad
end
end MP

namespace MP
variable {EX : L2.XK}
open PySem PySem.Spec PyProof.Rows L2
/-! ### a slot's own object becomes a shared one -/
def shrE (i : Nat) (env : Envm) (S : Sto) : Envm × Sto := match env[i]? with
  | some (.ow x) => (env.set i (.va (.loc S.length)), S ++ [x])
  | _ => (env, S)
def dShr (i : Nat) (a : DS) : DS := fun env S => a (shrE i env S).1 (shrE i env S).2
section
variable {K : PySem.W.Frag} {W0 W : Wd} {H0 H : Hp} {S : Sto} {env : Envm} {σ : L2.St}
end
section
variable {X : Cx} {st : Stmt}
end
end MP

namespace MST
open PySem PySem.Spec PyProof.Rows L2
/-! ### sets of tuples of ints and texts, up to 306 members -/
def MaskOk (m : Nat) : Prop := m = 7 ∨ m = 31 ∨ m = 127 ∨ m = 511
theorem lcg_all511 : ((List.range 512).all fun j => (List.range 512).any fun b => lcgN 511 b == j) = true := by decide +kernel
theorem lcg_all {m : Nat} (hm : MaskOk m) {j : Nat} (hj : j ≤ m) : ∃ b, b ≤ m ∧ lcgN m b = j := by
  rcases hm with e | e | e | e
  · exact L2.lcg_all (.inl e) hj
  · exact L2.lcg_all (.inr (.inl e)) hj
  · exact L2.lcg_all (.inr (.inr e)) hj
  · subst e
    have h1 := List.all_eq_true.mp lcg_all511 j (List.mem_range.mpr (Nat.lt_succ_of_le hj))
    obtain ⟨b, hb, e⟩ := List.any_eq_true.mp h1
    exact ⟨b, Nat.le_of_lt_succ (List.mem_range.mp hb), beq_iff_eq.mp e⟩
theorem lcg_round {m : Nat} (hm : MaskOk m) : lcgN m (m + 1) = 0 := by
  rcases hm with e | e | e | e <;> subst e <;> decide +kernel
theorem lcgN_mod {m : Nat} (hm : MaskOk m) : ∀ k, lcgN m (m + 1 + k) = lcgN m k
  | 0 => lcg_round hm
  | k + 1 => by
    show (lcgN m (m + 1 + k) * 5 + 1) % (m + 1) = (lcgN m k * 5 + 1) % (m + 1)
    rw [lcgN_mod hm k]
theorem lcgI_all {m : Nat} (hm : MaskOk m) {i j : Nat} (hi : i ≤ m) (hj : j ≤ m) : ∃ k, k ≤ m ∧ lcgI m i k = j := by
  obtain ⟨a, ha, ea⟩ := lcg_all hm hi
  obtain ⟨b, hb, eb⟩ := lcg_all hm hj
  rw [← ea]
  rcases Nat.lt_or_ge b a with c | c
  · refine ⟨b + (m + 1) - a, by omega, ?_⟩
    rw [lcgN_add]
    have e : a + (b + (m + 1) - a) = m + 1 + b := by omega
    rw [e, lcgN_mod hm, eb]
  · refine ⟨b - a, by omega, ?_⟩
    rw [lcgN_add]
    have e : a + (b - a) = b := by omega
    rw [e, eb]
theorem run_meets {m : Nat} (hm : MaskOk m) (h : Int) {j : Nat} (hj : j ≤ m) : ∃ n, n ≤ m + 12 ∧ runI m (SetTable.bits h) n = j := by
  obtain ⟨k, hk, e⟩ := lcgI_all hm (runI_le m (SetTable.bits h) 12) hj
  exact ⟨12 + k, by omega, by rw [runI_tail (bits_lt h)]; exact e⟩
theorem nth_meets {m : Nat} (hm : MaskOk m) (h : Int) {j : Nat} (hj : j ≤ m) : ∃ k, k < 10 * SetTable.turns m ∧ (nth m (runAt m (SetTable.bits h % (m + 1)) (SetTable.bits h)) k).j = j := by
  obtain ⟨n, hn, e⟩ := run_meets hm h hj
  obtain ⟨k, hk, e2⟩ := run_nth m (SetTable.bits h) n
  refine ⟨k, by unfold SetTable.turns; omega, ?_⟩
  rw [e2]
  exact e
structure TabOk (t : SetTable) (hs : List Int) : Prop where
  ris : Ris t.place.toList
  dm : t.dummies = #[]
  sz : t.place.size = hs.length
  mok : MaskOk t.mask
  bd : ∀ x ∈ t.place.toList, x ≤ t.mask
  reach : ∀ (i : Nat) (h : Int) (j : Nat), hs[i]? = some h → t.place.toList[i]? = some j → ∃ k, way t.mask h k = j ∧ ∀ k', k' < k → way t.mask h k' ∈ t.place.toList
theorem TabOk.first {t : SetTable} {hs : List Int} (T : TabOk t hs) (hl : hs.length ≤ t.mask) (h : Int) : ∃ K, K < 10 * SetTable.turns t.mask ∧ way t.mask h K ∉ t.place.toList ∧ ∀ k, k < K → way t.mask h k ∈ t.place.toList := by
  have hlen : t.place.toList.length < t.mask + 1 := by
    rw [Array.length_toList, T.sz]
    omega
  obtain ⟨j, hj, hn⟩ := st_missing t.place.toList (t.mask + 1) hlen
  obtain ⟨k, hk, e⟩ := nth_meets T.mok h (Nat.le_of_lt_succ hj)
  obtain ⟨K, h1, h2, h3⟩ := st_least (p := fun k => way t.mask h k ∉ t.place.toList) k (by show way t.mask h k ∉ _; rw [show way t.mask h k = j from e]; exact hn)
  refine ⟨K, Nat.lt_of_le_of_lt h1 hk, h2, fun k' hk' => ?_⟩
  rcases Classical.em (way t.mask h k' ∈ t.place.toList) with c | c
  · exact c
  · exact absurd c (h3 k' hk')
theorem TabOk.before {t : SetTable} {hs : List Int} (T : TabOk t hs) {h : Int} {K i j : Nat} (hK : way t.mask h K ∉ t.place.toList) (hi : hs[i]? = some h) (hj : t.place.toList[i]? = some j) : ∃ k, k < K ∧ way t.mask h k = j := by
  obtain ⟨k, e, hb⟩ := T.reach i h j hi hj
  refine ⟨k, ?_, e⟩
  rcases Nat.lt_trichotomy k K with c | c | c
  · exact c
  · rw [← c, e] at hK
    exact absurd (List.mem_of_getElem? hj) hK
  · exact absurd (hb K c) hK
theorem way_le {m : Nat} (_hm : MaskOk m) {h : Int} {k : Nat} : way m h k ≤ m := by
  have hi : SetTable.bits h % (m + 1) ≤ m := Nat.le_of_lt_succ (Nat.mod_lt _ (Nat.succ_pos _))
  have r := runEnd_bd hi
  have q := nth_in (m := m) k (runAt m (SetTable.bits h % (m + 1)) (SetTable.bits h)) (by
    show SetTable.bits h % (m + 1) + (SetTable.runEnd m (SetTable.bits h % (m + 1)) - SetTable.bits h % (m + 1)) ≤ m
    omega)
  show (nth m (runAt m (SetTable.bits h % (m + 1)) (SetTable.bits h)) k).j ≤ m
  omega
theorem TabOk.put {t : SetTable} {hs : List Int} (T : TabOk t hs) {h : Int} {K : Nat} (hK : way t.mask h K ∉ t.place.toList) (hb : ∀ k, k < K → way t.mask h k ∈ t.place.toList) :
    (t.put (way t.mask h K)).2 = SetTable.below t.place (way t.mask h K) ∧ SetTable.below t.place (way t.mask h K) ≤ hs.length ∧
    TabOk (t.put (way t.mask h K)).1 (hs.take (SetTable.below t.place (way t.mask h K)) ++ h :: hs.drop (SetTable.below t.place (way t.mask h K))) ∧
    (t.put (way t.mask h K)).1.mask = t.mask ∧ (t.put (way t.mask h K)).1.led = t.led ∧ (t.put (way t.mask h K)).1.plain = t.plain ∧ (t.put (way t.mask h K)).1.moves = t.moves ∧ (t.put (way t.mask h K)).1.finger = t.finger ∧
    (t.put (way t.mask h K)).1.fill = hs.length + 1 := by
  have hjm : way t.mask h K ≤ t.mask := way_le T.mok
  obtain ⟨j, hj⟩ : ∃ j, j = way t.mask h K := ⟨_, rfl⟩
  rw [← hj] at hK hjm ⊢
  obtain ⟨c1, _, _⟩ := below_cut T.ris j
  have hpl : SetTable.below t.place j ≤ t.place.toList.length := by
    rw [Array.length_toList]
    exact c1
  have hph : SetTable.below t.place j ≤ hs.length := by
    rw [← T.sz]
    exact c1
  have hsz : t.place.toList.length = hs.length := by
    rw [Array.length_toList]
    exact T.sz
  have hnp : t.place[SetTable.below t.place j]? ≠ some j := fun e => hK (List.mem_of_getElem? (by rw [Array.getElem?_toList]; exact e))
  have hpp := put_place t j
  have hsize : (t.put j).1.place.size = hs.length + 1 := by
    rw [← Array.length_toList, hpp, len_ins _ hpl, hsz]
  have up : ∀ {x : Nat}, x ∈ t.place.toList → x ∈ (t.put j).1.place.toList := fun {x} hx => by
    rw [hpp]
    exact mem_ins.2 (.inr hx)
  refine ⟨rfl, hph, ⟨ris_insert T.ris hnp, put_dm T.dm j, ?_, T.mok, fun x hx => ?_, fun i h' j' h1 h2 => ?_⟩, rfl, rfl, rfl, rfl, rfl, ?_⟩
  · rw [len_ins _ hph]
    exact hsize
  · rw [hpp] at hx
    rcases mem_ins.1 hx with z | z
    · rw [z]
      exact hjm
    · exact T.bd x z
  · rw [tins_get hs hph] at h1
    rw [hpp, tins_get _ hpl] at h2
    show ∃ k, way t.mask h' k = j' ∧ ∀ k', k' < k → way t.mask h' k' ∈ (t.put j).1.place.toList
    by_cases c : i < SetTable.below t.place j
    · rw [if_pos c] at h1 h2
      obtain ⟨k, e, z⟩ := T.reach i h' j' h1 h2
      exact ⟨k, e, fun k' hk' => up (z k' hk')⟩
    · rw [if_neg c] at h1 h2
      by_cases d : i = SetTable.below t.place j
      · rw [if_pos d] at h1 h2
        have e1 : h = h' := Option.some.inj h1
        have e2 : j = j' := Option.some.inj h2
        subst e1
        subst e2
        exact ⟨K, hj.symm, fun k' hk' => up (hb k' hk')⟩
      · rw [if_neg d] at h1 h2
        obtain ⟨k, e, z⟩ := T.reach (i - 1) h' j' h1 h2
        exact ⟨k, e, fun k' hk' => up (z k' hk')⟩
  · show (t.put j).1.place.size + (t.put j).1.dummies.size = hs.length + 1
    rw [hsize, put_dm T.dm j] <;> rfl
theorem free_find {m : Nat} (hm : MaskOk m) (owner : Array (Option Nat)) (h : Int) {j : Nat} (hj : j ≤ m) (hf : oAt owner j = none) :
    ∃ K, SetTable.layClean.free m owner (SetTable.turns m) (SetTable.bits h % (m + 1)) (SetTable.bits h) = some (way m h K) ∧ oAt owner (way m h K) = none ∧ ∀ k, k < K → oAt owner (way m h k) ≠ none := by
  obtain ⟨n, hn, e⟩ := run_meets hm h hj
  have hw : way m h (off m (SetTable.bits h % (m + 1)) (SetTable.bits h) n) = j := by
    show (nth m (runAt m (SetTable.bits h % (m + 1)) (SetTable.bits h)) (off m (SetTable.bits h % (m + 1)) (SetTable.bits h) n)).j = j
    rw [nth_off, itL_run]
    exact e
  obtain ⟨K, k1, k2, k3⟩ := st_least (p := fun k => oAt owner (way m h k) = none) (off m (SetTable.bits h % (m + 1)) (SetTable.bits h) n) (by
    show oAt owner (way m h (off m (SetTable.bits h % (m + 1)) (SetTable.bits h) n)) = none
    rw [show way m h (off m (SetTable.bits h % (m + 1)) (SetTable.bits h) n) = j from hw]
    exact hf)
  refine ⟨K, ?_, k2, k3⟩
  refine free_spec m owner (SetTable.turns m) n _ _ K (by unfold SetTable.turns; omega) k1 (fun k hk => ?_) ?_
  · have q := k3 k hk
    cases z : oAt owner (nth m (runAt m (SetTable.bits h % (m + 1)) (SetTable.bits h)) k).j with
    | none => exact absurd z q
    | some _ => rfl
  · have q : oAt owner (nth m (runAt m (SetTable.bits h % (m + 1)) (SetTable.bits h)) K).j = none := k2
    rw [q] <;> rfl
theorem Own.step {m : Nat} (hm : MaskOk m) {done : List Int} {owner : Array (Option Nat)} (W : Own m done owner) (hl : done.length ≤ m) (h : Int) :
    ∃ j, SetTable.layClean.free m owner (SetTable.turns m) (SetTable.bits h % (m + 1)) (SetTable.bits h) = some j ∧ Own m (done ++ [h]) (owner.setIfInBounds j (some done.length)) := by
  obtain ⟨ps, hps, hin⟩ := W.ps
  obtain ⟨j0, h0, hn0⟩ := st_missing ps (m + 1) (by omega)
  have hj0 : oAt owner j0 = none := by
    cases z : oAt owner j0 with
    | none => rfl
    | some k => exact absurd (hin j0 (Nat.le_of_lt_succ h0) (by rw [z]; exact fun e => nomatch e)) hn0
  obtain ⟨K, e1, e2, e3⟩ := free_find hm owner h (Nat.le_of_lt_succ h0) hj0
  have hjm : way m h K ≤ m := way_le hm
  have hjs : way m h K < owner.size := by
    rw [W.sz]
    exact Nat.lt_succ_of_le hjm
  refine ⟨way m h K, e1, ?_⟩
  have hself := oAt_set_self (some done.length) hjs
  have mono : ∀ {i : Nat}, oAt owner i ≠ none → oAt (owner.setIfInBounds (way m h K) (some done.length)) i ≠ none := fun {i} hi => by
    by_cases c : i = way m h K
    · rw [c, hself]
      exact fun e => nomatch e
    · rw [oAt_set_ne _ c]
      exact hi
  refine ⟨by rw [Array.size_setIfInBounds]; exact W.sz, fun j k hj e => ?_, fun k hk => ?_, ⟨way m h K :: ps, by rw [List.length_cons, List.length_append, hps] <;> rfl, fun j hj e => ?_⟩⟩
  · by_cases c : j = way m h K
    · rw [c, hself] at e
      have ek : done.length = k := Option.some.inj e
      refine ⟨h, K, ?_, c.symm, fun k' hk' => mono (e3 k' hk')⟩
      rw [← ek, List.getElem?_append_right (Nat.le_refl _), Nat.sub_self] <;> rfl
    · rw [oAt_set_ne _ c] at e
      obtain ⟨h', K', a1, a2, a3⟩ := W.at_ j k hj e
      refine ⟨h', K', ?_, a2, fun k' hk' => mono (a3 k' hk')⟩
      rw [List.getElem?_append_left (List.getElem?_eq_some_iff.mp a1).1]
      exact a1
  · rw [List.length_append, List.length_singleton] at hk
    by_cases c : k < done.length
    · obtain ⟨j, hj, e⟩ := W.all k c
      refine ⟨j, hj, ?_⟩
      rw [oAt_set_ne _ (fun z => by rw [z, e2] at e; cases e)]
      exact e
    · have ek : k = done.length := by omega
      rw [ek]
      exact ⟨way m h K, hjm, hself⟩
  · by_cases c : j = way m h K
    · rw [c]
      exact List.mem_cons_self
    · rw [oAt_set_ne _ c] at e
      exact List.mem_cons_of_mem _ (hin j hj e)
abbrev thash (P : Program) (w : World) (k : List Key) : Int := tupleKeyHash (mixKind P w) k
abbrev IsT (P : Program) (w : World) (h : Heap) (k : List Key) (a : Addr) : Prop := IsTupleKey (mixKind P w) h k a
section
variable {P : Program} {w : World} {A : Around} {E : Value → Shared → Prop} {s : Shared}
def rowsOf (P : Program) (w : World) (L : List (Addr × List Key)) : List (Int × Value) := L.map fun p => (thash P w p.2, Value.ref p.1)
structure SetTR (P : Program) (w : World) (h : Heap) (a : Addr) (L : List (Addr × List Key)) (es : Array (Int × Value)) (ep : Nat) (t : SetTable) : Prop where
  ob : ∃ o, h.get? a = some o ∧ o.ExactSet ∧ o.data = .set es ep t
  rows : es.toList = rowsOf P w L
  tab : TabOk t (L.map fun p => thash P w p.2)
  nd : (L.map (·.2)).Nodup
  tup : ∀ p ∈ L, IsT P w h p.2 p.1
  led : w.params.followText "set-order" = true ∨ t.led = true
  room : L.length * 5 < t.mask * 3
  few : L.length < 307
variable {a : Addr} {L : List (Addr × List Key)} {es : Array (Int × Value)} {ep : Nat} {t : SetTable}
theorem SetTR.size (R : SetTR P w s.heap a L es ep t) : es.size = L.length := by
  have h := congrArg List.length R.rows
  unfold rowsOf at h
  rw [Array.length_toList, List.length_map] at h
  exact h
theorem SetTR.fits (R : SetTR P w s.heap a L es ep t) : t.fits es.size = true := by
  have h1 := R.tab.sz
  rw [List.length_map] at h1
  have h2 := R.size
  have h3 := R.room
  unfold SetTable.fits SetTable.fill
  rw [R.tab.dm, Bool.and_eq_true, beq_iff_eq, decide_eq_true_eq]
  show t.place.size = es.size ∧ t.place.size + 0 ≤ t.mask
  omega
theorem SetTR.entry (R : SetTR P w s.heap a L es ep t) {i : Nat} {p : Addr × List Key} (h : L[i]? = some p) : es[i]? = some (thash P w p.2, Value.ref p.1) := by
  rw [← Array.getElem?_toList, R.rows]
  unfold rowsOf
  rw [List.getElem?_map, h] <;> rfl
end
structure Got (ks : List (Addr × List Key)) (i : Nat) (L : List (Addr × List Key)) : Prop where
  sub : ∀ p ∈ L, p ∈ ks.take i
  all : ∀ p ∈ ks.take i, p.2 ∈ L.map (·.2)
  len : L.length ≤ i
theorem Got.zero (ks : List (Addr × List Key)) : Got ks 0 [] := ⟨fun p h => (by cases h), fun p h => (by simp at h), Nat.le_refl _⟩
theorem Got.same {ks L : List (Addr × List Key)} {i : Nat} {x : Addr × List Key} (g : Got ks i L) (h : ks[i]? = some x) (hm : x.2 ∈ L.map (·.2)) : Got ks (i + 1) L := by
  refine ⟨fun p hp => ?_, fun p hp => ?_, Nat.le_succ_of_le g.len⟩
  · rw [take_next h]
    exact List.mem_append_left _ (g.sub p hp)
  · rw [take_next h] at hp
    rcases List.mem_append.mp hp with z | z
    · exact g.all p z
    · rw [List.mem_singleton.mp z]; exact hm
theorem Got.more {ks L L' : List (Addr × List Key)} {i : Nat} {x : Addr × List Key} (g : Got ks i L) (h : ks[i]? = some x) (pm : L'.Perm (x :: L)) : Got ks (i + 1) L' := by
  refine ⟨fun p hp => ?_, fun p hp => ?_, ?_⟩
  · rw [take_next h]
    rcases List.mem_cons.mp (pm.mem_iff.mp hp) with e | z
    · rw [e]; exact List.mem_append_right _ (List.mem_singleton.mpr rfl)
    · exact List.mem_append_left _ (g.sub p z)
  · rw [(pm.map (·.2)).mem_iff, List.map_cons]
    rw [take_next h] at hp
    rcases List.mem_append.mp hp with z | z
    · exact List.mem_cons_of_mem _ (g.all p z)
    · rw [List.mem_singleton.mp z]; exact List.mem_cons_self
  · rw [pm.length_eq, List.length_cons]
    exact Nat.succ_le_succ g.len
section
variable {P : Program} {w : World} {A : Around} {E : Value → Shared → Prop} {s : Shared}
theorem SetTR.keep {h h' : Heap} {a : Addr} {L : List (Addr × List Key)} {es : Array (Int × Value)} {ep : Nat} {t : SetTable} (R : SetTR P w h a L es ep t) (ha : ∀ o, h.get? a = some o → h'.get? a = some o) (ht : ∀ p ∈ L, IsT P w h' p.2 p.1) : SetTR P w h' a L es ep t := by
  obtain ⟨o, ho, r⟩ := R.ob
  exact ⟨⟨o, ha o ho, r⟩, R.rows, R.tab, R.nd, ht, R.led, R.room, R.few⟩
end
end MST

namespace MST
open PySem PySem.Spec PyProof.Rows L2 PySem.W
/-! ### sorted(a set of tuples of ints and texts) -/
def keyPy : Key → PyData
  | .inl i => .int i
  | .inr x => .str x
def encK (q : Addr × List Key) : PyData := .tuple (q.2.map keyPy)
section
variable {P : Program} {w : World} {A : Around} {E : Value → Shared → Prop} {s : Shared}
end
end MST
namespace MP
open PySem PySem.Spec PyProof.Rows L2
/-! ### codes of such tuples: tag 0 for (int, "end" or "closed"), tag n for n ints below 64 -/
def cdI : List D → Option Int
  | [] => some 0
  | .int a :: r => if 0 ≤ a ∧ a < 64 then (cdI r).map (fun c => a * 64 ^ r.length + c) else none
  | _ => none
def cdT : Nat → D → Option Int
  | 0, .tup [.int t, .str k] => if k = "end" then some (2 * t + 1) else if k = "closed" then some (2 * t) else none
  | n + 1, .tup ds => if ds.length = n + 1 then cdI ds else none
  | _, _ => none
def digs : Nat → Int → List Int
  | 0, _ => []
  | n + 1, c => c / 64 ^ n :: digs n (c % 64 ^ n)
def kdT (c : Int) : Str := if c % 2 = 1 then "end" else "closed"
def decT : Nat → Int → D
  | 0, c => .tup [.int (c / 2), .str (kdT c)]
  | n + 1, c => .tup ((digs (n + 1) c).map D.int)
def keyC : Nat → Int → List Key
  | 0, c => [.inl (c / 2), .inr (kdT c)]
  | n + 1, c => (digs (n + 1) c).map Sum.inl
def okT : Nat → Int → Prop
  | 0, _ => True
  | n + 1, c => 0 ≤ c ∧ c < 64 ^ (n + 1)
def tagT : List D → Nat
  | .tup [.int _, .str _] :: _ => 0
  | .tup ds :: _ => ds.length
  | _ => 0
def codesT (n : Nat) : List D → Option (List Int)
  | [] => some []
  | d :: r => match cdT n d with
    | some c => (codesT n r).map (fun l => c :: l)
    | none => none
def fSortSetT : D → Sto → Res R := fun d S => match d with
  | .lst ds => (match codesT (tagT ds) ds with
    | some cs => if cs.length ≤ 306 ∧ tagT ds ≤ 20 then .ok (.o (.l ((usort cs).map (decT (tagT ds))))) S else .bad
    | none => .bad)
  | _ => .bad
def dSortSetT (da : DE) : DR := fun env S => (da env S).bind fSortSetT
section
variable {X : Cx} {a : Expr}
end
end MP

namespace MP
variable {EX : L2.XK}
open PySem PySem.Spec PyProof.Rows L2
/-! ### x = y, where y's own object moves on to x -/
def dSetMv (i j : Nat) : DS := fun env S => match env[j]? with
  | some (.ow x) => if i = j then .bad else .nx ((env.set j .no).set i (.ow x)) S
  | some (.va d) => .nx (env.set i (.va d)) S
  | _ => .bad
section
variable {K : PySem.W.Frag} {W0 W : Wd} {H0 H : Hp} {S : Sto} {env : Envm} {σ : L2.St}
end
section
variable {X : Cx} {pos : Pos}
end
end MP

namespace MP
open PySem PySem.Spec PyProof.Rows L2
/-! ### len(set(xs)), xs a list of coded tuples -/
def fLenSetT : D → Sto → Res R := fun d S => match d with
  | .lst ds => (match codesT (tagT ds) ds with
    | some cs => if cs.length ≤ 306 then .ok (.v (.int (usort cs).length)) S else .bad
    | none => .bad)
  | _ => .bad
def dLenSetT (da : DE) : DR := fun env S => (da env S).bind fLenSetT
section
variable {X : Cx} {a : Expr}
end
end MP

namespace MP
variable {EX : L2.XK}
open PySem PySem.Spec PyProof.Rows L2
/-! ### errors that are made as values -/
section
variable {X : Cx} {pins : List (Addr × Obj)} {σ : L2.St}
theorem exT_ok {P : Program} {w : World} {H : Hp} {h : Heap} {a C : Addr} {d : Option Addr} {vs : Array Value} {sl : Array (Option Value)} (he : h.get? a = some ({ cls := .ref C, dict := d, data := .fields vs, slots := sl } : Obj)) : ObjOk P w H h a (exT a C d) :=
  ⟨⟨vs, sl, he⟩, ⟨_, he⟩, fun h1 h2 ⟨v2, sl2, z⟩ k => ⟨v2, sl2, k _ z⟩⟩
/-- the end of C(e): the error stays -/
theorem val_end {H1 H2 : Hp} {hp hp2 h2 : Heap} {g1 g2 : Array GenState} {d1 d2 : Drawn} {t1 t2 : Nat} {os1 os2 : OsState} {a C d : Addr} {fs : List (Str × V)} (I1 : Inv X pins σ H1 ⟨hp, g1, d1, t1, os1⟩)
    (ha : hp.objs.size ≤ a) (k : ∀ b o, hp.get? b = some o → hp2.get? b = some o) (un : Un (frs X.stack) [] (upd H1 a (exo a C none)) H2 hp2 h2) (hok : HOk X.prog X.w H2 h2) (ho : os2 = os1) (hb : AllBare g2)
    (ea : H2 a = some (exo a C (some d))) (ed : H2 d = some (exd d fs)) (hd1 : H1 d = none) : Inv X pins σ (upd (upd H2 d (.xd fs)) a (exT a C (some d))) ⟨h2, g2, d2, t2, os2⟩ := by
  obtain ⟨t0, hoe⟩ := exo_at hok ea
  obtain ⟨mA, hns, rel⟩ := exd_at hok ed
  have hn : H1 a = none := I1.hok.fresh ha
  have nha : ∀ {b : Addr} {o : Obj}, hp.get? b = some o → b ≠ a := fun {b o} z => Nat.ne_of_lt (Nat.lt_of_lt_of_le (Heap.lt_size z) ha)
  have up : ∀ {b : Addr}, b ≠ a → H1 b = none → upd H1 a (exo a C none) b = none := fun {b} hb n => by rw [upd_ne hb]; exact n
  have nd : ∀ {b : Addr} {o : Obj}, hp.get? b = some o → H1 b = none → b ≠ d := fun {b o} z n e => by
    have y := un.free b o (k b o z) (up (nha z) n) (by simp)
    rw [e, ed] at y
    cases y
  have U : Un (frs X.stack) [] H1 (upd (upd H2 d (.xd fs)) a (exT a C (some d))) hp h2 := {
    keep := fun b o z n hf hx => un.keep b o (k b o z) (up (nha z) n) hf hx
    slot := fun b o z n hf hx => un.slot b o (k b o z) (up (nha z) n) hf hx
    free := fun b o z n hx => by
      rw [upd_ne (nha z), upd_ne (nd z n)]
      exact un.free b o (k b o z) (up (nha z) n) hx
    there := fun b o z hx => un.there b o (k b o z) hx
    tups := fun b xs z => by
      rw [upd_ne (ne_of_none z hn), upd_ne (ne_of_none z hd1)]
      exact un.tups b xs (by rw [upd_ne (ne_of_none z hn)]; exact z)
    frzs := fun b o v z => by
      rw [upd_ne (ne_of_none z hn), upd_ne (ne_of_none z hd1)]
      exact un.frzs b o v (by rw [upd_ne (ne_of_none z hn)]; exact z)
    tbls := fun b ps z => by
      rw [upd_ne (ne_of_none z hn), upd_ne (ne_of_none z hd1)]
      exact un.tbls b ps (by rw [upd_ne (ne_of_none z hn)]; exact z) }
  have hok3 : HOk X.prog X.w (upd (upd H2 d (.xd fs)) a (exT a C (some d))) h2 := fun b o z => by
    by_cases hba : b = a
    · subst hba
      rw [upd_same] at z
      cases z
      exact exT_ok hoe
    · rw [upd_ne hba] at z
      by_cases hbd : b = d
      · subst hbd
        rw [upd_same] at z
        cases z
        exact ⟨mA, hns, rel⟩
      · rw [upd_ne hbd] at z
        exact (hok b o z).stay (fun c v _ y => y)
          (fun c hc => by rw [upd_ne (at_ne ea hc exo_own), upd_ne (at_ne ed hc exd_own)]; exact hc) (fun c xs hc => by rw [upd_ne (at_ne ea hc exo_tup), upd_ne (at_ne ed hc exd_tup)]; exact hc)
  exact I1.call' (ch := []) ho U hok3 hb (fun b z => absurd z (by simp))
/-- the end of C() -/
theorem val_end0 {H1 : Hp} {hp hp2 h2 : Heap} {g1 g2 : Array GenState} {d1 d2 : Drawn} {t1 t2 : Nat} {os1 os2 : OsState} {a C : Addr} (I1 : Inv X pins σ H1 ⟨hp, g1, d1, t1, os1⟩)
    (ha : hp.objs.size ≤ a) (k : ∀ b o, hp.get? b = some o → hp2.get? b = some o) (un : Un (frs X.stack) [] (upd H1 a (exo a C none)) (upd H1 a (exo a C none)) hp2 h2) (hok : HOk X.prog X.w (upd H1 a (exo a C none)) h2) (ho : os2 = os1) (hb : AllBare g2) :
    Inv X pins σ (upd H1 a (exT a C none)) ⟨h2, g2, d2, t2, os2⟩ := by
  have ea : (upd H1 a (exo a C none)) a = some (exo a C none) := upd_same
  obtain ⟨t0, hoe⟩ := exo_at hok ea
  have hn : H1 a = none := I1.hok.fresh ha
  have nha : ∀ {b : Addr} {o : Obj}, hp.get? b = some o → b ≠ a := fun {b o} z => Nat.ne_of_lt (Nat.lt_of_lt_of_le (Heap.lt_size z) ha)
  have up : ∀ {b : Addr}, b ≠ a → H1 b = none → upd H1 a (exo a C none) b = none := fun {b} hb n => by rw [upd_ne hb]; exact n
  have U : Un (frs X.stack) [] H1 (upd H1 a (exT a C none)) hp h2 := {
    keep := fun b o z n hf hx => un.keep b o (k b o z) (up (nha z) n) hf hx
    slot := fun b o z n hf hx => un.slot b o (k b o z) (up (nha z) n) hf hx
    free := fun b o z n hx => by rw [upd_ne (nha z)]; exact n
    there := fun b o z hx => un.there b o (k b o z) hx
    tups := fun b xs z => by rw [upd_ne (ne_of_none z hn)]; exact z
    frzs := fun b o v z => by rw [upd_ne (ne_of_none z hn)]; exact z
    tbls := fun b ps z => ⟨#[], by rw [upd_ne (ne_of_none z hn), z]; simp⟩ }
  have hok3 : HOk X.prog X.w (upd H1 a (exT a C none)) h2 := fun b o z => by
    by_cases hba : b = a
    · subst hba
      rw [upd_same] at z
      cases z
      exact exT_ok hoe
    · rw [upd_ne hba] at z
      have z2 : (upd H1 a (exo a C none)) b = some o := by rw [upd_ne hba]; exact z
      exact (hok b o z2).stay (fun c v _ y => y)
        (fun c hc => by rw [upd_ne (at_ne ea hc exo_own)]; rw [upd_ne (at_ne ea hc exo_own)] at hc; exact hc) (fun c xs hc => by rw [upd_ne (at_ne ea hc exo_tup)]; rw [upd_ne (at_ne ea hc exo_tup)] at hc; exact hc)
  exact I1.call' (ch := []) ho U hok3 hb (fun b z => absurd z (by simp))
end
/-- C(e), read: the error is the value -/
def tMkV (C : Addr) (sp : Sp) (ta : TA) : TE := fun σ H Q => ta σ H fun vs H1 => vs.length ≤ 1000 ∧ ∀ a, H1 a = none → sp (.ref a :: vs) (upd H1 a (exo a C none))
  (fun v H2 => v = .non ∧ ∃ d fs, H2 a = some (exo a C (some d)) ∧ H2 d = some (exd d fs) ∧ H1 d = none ∧ Q (.ref a) (upd (upd H2 d (.xd fs)) a (exT a C (some d)))) (fun _ _ _ => False)
def tMkV0 (C : Addr) (sp : Sp) : TE := fun σ H Q => ∀ a, H a = none → sp [.ref a] (upd H a (exo a C none)) (fun v H2 => v = .non ∧ H2 = upd H a (exo a C none) ∧ Q (.ref a) (upd H a (exT a C none))) (fun _ _ _ => False)
section
variable {X : Cx} {e : Expr} {es : List Expr} {p pos : Pos} {ta : TA} {newId initId Bn : String} {bm : List Value}
theorem pe_mkV {CX : CXT} {x : Str} {C fI : Addr} {k : Nat} {fd : FuncData} {ps : List Str} {sp : Sp} (BF : BaseF Bn newId initId bm) (T : OexG X.K C newId bm) (iC : PySem.W.findIn X.K (.ref C) "__init__" = some (some (.ref fI))) (tI : PySem.W.typeIn X.K (.ref fI) = some (.type "function"))
    (F1 : FnOk X.prog X.w X.K X.mg X.base CX k fI fd ps sp) (hr : Room (k + 1) X.A) (hb : Binds X.K fd ps []) (hpa : Passes CX X (fun _ _ _ => False)) (hg : Gl X x) (hm : X.mg x = some (.ref C)) (ha : PA X (e :: es) ta)
    (hdb : (x == ("__debug__" : Str)) = false := by decide) (he : starEach (e :: es) X.env = (false, eval e X.env) :: starEach es X.env := by rfl) (hpl : (backTo pos (starEach es X.env)).any (·.1) = false := by rfl) :
    PE X (.Call (.Name x p) (e :: es) [] pos) (tMkV C sp ta) := by
  refine ⟨fun pins s σ H Q I h => ?_⟩
  obtain ⟨nm, q, N, bs, sn, sub, ab, col, dd, k0, k1, k2, k3, k5, hC⟩ := T.cls
  refine wpAny_Call_Name_kw (ld_glob I hg hm ?_ hdb)
  refine PySem.W.callWith_K (h₀ := X.base) I.ok.mod.kin T.kC (thn (ha.run pos pins s σ H _ I h) fun us s1 ⟨vs, H1, I1, r1, hz, q1⟩ => ⟨I1.kIn, ?_⟩) he hpl
  show wpAny _ _ (call (.ref C) us) _ _ _
  obtain ⟨hx, gs, dr, tn, os⟩ := s1
  have hsz : hx.objs.size ≤ hx.objs.size + 1 := Nat.le_succ _
  have hn : H1 (hx.objs.size + 1) = none := I1.hok.fresh hsz
  have hq := q1 (hx.objs.size + 1) hn
  have kk : ∀ b o, hx.get? b = some o → ((hx.push (PySem.W.kdv_tup us)).push (PySem.HandSPX.excO C hx.objs.size)).get? b = some o := fun b o z => Heap.get?_push_of_some _ (Heap.get?_push_of_some _ z)
  have hat : ((hx.push (PySem.W.kdv_tup us)).push (PySem.HandSPX.excO C hx.objs.size)).get? (hx.objs.size + 1) = some (PySem.HandSPX.excO C hx.objs.size) := by heap_get
  have I2 : Inv X pins σ (upd H1 (hx.objs.size + 1) (exo (hx.objs.size + 1) C none)) ⟨(hx.push (PySem.W.kdv_tup us)).push (PySem.HandSPX.excO C hx.objs.size), gs, dr, tn, os⟩ :=
    I1.laid (t' := tn) (a := hx.objs.size + 1) (o := exo (hx.objs.size + 1) C none) (h' := (hx.push (PySem.W.kdv_tup us)).push (PySem.HandSPX.excO C hx.objs.size)) kk hsz (exo_ok hat)
  have r2 : Vals (V.ref (hx.objs.size + 1) :: (vs ++ [])) (Value.ref (hx.objs.size + 1) :: (us ++ [])) := .cons rfl (r1.append .nil)
  rw [List.append_nil, List.append_nil] at r2
  have hl : (Value.ref (hx.objs.size + 1) :: us).length = ps.length := by
    have z := r2.length
    rw [F1.len _ _ _ _ hq] at z
    exact z.symm
  have hus : us.length ≤ sizeLine := by
    rw [sizeLine_eq]
    have := Paired.length r1
    omega
  have hbt := hb _ (Value.ref (hx.objs.size + 1) :: us) I2.kIn (by rw [List.append_nil]; exact hl)
  rw [List.append_nil] at hbt
  refine wpAny_call (PySem.HandSPX.call_own BF.eb (fun Y => rfl) (I1.kIn _ _ hC) (PySem.W.looks_findIn I1.kIn iC) (fun self => PySem.W.bind_fn I1.kIn self tI) hus
    (codeAny_mono (F1.run _ X.stack _ _ ⟨Value.ref (hx.objs.size + 1) :: us, []⟩ (Value.ref (hx.objs.size + 1) :: us) _ _ (fun _ _ _ => False) (hr.make C us []) (I2.env0.make C us []) hbt r2 hq) fun r s2 hq2 => ?_))
  cases r with
  | error er => exact hpa pins σ _ _ er s2 I2 hq2
  | ok fw =>
    cases fw with
    | ret u =>
      obtain ⟨v, H2, os2, bare2, un2, hok2, rv, ev, d, fs, ea, ed, hd1, q2⟩ := hq2
      subst ev
      obtain ⟨h3, g3, d3, t3, os3⟩ := s2
      exact ⟨rv, .ref (hx.objs.size + 1), _, val_end I1 hsz kk un2 hok2 os2 bare2 ea ed hd1, rfl, q2⟩
    | next => exact False.elim hq2
    | brk => exact False.elim hq2
    | cont => exact False.elim hq2
theorem pe_mkV0 {CX : CXT} {x : Str} {C fI : Addr} {k : Nat} {fd : FuncData} {ps : List Str} {sp : Sp} (BF : BaseF Bn newId initId bm) (T : OexG X.K C newId bm) (iC : PySem.W.findIn X.K (.ref C) "__init__" = some (some (.ref fI))) (tI : PySem.W.typeIn X.K (.ref fI) = some (.type "function"))
    (F1 : FnOk X.prog X.w X.K X.mg X.base CX k fI fd ps sp) (hr : Room (k + 1) X.A) (hb : Binds X.K fd ps []) (hpa : Passes CX X (fun _ _ _ => False)) (hg : Gl X x) (hm : X.mg x = some (.ref C))
    (hdb : (x == ("__debug__" : Str)) = false := by decide) : PE X (.Call (.Name x p) [] [] pos) (tMkV0 C sp) := by
  refine ⟨fun pins s σ H Q I h => ?_⟩
  obtain ⟨nm, q, N, bs, sn, sub, ab, col, dd, k0, k1, k2, k3, k5, hC⟩ := T.cls
  refine wpAny_Call_Name_kw (ld_glob I hg hm ?_ hdb)
  refine PySem.W.callWith_K0 I.kIn T.kC ?_
  obtain ⟨hx, gs, dr, tn, os⟩ := s
  have hsz : hx.objs.size ≤ hx.objs.size + 1 := Nat.le_succ _
  have hn : H (hx.objs.size + 1) = none := I.hok.fresh hsz
  have hq := h (hx.objs.size + 1) hn
  have kk : ∀ b o, hx.get? b = some o → ((hx.push (PySem.W.kdv_tup [])).push (PySem.HandSPX.excO C hx.objs.size)).get? b = some o := fun b o z => Heap.get?_push_of_some _ (Heap.get?_push_of_some _ z)
  have hat : ((hx.push (PySem.W.kdv_tup [])).push (PySem.HandSPX.excO C hx.objs.size)).get? (hx.objs.size + 1) = some (PySem.HandSPX.excO C hx.objs.size) := by heap_get
  have I2 : Inv X pins σ (upd H (hx.objs.size + 1) (exo (hx.objs.size + 1) C none)) ⟨(hx.push (PySem.W.kdv_tup [])).push (PySem.HandSPX.excO C hx.objs.size), gs, dr, tn, os⟩ :=
    I.laid (t' := tn) (a := hx.objs.size + 1) (o := exo (hx.objs.size + 1) C none) (h' := (hx.push (PySem.W.kdv_tup [])).push (PySem.HandSPX.excO C hx.objs.size)) kk hsz (exo_ok hat)
  have r2 : Vals [V.ref (hx.objs.size + 1)] [Value.ref (hx.objs.size + 1)] := .cons rfl .nil
  have hl : ([Value.ref (hx.objs.size + 1)] ++ []).length = ps.length := by
    have z := r2.length
    rw [F1.len _ _ _ _ hq] at z
    exact z.symm
  have hbt := hb _ [Value.ref (hx.objs.size + 1)] I2.kIn hl
  rw [List.append_nil] at hbt
  refine wpAny_call (PySem.HandSPX.call_own BF.eb (fun Y => rfl) (I.kIn _ _ hC) (PySem.W.looks_findIn I.kIn iC) (fun self => PySem.W.bind_fn I.kIn self tI) (Nat.zero_le _)
    (codeAny_mono (F1.run _ X.stack _ _ ⟨[Value.ref (hx.objs.size + 1)], []⟩ [Value.ref (hx.objs.size + 1)] _ _ (fun _ _ _ => False) (hr.make C [] []) (I2.env0.make C [] []) hbt r2 hq) fun r s2 hq2 => ?_))
  cases r with
  | error er => exact hpa pins σ _ _ er s2 I2 hq2
  | ok fw =>
    cases fw with
    | ret u =>
      obtain ⟨v, H2, os2, bare2, un2, hok2, rv, ev, eH, q2⟩ := hq2
      subst ev
      subst eH
      obtain ⟨h3, g3, d3, t3, os3⟩ := s2
      exact ⟨rv, .ref (hx.objs.size + 1), _, val_end0 I hsz kk un2 hok2 os2 bare2, rfl, q2⟩
    | next => exact False.elim hq2
    | brk => exact False.elim hq2
    | cont => exact False.elim hq2
end
end MP

namespace MP
variable {EX : L2.XK}
open PySem PySem.Spec L2 PySem.HandSPX
/-! ### C(f = e) -/
section
variable {M : Model} {A : Around} {E : Value → Shared → Prop} {h : Heap} {g : Array GenState} {d : Drawn} {t : Nat} {os : OsState}
variable {nm q : Str} {C N : Addr} {bs bm bmB : List Value} {hdct : Bool} {sn : List Str} {sub : List Value} {ab : Bool} {col : Option Bool} {dd : Option Addr} {k0 k1 k2 k3 k5 : Option Value} {B newId initId : String}
theorem check_new_kw (F : ExcBaseFacts B newId initId bmB) (hT : ∀ X : String, bm.contains (.type X) = bmB.contains (.type X)) {x : Str} {v : Value} {Q : Unit → Shared → Prop}
    (hC : h.get? C = some (excClassObj nm q C N bs bm hdct sn sub ab col dd k0 k1 k2 k3 k5 newId)) (hq : Q () ⟨h, g, d, t, os⟩) : wpAny M A (checkBuiltinCall newId ⟨[.ref C], [(x, v)]⟩) Q E ⟨h, g, d, t, os⟩ := by
  have hcont : (Value.ref C :: bm).contains (.type B) = true := by rw [List.contains_cons, hT, F.hasB, Bool.or_true]
  have hstar := F.noStar
  simp only [checkBuiltinCall, F.newKind, F.newSplit, F.newRow]
  repeat (first | refine wpAny_loadPart_at hC ?_ | (refine wpAny_isSubtype_exc hC ?_; rw [hcont]) | refine wpAny_staticBase_exc hC ?_ | refine wpAny_madeBy_exc hC ?_ | simp only [bne_self_eq_false, Bool.false_eq_true, if_false] | wp_step)
  exact hq
theorem check_call_kw {x : Str} {v : Value} {Q : Unit → Shared → Prop} (hC : h.get? C = some (excClassObj nm q C N bs bm hdct sn sub ab col dd k0 k1 k2 k3 k5 newId))
    (hq : Q () ⟨h, g, d, t, os⟩) : wpAny M A (checkBuiltinCall "type.__call__" ⟨[.ref C], [(x, v)]⟩) Q E ⟨h, g, d, t, os⟩ := by
  have f3 := tc_sub
  have hT : (⟨h, g, d, t, os⟩ : Shared).TypeIs (.ref C) "type" := ⟨_, hC, rfl⟩
  simp only [checkBuiltinCall, tc_kind, tc_split]
  repeat (any_goals (first | assumption | with_reducible refine wpAny_loadPart_at hC ?_ | with_reducible refine wpAny_onRaise ?_ | with_reducible refine wpAny_map ?_ | wp_step))
end
section
variable {prog : Program} {w : World} {A : Around} {E : Value → Shared → Prop} {R : Result → Shared → Prop} {h : Heap} {g : Array GenState} {d : Drawn} {t : Nat} {os : OsState}
variable {nm q : Str} {C N : Addr} {bs bm bmB : List Value} {hdct : Bool} {sn : List Str} {sub : List Value} {ab : Bool} {col : Option Bool} {dd : Option Addr} {k0 k1 k2 k3 k5 : Option Value} {B newId initId : String}
theorem new_kw (F : ExcBaseFacts B newId initId bmB) (hT : ∀ X : String, bm.contains (.type X) = bmB.contains (.type X)) {x : Str} {v : Value}
    (hC : h.get? C = some (excClassObj nm q C N bs bm hdct sn sub ab col dd k0 k1 k2 k3 k5 newId))
    (hq : R (.ok (.ret (.ref (h.objs.size + 1)))) ⟨(h.push { cls := .type "tuple", data := .seq #[] }).push
      { cls := .ref C, data := .fields #[.ref h.objs.size, .none, .none, .none, .bool false, .none] }, g, d, t, os⟩) :
    codeAny (model prog w) A (.builtin newId ⟨[.ref C], [(x, v)]⟩) R ⟨h, g, d, t, os⟩ := by
  have hends := F.ends
  have hrest : ([] : List Value).length ≤ sizeLine := Nat.zero_le _
  have hcB : (Value.ref C :: bm).contains (.type B) = true := by rw [List.contains_cons, hT, F.hasB, Bool.or_true]
  have hcA : (Value.ref C :: bm).contains (.type "AttributeError") = false := by rw [List.contains_cons, hT, F.noAttr]; rfl
  have hcN : (Value.ref C :: bm).contains (.type "NameError") = false := by rw [List.contains_cons, hT, F.noName]; rfl
  refine codeAny_builtinAt F.entry ?_
  unfold Builtin.«BaseException.__new__»
  refine wpAt_bind ?_
  show wpAt _ _ _ (stack >>= _) _ _ _
  refine wpAt_bind (wpAt_stack fun p below => wpAt_of_wpAny ?_)
  wp_walk
  refine wpAt_of_wpAny ?_
  rw [F.owner]
  repeat (first | with_reducible refine wpAny_madeHere_exc F.canon hC ?_ | with_reducible refine wpAny_loadPart_at hC ?_ | (with_reducible refine wpAny_isSubtype_exc hC ?_; first | rw [hcB] | rw [hcA] | rw [hcN]) | wp_step)
  show R _ _
  rw [Heap.size_push]
  exact hq
theorem type_call_kw (F : ExcBaseFacts B newId initId bmB) (hT : ∀ X : String, bm.contains (.type X) = bmB.contains (.type X)) {x : Str} {u : Value} {fI : Addr} {Q : Fin → Shared → Prop}
    (hC : h.get? C = some (excClassObj nm q C N bs bm hdct sn sub ab col dd k0 k1 k2 k3 k5 newId))
    (hi : W.Looks (model prog w) h (typeLookup (.ref C) "__init__") (some (.ref fI))) (hb : ∀ self, W.Looks (model prog w) h (bindSpecial (.ref fI) self) (.ref fI, [self]))
    (hq : codeAny (model prog w) A (.call (.ref fI) ⟨[.ref (h.objs.size + 1)], [(x, u)]⟩)
      (fun r s' => match r with | .ok (.ret v) => v = .none ∧ Q (.done (.ret (.ref (h.objs.size + 1)))) s' | .ok _ => False | .error e => E e s')
      ⟨(h.push (W.kdv_tup [])).push (excO C h.objs.size), g, d, t, os⟩) :
    wpAny (model prog w) A (Builtin.«type.__call__» ⟨[.ref C], [(x, u)]⟩) Q E ⟨h, g, d, t, os⟩ := by
  repeat (first | with_reducible refine wpAny_loadPart_at hC ?_ | with_reducible refine wpAny_madeBy_exc hC ?_ | wp_step)
  refine codeAny_call_builtin_code (Code.quiet_builtin _ F.quiet) (check_new_kw F hT hC ?_)
  refine new_kw F hT hC ?_
  show wpAny _ _ _ _ _ _
  have k : ∀ b o, h.get? b = some o → ((h.push (W.kdv_tup [])).push (excO C h.objs.size)).get? b = some o := fun b o e => Heap.get?_push_of_some _ (Heap.get?_push_of_some _ e)
  have hC₁ := k _ _ hC
  have hget : ((h.push (W.kdv_tup [])).push (excO C h.objs.size)).get? (h.objs.size + 1) = some (excO C h.objs.size) := by heap_get
  have hcC : (Value.ref C :: bm).contains (.ref C) = true := by simp
  have i1 := hi.keeps k
  have b1 := (hb (.ref (h.objs.size + 1))).keeps k
  unfold isInstance
  repeat (first | with_reducible refine wpAny_loadPart_at hget ?_ | (with_reducible refine wpAny_isSubtype_exc hC₁ ?_; rw [hcC]) | wp_step)
  show wpAny _ _ (typeLookup (.ref C) _) _ _ _
  refine i1.at ?_
  refine wpAny_holding (wpAny_bind (b1.at ?_))
  refine wpAny_bind (wpAny_call (codeAny_mono hq fun r s' z => ?_))
  rcases r with e | (v | _ | _ | _) <;> first | exact z | exact z.elim | skip
  obtain ⟨rfl, z⟩ := z
  first
    | exact wpAny_pure (wpAny_pure z)
    | (wp_walk; exact z)
theorem call_kw (F : ExcBaseFacts B newId initId bmB) (hT : ∀ X : String, bm.contains (.type X) = bmB.contains (.type X)) {x : Str} {u : Value} {fI : Addr}
    (hC : h.get? C = some (excClassObj nm q C N bs bm hdct sn sub ab col dd k0 k1 k2 k3 k5 newId))
    (hi : W.Looks (model prog w) h (typeLookup (.ref C) "__init__") (some (.ref fI))) (hb : ∀ self, W.Looks (model prog w) h (bindSpecial (.ref fI) self) (.ref fI, [self]))
    (hq : codeAny (model prog w) (A.under (.builtin "type.__call__" ⟨[.ref C], [(x, u)]⟩)) (.call (.ref fI) ⟨[.ref (h.objs.size + 1)], [(x, u)]⟩) (W.InitBack (h.objs.size + 1) R)
      ⟨(h.push (W.kdv_tup [])).push (excO C h.objs.size), g, d, t, os⟩) :
    codeAny (model prog w) A (.call (.ref C) ⟨[], [(x, u)]⟩) R ⟨h, g, d, t, os⟩ := by
  have f1 := tc_lookup
  have f2 := tc_bind (.ref C)
  have hTy : (⟨h, g, d, t, os⟩ : Shared).TypeIs (.ref C) "type" := ⟨_, hC, rfl⟩
  refine codeAny_of_tree ?_
  show wpAny _ _ (callAny (.ref C) _) _ _ _
  repeat (any_goals (first | assumption | with_reducible refine wpAny_loadPart_at hC ?_ | wp_step))
  refine ⟨rfl, ?_⟩
  refine codeAny_call_builtin_at (Code.quiet_builtin _ (by decide +kernel)) entry_typeCall (check_call_kw hC (type_call_kw F hT hC hi hb ?_))
  refine codeAny_mono hq fun r s' z => ?_
  rcases r with e | (v | _ | _ | _) <;> exact z
end
end MP

namespace MP
variable {EX : L2.XK}
open PySem PySem.Spec PyProof.Rows L2
/-! ### the kinds of __init__: what the field may be -/
def spG (K : PySem.W.Frag) (newId : String) (bm : List Value) (fl : Str) (F : Hp → V → Prop) : Sp := fun vs H Q _ => ∃ a C v, vs = [.ref a, v] ∧ OexG K C newId bm ∧ PySem.W.findIn K (.ref C) fl = some none ∧ H a = some (exo a C none) ∧ F H v ∧
  ∀ dx, H dx = none → dx ≠ a → Q .non (upd (upd H dx (exd dx [(fl, v)])) a (exo a C (some dx)))
def tIG (K : PySem.W.Frag) (newId : String) (bm : List Value) (fl : Str) (F : Hp → V → Prop) : TS := fun D σ H => ∃ a C v, σ[0]? = some (some (.ref a)) ∧ σ[1]? = some (some v) ∧ OexG K C newId bm ∧ PySem.W.findIn K (.ref C) fl = some none ∧ H a = some (exo a C none) ∧ F H v ∧
  ∀ dx, H dx = none → dx ≠ a → D.nx σ (upd (upd H dx (exd dx [(fl, v)])) a (exo a C (some dx)))
theorem init_fnG {P : Program} {w : World} {K : PySem.W.Frag} {mg : Str → Option Value} {base : Heap} {newId : String} {bm : List Value} {fl x qual : Str} {params : Arguments} {body : List Stmt} {scope : Scope} {f : Addr} {fd : FuncData} {N ps : List Str} {Fp : Hp → V → Prop} (F : FunD K x qual params body scope [] [] f fd) (S : FnScope N ps scope) (hp : ps.length = 2) (hN : N.length = 2)
    (hb : ∀ (cdv : Value) (A : Around) (outer : List Env) (s : Shared) (H : Hp) (E : XK), Room 0 (A.deeper (envOfC qual scope s.heap.objs.size f cdv)) → PSs (XF P w K mg base N qual scope f cdv A outer s H E) body (tIG K newId bm fl Fp)) :
    FnOk P w K mg base (L2.CX P w) 1 f fd ps (spG K newId bm fl Fp) := by
  refine F.ok (k := 0) S (fun vs H Q E h => ?_) fun cdv A outer s H vs Q E hr h => ⟨tIG K newId bm fl Fp, hb cdv A outer s H E hr, ?_⟩
  · obtain ⟨a, C, v, rfl, _⟩ := h
    exact hp.symm
  · obtain ⟨a, C, v, rfl, T, hno, ea, fo, q⟩ := h
    exact ⟨a, C, v, rfl, rfl, T, hno, ea, fo, q⟩
/-- a text whose repr is short -/
def FmtR (H : Hp) (v : V) : Prop := ∃ y : Str, v = .str y ∧ (reprText y).length ≤ 20000
/-- how the one keyword of a class binds -/
def KwI (K : PySem.W.Frag) (fd : FuncData) (ps : List Str) (k : Str) : Prop := ∀ (s : Shared) (u w : Value), K.In s.heap → BindsTo s fd ⟨[u], [(k, w)]⟩ (ps.zip [u, w])
theorem kwI_of {K : PySem.W.Frag} {x qual : Str} {params : Arguments} {body : List Stmt} {scope : Scope} {f : Addr} {fd : FuncData} {ps : List Str} {k : Str} (F : FunD K x qual params body scope [] [] f fd)
    (h : ∀ (kV doc pm : Value) (an : Option Addr) (cdv ct : Value) (u w : Value), bindArgs (PySem.W.fnOf x qual params body scope .none kV doc pm an cdv ct) ⟨[u], [(k, w)]⟩ = pure (ps.zip [u, w])) : KwI K fd ps k := by
  intro s u w _
  obtain ⟨oc, od, dV, kV, doc, pm, an, cdv, ct, osl, rfl, lk, hcd, hD, hK⟩ := F.ex
  rcases hD with ⟨_, rfl⟩ | ⟨e, _⟩
  · exact .of_eq (h kV doc pm an cdv ct u w)
  · exact absurd rfl e
/-- what a text knows of an error class with one field whose errors it makes -/
structure XVal (P : Program) (w : World) (K : PySem.W.Frag) (mg : Str → Option Value) (base : Heap) (n fl : Str) (Fp : Hp → V → Prop) : Prop where
  ex : ∃ (Bn newId initId : String) (bm : List Value) (fI : Addr) (fd : FuncData) (ps : List Str), BaseF Bn newId initId bm ∧ OexG K (He.ga K n) newId bm ∧ PySem.W.findIn K (.ref (He.ga K n)) "__init__" = some (some (.ref fI)) ∧ PySem.W.typeIn K (.ref fI) = some (.type "function") ∧
    PySem.W.findIn K (.ref (He.ga K n)) fl = some none ∧ FnOk P w K mg base (L2.CX P w) 1 fI fd ps (spG K newId bm fl Fp) ∧ Binds K fd ps [] ∧ KwI K fd ps fl
  g : mg n = some (.ref (He.ga K n))
section
variable {X : Cx} {e : Expr} {es : List Expr} {p pos : Pos} {ta : TA} {newId initId Bn : String} {bm : List Value} {kws : List Keyword}
theorem pe_mkVK {CX : CXT} {x f : Str} {C fI : Addr} {k : Nat} {fd : FuncData} {ps : List Str} {sp : Sp} (BF : BaseF Bn newId initId bm) (T : OexG X.K C newId bm) (iC : PySem.W.findIn X.K (.ref C) "__init__" = some (some (.ref fI))) (tI : PySem.W.typeIn X.K (.ref fI) = some (.type "function"))
    (F1 : FnOk X.prog X.w X.K X.mg X.base CX k fI fd ps sp) (hr : Room (k + 1) X.A) (hb : KwI X.K fd ps f) (hpa : Passes CX X (fun _ _ _ => False)) (hg : Gl X x) (hm : X.mg x = some (.ref C)) (hkw : PK X kws ta)
    (hl1 : ∀ σ H Q, ta σ H Q → ta σ H fun vs H1 => vs.length = 1 ∧ Q vs H1)
    (hall : (backToKw pos (keywordEach kws X.env)).all (·.1.isSome) = true := by rfl) (hks : (backToKw pos (keywordEach kws X.env)).filterMap (·.1) = [f] := by rfl)
    (hdb : (x == ("__debug__" : Str)) = false := by decide)
    (hpl : ((backTo pos (starEach [] X.env)).any (·.1) || (backToKw pos (keywordEach kws X.env)).any (·.1.isNone)) = false := by rfl) :
    PE X (.Call (.Name x p) [] kws pos) (tMkV C sp ta) := by
  refine ⟨fun pins s σ H Q I h => ?_⟩
  obtain ⟨nm, q, N, bs, sn, sub, ab, col, dd, k0, k1, k2, k3, k5, hC⟩ := T.cls
  refine wpAny_Call_Name_kw (ld_glob I hg hm ?_ hdb)
  refine PySem.W.callWith_KW0 (h₀ := X.base) I.ok.mod.kin T.kC hall (thn (hkw.run pos pins s σ H _ I (hl1 _ _ _ h)) fun us s1 ⟨vs, H1, I1, r1, hl1, hz, q1⟩ => ⟨I1.kIn, ?_⟩) hpl
  rw [hks]
  obtain ⟨y, rfl⟩ : ∃ y, vs = [y] := List.length_eq_one_iff.mp hl1
  obtain ⟨u1, rfl, ru⟩ : ∃ u1, us = [u1] ∧ L2.RelV y u1 := by
    cases r1 with
    | cons ra rb =>
      cases rb
      exact ⟨_, rfl, ra⟩
  obtain ⟨hx, gs, dr, tn, os⟩ := s1
  have hsz : hx.objs.size ≤ hx.objs.size + 1 := Nat.le_succ _
  have hn : H1 (hx.objs.size + 1) = none := I1.hok.fresh hsz
  have hq := q1 (hx.objs.size + 1) hn
  have kk : ∀ b o, hx.get? b = some o → ((hx.push (PySem.W.kdv_tup [])).push (PySem.HandSPX.excO C hx.objs.size)).get? b = some o := fun b o z => Heap.get?_push_of_some _ (Heap.get?_push_of_some _ z)
  have hat : ((hx.push (PySem.W.kdv_tup [])).push (PySem.HandSPX.excO C hx.objs.size)).get? (hx.objs.size + 1) = some (PySem.HandSPX.excO C hx.objs.size) := by heap_get
  have I2 : Inv X pins σ (upd H1 (hx.objs.size + 1) (exo (hx.objs.size + 1) C none)) ⟨(hx.push (PySem.W.kdv_tup [])).push (PySem.HandSPX.excO C hx.objs.size), gs, dr, tn, os⟩ :=
    I1.laid (t' := tn) (a := hx.objs.size + 1) (o := exo (hx.objs.size + 1) C none) (h' := (hx.push (PySem.W.kdv_tup [])).push (PySem.HandSPX.excO C hx.objs.size)) kk hsz (exo_ok hat)
  have r2 : Vals [V.ref (hx.objs.size + 1), y] [Value.ref (hx.objs.size + 1), u1] := .cons rfl (.cons ru .nil)
  have hbt := hb ⟨(hx.push (PySem.W.kdv_tup [])).push (PySem.HandSPX.excO C hx.objs.size), gs, dr, tn, os⟩ (Value.ref (hx.objs.size + 1)) u1 I2.kIn
  show wpAny _ _ (call (.ref C) [] [(f, u1)]) _ _ _
  refine wpAny_call (call_kw BF.eb (fun Y => rfl) (I1.kIn _ _ hC) (PySem.W.looks_findIn I1.kIn iC) (fun self => PySem.W.bind_fn I1.kIn self tI)
    (codeAny_mono (F1.run _ X.stack _ _ ⟨[Value.ref (hx.objs.size + 1)], [(f, u1)]⟩ [Value.ref (hx.objs.size + 1), u1] _ _ (fun _ _ _ => False) (hr.make C [] [(f, u1)]) (I2.env0.make C [] [(f, u1)]) hbt r2 hq) fun r s2 hq2 => ?_))
  cases r with
  | error er => exact hpa pins σ _ _ er s2 I2 hq2
  | ok fw =>
    cases fw with
    | ret u =>
      obtain ⟨v, H2, os2, bare2, un2, hok2, rv, ev, d, fs, ea, ed, hd1, q2⟩ := hq2
      subst ev
      obtain ⟨h3, g3, d3, t3, os3⟩ := s2
      exact ⟨rv, .ref (hx.objs.size + 1), _, val_end I1 hsz kk un2 hok2 os2 bare2 ea ed hd1, rfl, q2⟩
    | next => exact False.elim hq2
    | brk => exact False.elim hq2
    | cont => exact False.elim hq2
end
/-! ### the denotations -/
def dNewX (n f : Str) (b : D → Bool) (de : DE) : DE := fun env S => match de env S with
  | .ok v S1 => if b v = true then .ok (.ex n f v) S1 else .bad
  | _ => .bad
def dNew0 (n : Str) : DE := fun _ S => .ok (.ex0 n) S
def fmtRD : D → Bool
  | .str y => decide ((reprText y).length ≤ 20000)
  | _ => false
/-- what a check of the field says -/
def Says (K : PySem.W.Frag) (b : D → Bool) (Fp : Hp → V → Prop) : Prop := ∀ (G H : Hp) (l : List Addr) (d : D) (v : V), b d = true → Rep K G l d v → SubH G H → Fp H v
theorem says_fmt (K : PySem.W.Frag) : Says K fmtD (FmtOk K) := fun _ _ _ _ _ h r s => fmt_rep h r s
theorem says_fmtR (K : PySem.W.Frag) : Says K fmtRD FmtR := fun G H l d v h r s => by
  cases r with
  | str y => exact ⟨y, rfl, of_decide_eq_true h⟩
  | _ => exact absurd h (fun z => nomatch z)
section
variable {X : Cx} {e : Expr} {pos p kpos : Pos} {nm : Option Str} {k : Nat} {n f : Str} {de : DE} {b : D → Bool} {Fp : Hp → V → Prop}
theorem new_read {K : PySem.W.Frag} {newId : String} {bm : List Value} (T : OexG K (He.ga K n) newId bm) (hno : PySem.W.findIn K (.ref (He.ga K n)) f = some none) (hs : Says K b Fp) {σ : L2.St} {H : Hp} {Q : VK} (h : tV K (dNewX n f b de) σ H Q) : tMkV (He.ga K n) (spG K newId bm f Fp) (tAV K (dCons de dNil)) σ H Q := by
  obtain ⟨W, S, H0, env, ok, eo, d, S', h, q⟩ := h
  unfold dNewX at h
  cases hd : de env S with
  | bad => rw [hd] at h; cases h
  | xn c x S1 => rw [hd] at h; cases h
  | ok v S1 =>
    rw [hd] at h
    have h : (if b v = true then Res.ok (D.ex n f v) S1 else .bad) = .ok d S' := h
    split at h
    case isFalse => cases h
    rename_i hb
    injection h with h1 h2
    subst h1
    subst h2
    refine ⟨W, S, H0, env, ok, eo, [v], S1, ?_, fun W1 H1 vs e1 o1 r1 => ?_⟩
    · show (de env S).bind (fun x S1 => (dNil env S1).map fun xs => x :: xs) = _
      rw [hd]
      rfl
    · cases r1 with
      | @cons _ y _ ys r1 r2 =>
      cases r2
      refine ⟨(show 1 ≤ 1000 by decide), fun a ha => ?_⟩
      have sub1 : SubH W1.G (upd H1 a (exo a (He.ga K n) none)) := fun b o z => by
        have := o1.sub b o z
        rw [upd_ne (ne_of_none this ha)]
        exact this
      refine ⟨a, He.ga K n, y, rfl, T, hno, upd_same, hs _ _ _ _ _ hb r1 sub1, fun dx n1 ne => ?_⟩
      have hdx : H1 dx = none := by
        rw [upd_ne ne] at n1
        exact n1
      have eH : upd (upd (upd (upd (upd H1 a (exo a (He.ga K n) none)) dx (exd dx [(f, y)])) a (exo a (He.ga K n) (some dx))) dx (.xd [(f, y)])) a (exT a (He.ga K n) (some dx)) = upd (upd H1 dx (.xd [(f, y)])) a (exT a (He.ga K n) (some dx)) := by
        funext c
        by_cases hc2 : c = a
        · rw [hc2, upd_same, upd_same]
        · rw [upd_ne hc2, upd_ne hc2]
          by_cases hc1 : c = dx
          · rw [hc1, upd_same, upd_same]
          · rw [upd_ne hc1, upd_ne hc1, upd_ne hc2, upd_ne hc1, upd_ne hc2]
      refine ⟨rfl, dx, [(f, y)], upd_same, by rw [upd_ne ne, upd_same], hdx, ?_⟩
      rw [eH]
      obtain ⟨x1, x2, x3⟩ := lay_frz (u := .xd [(f, y)]) o1 hdx
      have ha2 : upd H1 dx (.xd [(f, y)]) a = none := by rw [upd_ne (Ne.symm ne)]; exact ha
      obtain ⟨y1, y2, y3⟩ := lay_frz (u := exT a (He.ga K n) (some dx)) x2 ha2
      exact q ⟨upd (upd W1.G dx (.xd [(f, y)])) a (exT a (He.ga K n) (some dx)), W1.r⟩ _ _ (e1.trans (x1.trans y1)) y2 (.ex upd_same (y3 _ _ upd_same) ((r1.mono x3 (List.prefix_refl _)).mono y3 (List.prefix_refl _)))
/-- C(e) -/
theorem me_newX (XV : XVal X.prog X.w X.K X.mg X.base n f Fp) (hs : Says X.K b Fp) (hr : Room (k + 3) X.A) (hg : Gl X n) (he : PE X e (tV X.K de))
    (hdb : (n == ("__debug__" : Str)) = false := by decide) (hst : starEach (e :: []) X.env = (false, eval e X.env) :: starEach [] X.env := by rfl) (hpl : (backTo pos (starEach [] X.env)).any (·.1) = false := by rfl) :
    PE X (.Call (.Name n p) [e] [] pos) (tV X.K (dNewX n f b de)) := by
  obtain ⟨⟨Bn, newId, initId, bm, fI, fd, ps, BF, T, iC, tI, hno, F1, hb, hk⟩, hm⟩ := XV
  exact PE.imp (pe_mkV (p := p) (pos := pos) BF T iC tI F1 (hr.mono (show 1 + 1 ≤ k + 3 by omega)) hb passE0 hg hm (ma_cons he ma_nil hst) hdb hst hpl) fun σ H Q h => new_read T hno hs h
/-- C(f = e) -/
theorem me_newE (XV : XVal X.prog X.w X.K X.mg X.base n f Fp) (hs : Says X.K b Fp) (hr : Room (k + 3) X.A) (hg : Gl X n) (he : PE X e (tV X.K de))
    (hall : (backToKw pos (keywordEach [⟨nm, e, kpos⟩] X.env)).all (·.1.isSome) = true := by rfl) (hks : (backToKw pos (keywordEach [⟨nm, e, kpos⟩] X.env)).filterMap (·.1) = [f] := by rfl)
    (hdb : (n == ("__debug__" : Str)) = false := by decide)
    (hpl : ((backTo pos (starEach [] X.env)).any (·.1) || (backToKw pos (keywordEach [⟨nm, e, kpos⟩] X.env)).any (·.1.isNone)) = false := by rfl) :
    PE X (.Call (.Name n p) [] [⟨nm, e, kpos⟩] pos) (tV X.K (dNewX n f b de)) := by
  obtain ⟨⟨Bn, newId, initId, bm, fI, fd, ps, BF, T, iC, tI, hno, F1, hb, hk⟩, hm⟩ := XV
  refine PE.imp (pe_mkVK (p := p) (pos := pos) BF T iC tI F1 (hr.mono (show 1 + 1 ≤ k + 3 by omega)) hk passE0 hg hm (mk_cons (nm := nm) (kpos := kpos) he mk_nil) ?_ hall hks hdb hpl) fun σ H Q h => new_read T hno hs h
  intro σ H Q ⟨W, S, H0, env, ok, eo, ds, S', h, q⟩
  exact ⟨W, S, H0, env, ok, eo, ds, S', h, fun W1 H1 vs e1 o1 r1 => ⟨by rw [← r1.length]; exact len_cons len_nil _ _ _ _ h, q W1 H1 vs e1 o1 r1⟩⟩
/-- C() -/
theorem me_new0 (XI : XIn0 X.prog X.w X.K X.mg X.base n) (hr : Room (k + 3) X.A) (hg : Gl X n)
    (hdb : (n == ("__debug__" : Str)) = false := by decide) : PE X (.Call (.Name n p) [] [] pos) (tV X.K (dNew0 n)) := by
  obtain ⟨⟨Bn, newId, initId, bm, fI, fd, ps, BF, T, iC, tI, F1, hb⟩, hm⟩ := XI
  refine PE.imp (pe_mkV0 (p := p) (pos := pos) BF T iC tI F1 (hr.mono (show 1 + 1 ≤ k + 3 by omega)) hb passE0 hg hm hdb) fun σ H Q ⟨W, S, H0, env, ok, eo, d, S', h, q⟩ => ?_
  cases h
  intro a ha
  obtain ⟨x1, x2, x3⟩ := lay_frz (u := exT a (He.ga X.K n) none) ok ha
  exact ⟨a, He.ga X.K n, rfl, T, upd_same, rfl, rfl, q ⟨upd W.G a (exT a (He.ga X.K n) none), W.r⟩ _ _ x1 x2 (.ex0 upd_same)⟩
end
/-! ### isinstance of an error and classes that it is none of -/
def xMore : List String := ["IndexError", "KeyError", "NotImplementedError"]
def XMore (K : PySem.W.Frag) (tab : List (Str × String)) : Prop := ∀ p ∈ tab, ∀ t ∈ xMore, PySem.W.kitOne K (.ref (He.ga K p.1)) (.type t) = some false
def xmoreB (tab : List (Str × String)) (K : PySem.W.Frag) : Bool := tab.all fun p => xMore.all fun t => decide (PySem.W.kitOne K (.ref (He.ga K p.1)) (.type t) = some false)
theorem xmoreB_ok {K : PySem.W.Frag} {tab : List (Str × String)} (h : xmoreB tab K = true) : XMore K tab := by
  unfold xmoreB at h
  simp only [List.all_eq_true, decide_eq_true_eq] at h
  exact fun p hp t ht => h p hp t ht
def isM : D → Bool
  | .ty t => xMore.contains t
  | _ => false
def bIsiM (tab : List (Str × String)) : List D → Sto → Res R := fun ds S => match ds with
  | [d, .tup cs] => (match exName d with
    | some n => if (inTab tab n && cs.all isM) = true then .ok (.v (.bl false)) S else .bad
    | none => .bad)
  | _ => .bad
theorem isM_ok {K : PySem.W.Frag} {tab : List (Str × String)} {G : Hp} {l : List Addr} {n : Str} (T : XMore K tab) (hn : inTab tab n = true) : ∀ {cs : List D} {vs : List V}, cs.all isM = true → RepL K G l cs vs → ∃ us, Paired ClsV vs us ∧ PySem.W.kitAny K (.ref (He.ga K n)) us = some false
  | [], _, _, r => by
    cases r
    exact ⟨[], .nil, rfl⟩
  | c :: cs, _, h, r => by
    cases r with
    | cons r1 r2 =>
      rw [List.all_cons, Bool.and_eq_true] at h
      obtain ⟨us, u1, u2⟩ := isM_ok T hn h.2 r2
      cases r1 with
      | ty t =>
        obtain ⟨p, hp, rfl⟩ := inTab_mem hn
        have := T p hp t (by simpa [isM] using h.1)
        exact ⟨_, .cons (.ty t) u1, by unfold PySem.W.kitAny; rw [this]; exact u2⟩
      | _ => exact absurd h.1 (fun z => nomatch z)
theorem mb_isiM {X : Cx} {tab : List (Str × String)} (T : XTab X.K tab) (TM : XMore X.K tab) : CallR X (.builtin "isinstance") (rC X.K (bIsiM tab)) := CallR.imp (call_rE T) fun vs H Q ⟨W, S, ds, r, S', ok, ra, h, q⟩ => by
  unfold bIsiM at h
  split at h
  · rename_i d cs
    cases he : exName d with
    | none => rw [he] at h; cases h
    | some n =>
      rw [he] at h
      have h : (if (inTab tab n && cs.all isM) = true then Res.ok (R.v (.bl false)) S else .bad) = .ok r S' := h
      split at h
      case isFalse => cases h
      rename_i hn
      rw [Bool.and_eq_true] at hn
      cases h
      cases ra with
      | cons r1 r2 =>
        cases r2 with
        | @cons _ cv _ _ r2 r3 =>
          cases r3
          obtain ⟨a, rfl, ea⟩ := ex_at ok r1 he
          have fin := q W H (.bl false) (Ext.refl _ _) ok (.bl false)
          obtain ⟨tp, xs, rfl, g1, g2⟩ := r2.tup_inv
          obtain ⟨us, u1, u2⟩ := isM_ok TM hn.1 hn.2 g2
          exact ⟨a, n, .ref tp, false, rfl, hn.1, ea, .inr ⟨tp, xs, us, rfl, ok.sub _ _ g1, u1, u2⟩, fin⟩
  · cases h
end MP

namespace MP
variable {EX : L2.XK}
open PySem PySem.Spec PyProof.Rows L2
section
variable {X : Cx} {newId initId Bn : String} {bm : List Value} {Bs sf ar fl s1 : Str} {k1 : Nat} {q1 q2 q3 q4 q5 q6 q7 q8 q9 r1 r2 r3 r4 : Pos}
theorem init_runR (BF : BaseF Bn newId initId bm) (hB : Bs = Str.ofString Bn) (hg : Gl X Bs) (hm : X.mg Bs = none) (hfind : PySem.W.findCls X.K (.type Bn) (.type "type") "__init__" = some (.val (.builtin initId)))
    (h0 : X.N[0]? = some sf) (h1 : X.N[1]? = some ar) (v0 : Vis X.env.scope sf) (v1 : Vis X.env.scope ar) (d0 : (sf == ("__debug__" : Str)) = false) (d1 : (ar == ("__debug__" : Str)) = false) (c0 : (sf == ("__classdict__" : Str)) = false) (c1 : (ar == ("__classdict__" : Str)) = false)
    (l1 : s1.length ≤ 1000)
    {pl : Sem Bool} (hcl : eval (.Call (.Attribute (.Name Bs q1) "__init__" q2) (.Name sf q3 :: [.JoinedStr [.Constant (.str s1) k1 q4, .FormattedValue (.Name ar q5) 114 none q6] q7]) [] q8) X.env = (do
      let ov ← eval (.Name Bs q1) X.env
      standAt q2.atName
      let (fv, fst) ← holding [ov] (getMethod ov "__init__" pl)
      callWith q8 fv fst (backTo q8 (starEach (.Name sf q3 :: [.JoinedStr [.Constant (.str s1) k1 q4, .FormattedValue (.Name ar q5) 114 none q6] q7]) X.env)) (backToKw q8 (keywordEach [] X.env))) := by rfl)
    (hs1 : swapsWith (.Call (.Attribute (.Name Bs q1) "__init__" q2) (.Name sf q3 :: [.JoinedStr [.Constant (.str s1) k1 q4, .FormattedValue (.Name ar q5) 114 none q6] q7]) [] q8) none (q9 : Pos).line X.env = pure false := by rfl)
    (hs2 : swapsWith (.Name ar r3) (some (.Attribute (.Name sf r1) fl r2)) (r4 : Pos).line X.env = pure false := by rfl) :
    PSs X [.Expr (.Call (.Attribute (.Name Bs q1) "__init__" q2) (.Name sf q3 :: [.JoinedStr [.Constant (.str s1) k1 q4, .FormattedValue (.Name ar q5) 114 none q6] q7]) [] q8) q9, .Assign [.Attribute (.Name sf r1) fl r2] (.Name ar r3) r4] (tIG X.K newId bm fl FmtR) := by
  have e1 := pe_joined (pos := q7) (PJ.cons (pe_str (x := s1) (j := k1) (pos := q4)) (PJ.cons (pe_fmtR (pos := q6) (pe_var (pos := q5) h1 v1 d1 c1)) .nil))
  have e2 := pe_iniG (p1 := q1) (p2 := q2) (pos := q8) (pl := pl) BF hB hg hm hfind (pa_cons (pe_var (pos := q3) h0 v0 d0 c0) (pa_cons e1 pa_nil)) hcl
  have e3 := ps_fldG (p' := r2) (pos := r4) (f := fl) BF (pe_var (pos := r1) h0 v0 d0 c0) (pe_var (pos := r3) h1 v1 d1 c1) hs2
  refine PSs.imp (pss_cons (ps_expr e2 hs1) (pss_one e3)) fun D σ H ⟨a, C, v, g0, g1, T, hno, ea, fo, q⟩ => ?_
  obtain ⟨y, rfl, hy⟩ := fo
  refine ⟨.ref a, g0, ?_⟩
  refine ⟨s1, rfl, Nat.le_trans (str_cat (a := 0) (b := 1000) (Nat.le_of_eq rfl) l1) (by rw [sizeLine_eq]; omega), .str y, g1, .inl ⟨y, rfl, by rw [sizeLine_eq]; omega, ?_⟩⟩
  have l2 : ((Str.empty ++ s1) ++ reprText y).length ≤ 22000 := Nat.le_trans (str_cat (str_cat (a := 0) (b := 1000) (Nat.le_of_eq rfl) l1) hy) (by omega)
  refine ⟨reprText y, rfl, Nat.le_trans l2 (by rw [sizeLine_eq]; omega), ?_⟩
  refine ⟨a, C, [.str ((Str.empty ++ s1) ++ reprText y)], rfl, (show 1 ≤ 1000 by decide), T, ea, ?_⟩
  exact ⟨.str y, g1, .ref a, g0, a, C, rfl, T, hno, ea, fun dx n ne => q dx n ne⟩
end
end MP

namespace MP
open PySem PySem.Spec PyProof.Rows L2

def b__law_book_v0 (C : Calls) : DS :=
  (dSeqS
  (dSet 2 (dOp fIx (fz (dCall C 228 (dCons (dVar 0) (dCons (dVar 1) dNil)))) (dC (.int 2))))
  (dRet (dIfR (dB (fz (dOp fEq (fz (dCall C 238 (dCons (dVar 0) (dCons (dC (.int 2)) dNil)))) (dC (.int 0))))) (dCall C 220 (dCons (dVar 0) (dCons (dVar 2) dNil))) (rv (dVar 2)))))
def q__law_book_v0 : FD := ⟨"_law_book", 2, 3, b__law_book_v0⟩
abbrev i__law_book_v0 : Nat := 15

def b__law_bounds_v0 (C : Calls) : DS :=
  (dSeqS
  (dPar [2, 3] (rCons (rv (dC (.int 0))) (rCons (dOp fSub (fz (dOp fIx (dBVar 0) (dC (.int 1)))) (dC (.int 1))) rNil)))
  (dSeqS
  (dFor (dSeq (fz (dOp fIx (dBVar 0) (dC (.int 2))))) (.tp [(.nm 4), (.nm 5), (.nm 6)]) (dSeqS
  (dIfS (dAndT (dB (fz (dOp fEq (dBVar 5) (dC (.str "end"))))) (dB (fz (dOp fEq (dBVar 6) (dBVar 1))))) (dSet 2 (dBlt bMax2 (dCons (dBVar 2) (dCons (fz (dOp fAdd (dBVar 4) (dC (.int 1)))) dNil)))) dSkip)
  (dIfS (dAndT (dB (fz (dOp fEq (dBVar 5) (dC (.str "closed"))))) (dB (fz (dOp fEq (dBVar 6) (dBVar 1))))) (dPar [2, 3] (rCons (dBlt bMax2 (dCons (dBVar 2) (dCons (dBVar 4) dNil))) (rCons (dBlt bMin2 (dCons (dBVar 3) (dCons (dBVar 4) dNil))) rNil))) dSkip)))
  (dRet (rv (dTup (dCons (dVar 2) (dCons (dVar 3) dNil)))))))
def q__law_bounds_v0 : FD := ⟨"_law_bounds", 2, 7, b__law_bounds_v0⟩
abbrev i__law_bounds_v0 : Nat := 22

def b__law_box (C : Calls) : DS :=
  (dSeqS
  (dSet 2 (dCall C 28 (dCons (dVar 0) (dCons (dVar 1) dNil))))
  (dRet (dLst (dCons (fz (dOp fMul (fz (dBlt bAbs (dCons (dBVar 2) dNil))) (fz (dBlt bInt (dCons (fz (dOp fGe (fz (dBlt bAbs (dCons (dBVar 2) dNil))) (fz (dOp fPow (dC (.int 10)) (dC (.int 18)))))) dNil))))) (dCons (fz (dOp fAdd (fz (dOp fAdd (fz (dOp fMod (dBVar 2) (dC (.int 2305843009213693951)))) (fz (dOp fMul (dC (.int 39373)) (dBVar 1))))) (dC (.int 29)))) (dCons (dC (.int 0)) dNil))))))
def q__law_box : FD := ⟨"_law_box", 2, 3, b__law_box⟩
abbrev i__law_box : Nat := 24

def b__law_cell_at (C : Calls) : DS :=
  (dSeqS
  (dIfS (dB (fz (dOp fLt (dBVar 1) (fz (dBlt bLen (dCons (dBVar 0) dNil)))))) (dRet (dOp fIx (dBVar 0) (dBVar 1))) dSkip)
  (dRet (rv (dC (.int 0)))))
def q__law_cell_at : FD := ⟨"_law_cell_at", 2, 2, b__law_cell_at⟩
abbrev i__law_cell_at : Nat := 28

def b__law_deed (C : Calls) : DS :=
  (dSeqS
  (dUnp (.tp [(.nm 4), (.nm 5)]) (dVar 2))
  (dSeqS
  (dPar [6, 7] (rCons (dCall C 238 (dCons (dVar 0) (dCons (dC (.int 14)) dNil))) (rCons (dCall C 143 (dCons (dVar 1) (dCons (dVar 4) dNil))) rNil)))
  (dSeqS
  (dPar [8, 9] (rCons (dOp fSub (fz (dCall C 238 (dCons (dVar 0) (dCons (fz (dOp fAdd (fz (dOp fIx (dBVar 1) (dC (.int 0)))) (dC (.int 2)))) dNil)))) (dC (.int 1))) (rCons (dBlt bLen (dCons (dBVar 4) dNil)) rNil)))
  (dSeqS
  (dIfS (dB (fz (dOp fLt (dBVar 6) (dC (.int 5))))) (dFrz 7 (dRet (rv (dTup (dCons (dC (.str "close")) (dCons (dIf (dAndT (dB (fz (dOp fNe (dBVar 7) (fz (dLst dNil))))) (dB (fz (dOp fGt (fz (dCall C 238 (dCons (dVar 0) (dCons (dC (.int 5)) dNil)))) (dC (.int 0)))))) (fz (dCall C 110 (dCons (dVar 0) (dCons (dVar 7) dNil)))) (dVar 8)) dNil)))))) dSkip)
  (dSeqS
  (dIfS (dB (fz (dOp fLt (dBVar 6) (dC (.int 7))))) (dSeqS
  (dPar [3, 12] (rCons (dLst dNil) (rCons (rv (dVar 4)) rNil)))
  (dSeqS
  (dFor (dRange1 (fz (dCall C 238 (dCons (dVar 0) (dCons (dC (.int 4)) dNil))))) (.nm 10) (dSeqS
  (dSet 13 (dCall C 143 (dCons (dVar 1) (dCons (dVar 12) dNil))))
  (dIfS (dB (fz (dOp fNe (dBVar 13) (fz (dLst dNil))))) (dSeqS
  (dFrz 13 (dMut1 3 fApp (fz (dCall C 110 (dCons (dVar 0) (dCons (dVar 13) dNil))))))
  (dSet 12 (dOp fAdd (dBVar 12) (dTup (dCons (fz (dOp fIx (dBVar 3) (fz (dUn fNeg (dC (.int 1)))))) dNil))))) dSkip)))
  (dFrz 3 (dRet (rv (dTup (dCons (dC (.str "close_all")) (dCons (dIf (dB (fz (dOp fGt (fz (dCall C 238 (dCons (dVar 0) (dCons (dC (.int 4)) dNil)))) (dC (.int 0))))) (dVar 3) (fz (dOp fAdd (dBVar 3) (fz (dLst (dCons (dVar 8) dNil)))))) dNil)))))))) dSkip)
  (dSeqS
  (dIfS (dB (fz (dOp fLt (dBVar 6) (dC (.int 11))))) (dSeqS
  (dSet 11 (dOp fSub (fz (dCall C 238 (dCons (dVar 0) (dCons (fz (dOp fAdd (dBVar 9) (dC (.int 2)))) dNil)))) (fz (dBlt bInt (dCons (fz (dOp fEq (fz (dCall C 238 (dCons (dVar 0) (dCons (dC (.int 6)) dNil)))) (dC (.int 0)))) dNil)))))
  (dRet (rv (dTup (dCons (dC (.str "note_down")) (dCons (dVar 11) (dCons (fz (dCall C 110 (dCons (dVar 0) (dCons (fz (dLst (dCons (dC (.str "end")) (dCons (dC (.str "end")) (dCons (dC (.str "closed")) dNil))))) dNil)))) dNil))))))) dSkip)
  (dSeqS
  (dSet 3 (dOp fAdd (fz (dLst (dCons (dTup (dCons (dC (.int 0)) (dCons (dC (.str "end")) (dCons (dC (.int 0)) dNil)))) (dCons (dTup (dCons (fz (dCall C 238 (dCons (dVar 0) (dCons (dC (.int 14)) dNil)))) (dCons (dC (.str "closed")) (dCons (fz (dCall C 238 (dCons (dVar 0) (dCons (dC (.int 14)) dNil)))) dNil)))) dNil)))) (fz (dOp fMul (fz (dBlt bList (dCons (dBVar 5) dNil))) (dC (.int 3))))))
  (dFrz 3 (dRet (rv (dTup (dCons (dC (.str "forget")) (dCons (fz (dCall C 110 (dCons (dVar 0) (dCons (dVar 3) dNil)))) dNil)))))))))))))
def q__law_deed : FD := ⟨"_law_deed", 3, 14, b__law_deed⟩
abbrev i__law_deed : Nat := 33

def b__law_far (C : Calls) : DS :=
  (dRet (dBlt bSum (dCons (fz (dComp (dSeq (fz (dCall C 207 (dCons (dVar 0) (dCons (dVar 1) dNil))))) [2] (.nm 2) dYes (fz (dOp fSub (fz (dBlt bLen (dCons (dBVar 2) dNil))) (dC (.int 1)))))) dNil)))
def q__law_far : FD := ⟨"_law_far", 2, 3, b__law_far⟩
abbrev i__law_far : Nat := 50

def b__law_fits_k05 (C : Calls) : DS :=
  (dSeqS
  (dFor (dSeq (fz (dOp fIx (dBVar 0) (dC (.int 2))))) (.tp [(.nm 2), (.nm 3), (.nm 4)]) (dIfS (dOrT (dAndT (dB (fz (dOp fEq (dBVar 3) (dC (.str "closed"))))) (dB (fz (dOp fNe (fz (dOp fIx (dBVar 1) (dBVar 2))) (dBVar 4))))) (dAndT (dB (fz (dOp fEq (dBVar 3) (dC (.str "end"))))) (dB (fz (dOp fIn (dBVar 4) (fz (dSl (dBVar 1) oNone (oSome (fz (dOp fAdd (dBVar 2) (dC (.int 1)))))))))))) (dRet (rv (dC (.bl false)))) dSkip))
  (dRet (rv (dC (.bl true)))))
def q__law_fits_k05 : FD := ⟨"_law_fits", 2, 5, b__law_fits_k05⟩
abbrev i__law_fits_k05 : Nat := 58

def b__law_is_int (C : Calls) : DS :=
  (dRet (rv (dAnd (fz (dBlt bIsi (dCons (dBVar 0) (dCons (dC (.ty "int")) dNil)))) (dNot (fz (dBlt bIsi (dCons (dBVar 0) (dCons (dC (.ty "bool")) dNil))))))))
def q__law_is_int : FD := ⟨"_law_is_int", 1, 1, b__law_is_int⟩
abbrev i__law_is_int : Nat := 71

def b__law_led (C : Calls) : DS :=
  (dSeqS
  (dFor (dSeq (dVar 2)) (.tp [(.nm 3), (.nm 4)]) (dSeqS
  (dIfS (dNotT (dB (dChain3 fLe fLt fLt (dC (.int 0)) (dBVar 3) (dBVar 4) (fz (dBlt bLen (dCons (dBVar 1) dNil)))))) (dRet (rv (dC .non))) dSkip)
  (dSeqS
  (dSet 1 (dCall C 261 (dCons (dVar 1) (dCons (dVar 3) (dCons (dVar 4) dNil)))))
  (dIfS (dNotT (dB (fz (dCall C 58 (dCons (dVar 0) (dCons (dVar 1) dNil)))))) (dRet (rv (dC .non))) dSkip))))
  (dRet (dMv 1)))
def q__law_led : FD := ⟨"_law_led", 3, 5, b__law_led⟩
abbrev i__law_led : Nat := 81

def b__law_lists (C : Calls) : DS :=
  (dRet (dIfR (dB (fz (dBlt bIsi (dCons (dBVar 0) (dCons (dTup (dCons (dC (.ty "list")) (dCons (dC (.ty "tuple")) dNil))) dNil))))) (dComp (dSeq (dBVar 0)) [1] (.nm 1) dYes (fz (dCall C 87 (dCons (dVar 1) dNil)))) (rv (dVar 0))))
def q__law_lists : FD := ⟨"_law_lists", 1, 2, b__law_lists⟩
abbrev i__law_lists : Nat := 87

def b__law_mates (C : Calls) : DS :=
  (dRet (dComp (dSeq (dBVar 0)) [2, 3] (.tp [(.nm 2), (.nm 3)]) (dB (fz (dOp fIn (dBVar 1) (dTup (dCons (dVar 2) (dCons (dVar 3) dNil)))))) (dIf (dB (fz (dOp fEq (dBVar 2) (dBVar 1)))) (dVar 3) (dVar 2))))
def q__law_mates : FD := ⟨"_law_mates", 2, 4, b__law_mates⟩
abbrev i__law_mates : Nat := 90

def b__law_notes_v0 (C : Calls) : DS :=
  (dSeqS
  (dPar [4, 5] (rCons (dLst dNil) (rCons (dOp fAdd (dC (.int 1)) (fz (dCall C 238 (dCons (dVar 0) (dCons (dC (.int 4)) dNil))))) rNil)))
  (dSeqS
  (dFor (dRange1 (fz (dBlt bLen (dCons (dBVar 1) dNil)))) (.nm 3) (dSeqS
  (dIfS (dB (fz (dOp fEq (fz (dCall C 238 (dCons (dVar 0) (dCons (dC (.int 8)) dNil)))) (dC (.int 0))))) (dMut1 4 fApp (dTup (dCons (dVar 3) (dCons (dC (.str "closed")) (dCons (fz (dOp fIx (dBVar 1) (dBVar 3))) dNil))))) dSkip)
  (dIfS (dB (fz (dOp fLt (fz (dCall C 238 (dCons (dVar 0) (dCons (dC (.int 5)) dNil)))) (dBVar 5)))) (dMut1 4 fApp (dTup (dCons (dVar 3) (dCons (dC (.str "end")) (dCons (fz (dOp fIx (dBVar 2) (dBVar 3))) dNil))))) dSkip)))
  (dRet (dBlt bTuple (dCons (dBVar 4) dNil)))))
def q__law_notes_v0 : FD := ⟨"_law_notes", 3, 6, b__law_notes_v0⟩
abbrev i__law_notes_v0 : Nat := 107

def b__law_of (C : Calls) : DS :=
  (dRet (dOp fIx (dBVar 1) (fz (dCall C 238 (dCons (dVar 0) (dCons (fz (dBlt bLen (dCons (dBVar 1) dNil))) dNil))))))
def q__law_of : FD := ⟨"_law_of", 2, 2, b__law_of⟩
abbrev i__law_of : Nat := 110

def b__law_open_links (C : Calls) : DS :=
  (dRet (dComp (dSeq (fz (dOp fIx (dBVar 0) (dC (.int 1))))) [2] (.nm 2) (dNotT (dB (fz (dBlt bAny (dCons (fz (dComp (dSeq (dBVar 2)) [3] (.nm 3) dYes (fz (dOp fIn (dBVar 3) (dBVar 1))))) dNil))))) (dVar 2)))
def q__law_open_links : FD := ⟨"_law_open_links", 2, 4, b__law_open_links⟩
abbrev i__law_open_links : Nat := 116

def b__law_orders_v0 (C : Calls) : DS :=
  (dRet (dComp (dSeq (fz (dCall C 211 (dCons (dVar 0) dNil)))) [1] (.nm 1) (dB (fz (dCall C 58 (dCons (dVar 0) (dCons (dVar 1) dNil))))) (dVar 1)))
def q__law_orders_v0 : FD := ⟨"_law_orders", 1, 2, b__law_orders_v0⟩
abbrev i__law_orders_v0 : Nat := 119

def b__law_pair_of (C : Calls) : DS :=
  (dSeqS
  (dUnp (.tp [(.nm 2), (.nm 3), (.nm 4)]) (fz (dCall C 228 (dCons (dVar 0) (dCons (dVar 1) dNil)))))
  (dRet (rv (dTup (dCons (dVar 4) (dCons (dVar 2) (dCons (fz (dOp fIx (fz (dCall C 268 (dCons (dVar 0) (dCons (dVar 4) (dCons (dVar 2) (dCons (dC (.int 7)) dNil)))))) (dC (.int 0)))) dNil)))))))
def q__law_pair_of : FD := ⟨"_law_pair_of", 2, 5, b__law_pair_of⟩
abbrev i__law_pair_of : Nat := 126

def b__law_part_of (C : Calls) : DS :=
  (dSeqS
  (dPar [2, 3] (rCons (rv (dVar 0)) (rCons (rv (dVar 1)) rNil)))
  (dSeqS
  (dWhile (dB (fz (dOp fGt (dBVar 3) (dC (.int 0))))) (dPar [2, 3] (rCons (rv (dVar 3)) (rCons (dOp fMod (dBVar 2) (dBVar 3)) rNil))))
  (dRet (rv (dTup (dCons (fz (dOp fDiv (dBVar 0) (dBVar 2))) (dCons (fz (dOp fDiv (dBVar 1) (dBVar 2))) dNil)))))))
def q__law_part_of : FD := ⟨"_law_part_of", 2, 4, b__law_part_of⟩
abbrev i__law_part_of : Nat := 129

def b__law_proofs_v0 (C : Calls) : DS :=
  (dSeqS
  (dPar [3, 4] (rCons (dComp (dRange1 (fz (dOp fIx (dBVar 0) (dC (.int 0))))) [5] (.nm 5) dYes (fz (dCall C 22 (dCons (dVar 0) (dCons (dVar 5) dNil))))) (rCons (dLst dNil) rNil)))
  (dSeqS
  (dSet 1 (dComp (dSeq (fz (dOp fIx (dBVar 0) (dC (.int 2))))) [2, 8, 9] (.tp [(.nm 2), (.nm 8), (.nm 9)]) (dB (fz (dOp fEq (dBVar 8) (dC (.str "closed"))))) (dVar 9)))
  (dSeqS
  (dFrz 3 (dFor (dEnum (dVar 3)) (.tp [(.nm 5), (.tp [(.nm 6), (.nm 7)])]) (dIfS (dAndT (dB (fz (dOp fIn (dBVar 5) (dBVar 1)))) (dB (fz (dOp fGt (dBVar 6) (dBVar 7))))) (dMut1 4 fApp (dTup (dCons (dC (.str "never")) (dCons (dVar 5) dNil)))) dSkip)))
  (dSeqS
  (dFor (dRange1 (fz (dOp fIx (dBVar 0) (dC (.int 1))))) (.nm 2) (dIfS (dB (fz (dOp fLe (fz (dBlt bLen (dCons (fz (dComp (dSeq (dBVar 3)) [6, 7] (.tp [(.nm 6), (.nm 7)]) (dAndT (dB (fz (dOp fLe (dBVar 6) (dBVar 7)))) (dB (fz (dOp fLe (dBVar 6) (dBVar 2))))) (dVar 6))) dNil))) (dBVar 2)))) (dMut1 4 fApp (dTup (dCons (dC (.str "few")) (dCons (dVar 2) dNil)))) dSkip))
  (dRet (dMv 4))))))
def q__law_proofs_v0 : FD := ⟨"_law_proofs", 1, 10, b__law_proofs_v0⟩
abbrev i__law_proofs_v0 : Nat := 137

def b__law_queue (C : Calls) : DS :=
  (dRet (dBlt bTuple (dCons (fz (dSl (fz (dCall C 230 (dCons (dVar 0) (dCons (fz (dMkL (dRange1 (dVar 1)))) dNil)))) oNone (oSome (dVar 2)))) dNil)))
def q__law_queue : FD := ⟨"_law_queue", 3, 3, b__law_queue⟩
abbrev i__law_queue : Nat := 140

def b__law_ready (C : Calls) : DS :=
  (dSeqS
  (dSet 2 (dCall C 116 (dCons (dVar 0) (dCons (dVar 1) dNil))))
  (dFrz 2 (dRet (dComp (dRange1 (fz (dOp fIx (dBVar 0) (dC (.int 0))))) [3] (.nm 3) (dB (fz (dOp fEq (fz (dBlt bLen (dCons (fz (dCall C 90 (dCons (dVar 2) (dCons (dVar 3) dNil)))) dNil))) (dC (.int 1))))) (dVar 3)))))
def q__law_ready : FD := ⟨"_law_ready", 2, 4, b__law_ready⟩
abbrev i__law_ready : Nat := 143

def b__law_rings (C : Calls) : DS :=
  (dSeqS
  (dPar [2, 3] (rCons (dLst dNil) (rCons (dComp (dRange1 (fz (dBlt bLen (dCons (dBVar 0) dNil)))) [5] (.nm 5) (dB (fz (dOp fNe (fz (dOp fIx (dBVar 0) (dBVar 5))) (fz (dOp fIx (dBVar 1) (dBVar 5)))))) (dVar 5)) rNil)))
  (dSeqS
  (dWhile (dB (fz (dOp fNe (dBVar 3) (fz (dLst dNil))))) (dSeqS
  (dSet 4 (dLst (dCons (fz (dOp fIx (dBVar 3) (dC (.int 0)))) dNil)))
  (dSeqS
  (dWhile (dB (fz (dOp fNe (dIndex (dBVar 1) (fz (dOp fIx (dBVar 0) (fz (dOp fIx (dBVar 4) (fz (dUn fNeg (dC (.int 1))))))))) (fz (dOp fIx (dBVar 4) (dC (.int 0))))))) (dMut1 4 fApp (dIndex (dBVar 1) (fz (dOp fIx (dBVar 0) (fz (dOp fIx (dBVar 4) (fz (dUn fNeg (dC (.int 1)))))))))))
  (dSeqS
  (dMut1 2 fApp (fz (dBlt bTuple (dCons (dBVar 4) dNil))))
  (dSet 3 (dComp (dSeq (dBVar 3)) [5] (.nm 5) (dB (fz (dOp fNotIn (dBVar 5) (dBVar 4)))) (dVar 5)))))))
  (dRet (dMv 2))))
def q__law_rings : FD := ⟨"_law_rings", 2, 6, b__law_rings⟩
abbrev i__law_rings : Nat := 207

def b__law_rows_v0 (C : Calls) : DS :=
  (dSeqS
  (dSet 1 (dLst (dCons (dTup dNil) dNil)))
  (dSeqS
  (dFor (dRange1 (fz (dOp fIx (dBVar 0) (dC (.int 1))))) (.nm 2) (dSeqS
  (dSet 3 (dLst dNil))
  (dSeqS
  (dFrz 1 (dFor (dSeq (dVar 1)) (.nm 4) (dMut1 3 fExt (fz (dComp (dRange1 (fz (dOp fIx (dBVar 0) (dC (.int 0))))) [5] (.nm 5) (dB (fz (dOp fNotIn (dBVar 5) (dBVar 4)))) (fz (dOp fAdd (dBVar 4) (dTup (dCons (dVar 5) dNil)))))))))
  (dFrz 3 (dSet 1 (rv (dVar 3)))))))
  (dRet (dMv 1))))
def q__law_rows_v0 : FD := ⟨"_law_rows", 1, 6, b__law_rows_v0⟩
abbrev i__law_rows_v0 : Nat := 211

def b__law_same_v0 (C : Calls) : DS :=
  (dSeqS
  (dIfS (dB (fz (dBlt bIsi (dCons (dBVar 1) (dCons (dTup (dCons (dC (.ty "list")) (dCons (dC (.ty "tuple")) dNil))) dNil))))) (dSeqS
  (dIfS (dOrT (dB (fz (dOp fNe (fz (dBlt bIsi (dCons (dBVar 0) (dCons (dC (.ty "list")) dNil)))) (fz (dBlt bIsi (dCons (dBVar 1) (dCons (dC (.ty "list")) dNil))))))) (dB (fz (dOp fNe (fz (dBlt bIsi (dCons (dBVar 0) (dCons (dC (.ty "tuple")) dNil)))) (fz (dBlt bIsi (dCons (dBVar 1) (dCons (dC (.ty "tuple")) dNil)))))))) (dRet (rv (dC (.bl false)))) dSkip)
  (dRet (rv (dAnd (fz (dOp fEq (fz (dBlt bLen (dCons (dBVar 0) dNil))) (fz (dBlt bLen (dCons (dBVar 1) dNil))))) (fz (dBlt bAll (dCons (fz (dComp (dZip (dVar 0) (dVar 1)) [2, 3] (.tp [(.nm 2), (.nm 3)]) dYes (fz (dCall C 213 (dCons (dVar 2) (dCons (dVar 3) dNil)))))) dNil))))))) dSkip)
  (dSeqS
  (dIfS (dOrT (dB (fz (dOp fIsN (dBVar 1) (dC .non)))) (dB (fz (dBlt bIsi (dCons (dBVar 1) (dCons (dTup (dCons (dC (.ty "bool")) (dCons (dC (.ty "str")) dNil))) dNil)))))) (dRet (rv (dAnd (fz (dOp fEq (dBVar 0) (dBVar 1))) (dAnd (fz (dOp fEq (fz (dBlt bIsi (dCons (dBVar 0) (dCons (dC (.ty "bool")) dNil)))) (fz (dBlt bIsi (dCons (dBVar 1) (dCons (dC (.ty "bool")) dNil)))))) (fz (dOp fEq (fz (dOp fIsN (dBVar 0) (dC .non))) (fz (dOp fIsN (dBVar 1) (dC .non))))))))) dSkip)
  (dRet (rv (dAnd (fz (dBlt bIsi (dCons (dBVar 0) (dCons (dC (.ty "int")) dNil)))) (dAnd (dNot (fz (dBlt bIsi (dCons (dBVar 0) (dCons (dC (.ty "bool")) dNil))))) (fz (dOp fEq (dBVar 0) (dBVar 1)))))))))
def q__law_same_v0 : FD := ⟨"_law_same", 2, 4, b__law_same_v0⟩
abbrev i__law_same_v0 : Nat := 213

def b__law_shut_v1 (C : Calls) : DS :=
  (dSeqS
  (dPar [4, 5, 6] (rCons (dBlt bList (dCons (fz (dOp fIx (dBVar 1) (dC (.int 1)))) dNil)) (rCons (dLst dNil) (rCons (dLst dNil) rNil))))
  (dSeqS
  (dFor (dRange1 (dVar 2)) (.nm 3) (dSeqS
  (dFrz 4 (dSet 7 (dComp (dRange1 (fz (dOp fIx (dBVar 1) (dC (.int 0))))) [8] (.nm 8) (dB (fz (dOp fEq (fz (dBlt bLen (dCons (fz (dCall C 90 (dCons (dVar 4) (dCons (dVar 8) dNil)))) dNil))) (dC (.int 1))))) (dVar 8))))
  (dSeqS
  (dFrz 7 (dMut1 5 fApp (fz (dCall C 110 (dCons (dVar 0) (dCons (dVar 7) dNil))))))
  (dSeqS
  (dFrz 4 (dMut1 6 fApp (fz (dOp fIx (fz (dCall C 90 (dCons (dVar 4) (dCons (fz (dOp fIx (dBVar 5) (fz (dUn fNeg (dC (.int 1)))))) dNil)))) (dC (.int 0))))))
  (dSet 4 (dComp (dSeq (dBVar 4)) [9] (.nm 9) (dB (fz (dOp fNotIn (fz (dOp fIx (dBVar 5) (fz (dUn fNeg (dC (.int 1)))))) (dBVar 9)))) (dVar 9)))))))
  (dRet (rv (dTup (dCons (fz (dBlt bTuple (dCons (dBVar 5) dNil))) (dCons (fz (dBlt bTuple (dCons (dBVar 6) dNil))) dNil)))))))
def q__law_shut_v1 : FD := ⟨"_law_shut", 3, 10, b__law_shut_v1⟩
abbrev i__law_shut_v1 : Nat := 218

def b__law_spoilt_v0 (C : Calls) : DS :=
  (dSeqS
  (dUnp (.tp [(.nm 4), (.nm 5), (.nm 6)]) (dVar 1))
  (dSeqS
  (dSet 2 dNewT)
  (dSeqS
  (dFor (dSeq (dVar 6)) (.tp [(.nm 7), (.nm 8), (.nm 9)]) (dPutD 2 (dTup (dCons (dVar 7) (dCons (dVar 8) dNil))) (dVar 9)))
  (dSeqS
  (dFor (dRange1 (fz (dOp fMul (fz (dOp fAdd (dC (.int 1)) (fz (dCall C 238 (dCons (dVar 0) (dCons (dC (.int 4)) dNil)))))) (fz (dBlt bInt (dCons (fz (dOp fGt (dBVar 5) (dC (.int 0)))) dNil)))))) (.nm 3) (dPutD 2 (dTup (dCons (fz (dCall C 238 (dCons (dVar 0) (dCons (dVar 5) dNil)))) (dCons (fz (dCall C 110 (dCons (dVar 0) (dCons (fz (dLst (dCons (dC (.str "end")) (dCons (dC (.str "closed")) (dCons (dC (.str "closed")) dNil))))) dNil)))) dNil))) (fz (dCall C 238 (dCons (dVar 0) (dCons (dVar 4) dNil))))))
  (dRet (rv (dTup (dCons (dVar 4) (dCons (dVar 5) (dCons (fz (dBlt bTuple (dCons (fz (dBlt bSorted (dCons (fz (dLk 2 (dComp (dKeys (dBVar 2)) [7, 8] (.tp [(.nm 7), (.nm 8)]) dYes (dTup (dCons (dVar 7) (dCons (dVar 8) (dCons (fz (dOp fIx (dBVar 2) (dTup (dCons (dVar 7) (dCons (dVar 8) dNil))))) dNil))))))) dNil))) dNil))) dNil))))))))))
def q__law_spoilt_v0 : FD := ⟨"_law_spoilt", 2, 10, b__law_spoilt_v0⟩
abbrev i__law_spoilt_v0 : Nat := 220

def b__law_story_v0 (C : Calls) : DS :=
  (dSeqS
  (dSet 2 (dOp fAdd (dC (.int 1)) (fz (dCall C 238 (dCons (dVar 0) (dCons (dVar 1) dNil))))))
  (dSeqS
  (dSet 3 (dIfR (dB (fz (dOp fEq (fz (dCall C 238 (dCons (dVar 0) (dCons (dC (.int 2)) dNil)))) (dC (.int 0))))) (dOp fSub (dBVar 2) (dC (.int 1))) (dCall C 238 (dCons (dVar 0) (dCons (dVar 2) dNil)))))
  (dSeqS
  (dUnp (.tp [(.nm 4), (.nm 5)]) (fz (dCall C 218 (dCons (dVar 0) (dCons (fz (dCall C 274 (dCons (dVar 0) (dCons (dVar 2) dNil)))) (dCons (dVar 3) dNil))))))
  (dRet (rv (dTup (dCons (dVar 4) (dCons (dVar 5) (dCons (dTup (dCons (dVar 2) (dCons (dVar 3) (dCons (fz (dCall C 107 (dCons (dVar 0) (dCons (dVar 4) (dCons (dVar 5) dNil))))) dNil)))) dNil)))))))))
def q__law_story_v0 : FD := ⟨"_law_story", 2, 6, b__law_story_v0⟩
abbrev i__law_story_v0 : Nat := 228

def b__law_strewn (C : Calls) : DS :=
  (dSeqS
  (dPar [2, 3] (rCons (dBlt bList (dCons (dBVar 1) dNil)) (rCons (dLst dNil) rNil)))
  (dSeqS
  (dWhile (dB (fz (dOp fNe (dBVar 2) (fz (dLst dNil))))) (dAppPop 3 2 (fz (dCall C 238 (dCons (dVar 0) (dCons (fz (dBlt bLen (dCons (dBVar 2) dNil))) dNil))))))
  (dRet (dMv 3))))
def q__law_strewn : FD := ⟨"_law_strewn", 2, 4, b__law_strewn⟩
abbrev i__law_strewn : Nat := 230

def b__law_sum_of (C : Calls) : DS :=
  (dSeqS
  (dUnp (.tp [(.nm 2), (.nm 3)]) (dTup (dCons (dC (.int 0)) (dCons (dC (.int 1)) dNil))))
  (dSeqS
  (dFor (dSeq (dVar 0)) (.nm 1) (dPar [2, 3] (rCons (dOp fAdd (fz (dOp fMul (dBVar 2) (fz (dOp fIx (dBVar 1) (dC (.int 1)))))) (fz (dOp fMul (fz (dOp fIx (dBVar 1) (dC (.int 0)))) (dBVar 3)))) (rCons (dOp fMul (dBVar 3) (fz (dOp fIx (dBVar 1) (dC (.int 1))))) rNil))))
  (dRet (dCall C 129 (dCons (dVar 2) (dCons (dVar 3) dNil))))))
def q__law_sum_of : FD := ⟨"_law_sum_of", 1, 4, b__law_sum_of⟩
abbrev i__law_sum_of : Nat := 231

def b__law_swaps (C : Calls) : DS :=
  (dSeqS
  (dSet 2 (dLst dNil))
  (dSeqS
  (dFor (dRange1 (fz (dBlt bLen (dCons (dBVar 1) dNil)))) (.nm 3) (dMut1 2 fExt (fz (dComp (dRange2 (fz (dOp fAdd (dBVar 3) (dC (.int 1)))) (fz (dBlt bLen (dCons (dBVar 1) dNil)))) [4] (.nm 4) (dB (fz (dCall C 58 (dCons (dVar 0) (dCons (fz (dCall C 261 (dCons (dVar 1) (dCons (dVar 3) (dCons (dVar 4) dNil))))) dNil))))) (dTup (dCons (dVar 3) (dCons (dVar 4) dNil)))))))
  (dRet (dMv 2))))
def q__law_swaps : FD := ⟨"_law_swaps", 2, 5, b__law_swaps⟩
abbrev i__law_swaps : Nat := 235

def b__law_take (C : Calls) : DS :=
  (dSeqS
  (dIfS (dB (fz (dOp fGt (fz (dOp fIx (dBVar 0) (dC (.int 0)))) (dC (.int 0))))) (dSeqS
  (dSet 4 (dOp fMod (fz (dOp fIx (dBVar 0) (dC (.int 0)))) (dBVar 1)))
  (dSeqS
  (dPutL 0 (dC (.int 0)) (fz (dOp fDiv (fz (dOp fIx (dBVar 0) (dC (.int 0)))) (dBVar 1))))
  (dRet (dMv 4)))) dSkip)
  (dSeqS
  (dIfS (dB (fz (dOp fGt (dBVar 1) (fz (dOp fPow (dC (.int 10)) (dC (.int 7))))))) (dRet (dOp fMod (fz (dOp fAdd (fz (dCall C 238 (dCons (dVar 0) (dCons (fz (dOp fPow (dC (.int 10)) (dC (.int 7)))) dNil)))) (fz (dOp fMul (fz (dOp fPow (dC (.int 10)) (dC (.int 7)))) (fz (dCall C 238 (dCons (dVar 0) (dCons (fz (dOp fAdd (fz (dOp fDiv (dBVar 1) (fz (dOp fPow (dC (.int 10)) (dC (.int 7)))))) (dC (.int 1)))) dNil)))))))) (dBVar 1))) dSkip)
  (dSeqS
  (dPutL 0 (dC (.int 2)) (fz (dOp fAdd (fz (dOp fIx (dBVar 0) (dC (.int 2)))) (dC (.int 1)))))
  (dSeqS
  (dSet 2 (dOp fMod (fz (dOp fMul (fz (dOp fAdd (fz (dOp fIx (dBVar 0) (dC (.int 1)))) (fz (dOp fMul (dC (.int 48271)) (fz (dOp fIx (dBVar 0) (dC (.int 2)))))))) (fz (dOp fAdd (dC (.int 39373)) (fz (dOp fIx (dBVar 0) (dC (.int 2)))))))) (dC (.int 2147483647))))
  (dSeqS
  (dSet 3 (dOp fMod (fz (dOp fMul (fz (dOp fAdd (fz (dOp fAdd (dBVar 2) (fz (dOp fIx (dBVar 0) (dC (.int 2)))))) (fz (dOp fDiv (fz (dOp fIx (dBVar 0) (dC (.int 1)))) (dC (.int 1000003)))))) (fz (dOp fAdd (fz (dOp fMod (dBVar 2) (dC (.int 40009)))) (dC (.int 7)))))) (dC (.int 2147483629))))
  (dRet (dOp fMod (fz (dOp fDiv (fz (dOp fMod (fz (dOp fAdd (fz (dOp fMul (dBVar 3) (dC (.int 48271)))) (dBVar 2))) (dC (.int 2147483587)))) (dC (.int 64)))) (dBVar 1))))))))
def q__law_take : FD := ⟨"_law_take", 2, 5, b__law_take⟩
abbrev i__law_take : Nat := 238

def b__law_tale (C : Calls) : DS :=
  (dSeqS
  (dSet 2 (dOp fAdd (dC (.int 1)) (fz (dCall C 238 (dCons (dVar 0) (dCons (dVar 1) dNil))))))
  (dSeqS
  (dSet 3 (dIfR (dB (fz (dOp fEq (fz (dCall C 238 (dCons (dVar 0) (dCons (dC (.int 2)) dNil)))) (dC (.int 0))))) (dOp fSub (dBVar 2) (dC (.int 1))) (dCall C 238 (dCons (dVar 0) (dCons (dVar 2) dNil)))))
  (dSeqS
  (dUnp (.tp [(.nm 4), (.nm 5)]) (fz (dCall C 218 (dCons (dVar 0) (dCons (fz (dCall C 274 (dCons (dVar 0) (dCons (dVar 2) dNil)))) (dCons (dVar 3) dNil))))))
  (dRet (rv (dTup (dCons (dVar 4) (dCons (dTup (dCons (dVar 2) (dCons (dVar 3) (dCons (fz (dCall C 107 (dCons (dVar 0) (dCons (dVar 4) (dCons (dVar 5) dNil))))) dNil)))) dNil))))))))
def q__law_tale : FD := ⟨"_law_tale", 2, 6, b__law_tale⟩
abbrev i__law_tale : Nat := 239

def b__law_told_k20 (C : Calls) : DS :=
  (dSeqS
  (dUnp (.tp [(.nm 5), (.nm 6)]) (dTup (dCons (dC .non) (dCons (dC .non) dNil))))
  (dSeqS
  (dTryE 3 5 [("Impossible", "ValueError"), ("Misfit", "ValueError"), ("NoTown", "LookupError"), ("NoTime", "LookupError"), ("NoNumber", "LookupError")] ["Impossible", "Misfit", "NoNumber", "NoTime", "NoTown"] (dSetX 6 (dIfR (only (dB (fz (dOp fEq (dBVar 0) (dC (.str "at")))))) (dCall C 403 (only (dCons (dVar 1) (dCons (dVar 2) dNil)))) (dCall C 401 (only (dCons (dVar 1) (dCons (dVar 2) dNil)))))))
  (dSeqS
  (dIfS (dB (fz (dOp fIsN (dBVar 5) (dC .non)))) (dRet (dMv 6)) dSkip)
  (dSeqS
  (dIfS (dAndT (dB (fz (dBlt (bIsiX [("Impossible", "ValueError"), ("Misfit", "ValueError"), ("NoTown", "LookupError"), ("NoTime", "LookupError"), ("NoNumber", "LookupError")]) (dCons (dBVar 5) (dCons (dC (.cl "NoNumber")) dNil))))) (dNotT (dB (fz (dBlt (bIsiX [("Impossible", "ValueError"), ("Misfit", "ValueError"), ("NoTown", "LookupError"), ("NoTime", "LookupError"), ("NoNumber", "LookupError")]) (dCons (dBVar 5) (dCons (dTup (dCons (dC (.cl "NoTime")) (dCons (dC (.cl "NoTown")) dNil))) dNil))))))) (dRet (dIfR (dB (fz (dBlt (bIsiX [("Impossible", "ValueError"), ("Misfit", "ValueError"), ("NoTown", "LookupError"), ("NoTime", "LookupError"), ("NoNumber", "LookupError")]) (dCons (dBVar 5) (dCons (dC (.ty "LookupError")) dNil))))) (rv (dTup (dCons (dC (.str "no number")) (dCons (dXf [("Impossible", "ValueError"), ("Misfit", "ValueError"), ("NoTown", "LookupError"), ("NoTime", "LookupError"), ("NoNumber", "LookupError")] "number" (dVar 5)) dNil)))) (rv (dC (.str "wrong"))))) dSkip)
  (dSeqS
  (dSet 4 (rv (dAnd (fz (dBlt (bIsiX [("Impossible", "ValueError"), ("Misfit", "ValueError"), ("NoTown", "LookupError"), ("NoTime", "LookupError"), ("NoNumber", "LookupError")]) (dCons (dBVar 5) (dCons (dC (.cl "Misfit")) dNil)))) (dNot (fz (dBlt (bIsiX [("Impossible", "ValueError"), ("Misfit", "ValueError"), ("NoTown", "LookupError"), ("NoTime", "LookupError"), ("NoNumber", "LookupError")]) (dCons (dBVar 5) (dCons (dC (.cl "Impossible")) dNil))))))))
  (dRet (dIfR (dAndT (dB (dVar 4)) (dB (fz (dBlt (bIsiX [("Impossible", "ValueError"), ("Misfit", "ValueError"), ("NoTown", "LookupError"), ("NoTime", "LookupError"), ("NoNumber", "LookupError")]) (dCons (dBVar 5) (dCons (dC (.ty "ValueError")) dNil)))))) (rv (dTup (dCons (dC (.str "misfit")) (dCons (dXf [("Impossible", "ValueError"), ("Misfit", "ValueError"), ("NoTown", "LookupError"), ("NoTime", "LookupError"), ("NoNumber", "LookupError")] "time" (dVar 5)) dNil)))) (rv (dC (.str "wrong"))))))))))
def q__law_told_k20 : FD := ⟨"_law_told", 3, 7, b__law_told_k20⟩
abbrev i__law_told_k20 : Nat := 250

def b__law_turned_v0 (C : Calls) : DS :=
  (dSeqS
  (dSet 3 (dBlt bList (dCons (dBVar 0) dNil)))
  (dSeqS
  (dPut2 3 (dVar 1) (dVar 2) (fz (dOp fIx (dBVar 0) (dBVar 2))) (fz (dOp fIx (dBVar 0) (dBVar 1))))
  (dRet (dBlt bTuple (dCons (dBVar 3) dNil)))))
def q__law_turned_v0 : FD := ⟨"_law_turned", 3, 4, b__law_turned_v0⟩
abbrev i__law_turned_v0 : Nat := 261

def b__law_walked (C : Calls) : DS :=
  (dSeqS
  (dSet 4 (dLst dNil))
  (dSeqS
  (dFor (dRange1 (fz (dCall C 238 (dCons (dVar 0) (dCons (fz (dOp fAdd (dBVar 3) (dC (.int 1)))) dNil))))) (.nm 5) (dSeqS
  (dSet 6 (dCall C 235 (dCons (dVar 1) (dCons (dVar 2) dNil))))
  (dIfS (dB (fz (dOp fNe (dBVar 6) (fz (dLst dNil))))) (dSeqS
  (dFrz 6 (dMut1 4 fApp (fz (dCall C 110 (dCons (dVar 0) (dCons (dVar 6) dNil))))))
  (dSet 2 (dCall C 261 (dCons (dVar 2) (dCons (fz (dOp fIx (fz (dOp fIx (dBVar 4) (fz (dUn fNeg (dC (.int 1)))))) (dC (.int 0)))) (dCons (fz (dOp fIx (fz (dOp fIx (dBVar 4) (fz (dUn fNeg (dC (.int 1)))))) (dC (.int 1)))) dNil)))))) dSkip)))
  (dFrz 4 (dRet (rv (dTup (dCons (dVar 2) (dCons (dVar 4) dNil))))))))
def q__law_walked : FD := ⟨"_law_walked", 4, 7, b__law_walked⟩
abbrev i__law_walked : Nat := 268

def b__law_wood_v0 (C : Calls) : DS :=
  (dSeqS
  (dPar [3, 4, 5] (rCons (dCall C 230 (dCons (dVar 0) (dCons (fz (dMkL (dRange1 (dVar 1)))) dNil))) (rCons (dLst dNil) (rCons (dCall C 238 (dCons (dVar 0) (dCons (dC (.int 3)) dNil))) rNil))))
  (dSeqS
  (dFor (dRange2 (dC (.int 1)) (dVar 1)) (.nm 2) (dSeqS
  (dSet 6 (dIfR (dB (fz (dOp fGt (dBVar 5) (dC (.int 0))))) (dCall C 238 (dCons (dVar 0) (dCons (dVar 2) dNil))) (dBlt bMax2 (dCons (dC (.int 0)) (dCons (fz (dOp fSub (fz (dOp fSub (dBVar 2) (dC (.int 1)))) (fz (dCall C 238 (dCons (dVar 0) (dCons (dC (.int 2)) dNil)))))) dNil)))))
  (dMut1 4 fApp (fz (dBlt bTuple (dCons (fz (dBlt bSorted (dCons (fz (dLst (dCons (fz (dOp fIx (dBVar 3) (dBVar 2))) (dCons (fz (dOp fIx (dBVar 3) (dBVar 6))) dNil)))) dNil))) dNil))))))
  (dRet (rv (dTup (dCons (dVar 1) (dCons (fz (dBlt bTuple (dCons (fz (dBlt bSorted (dCons (dBVar 4) dNil))) dNil))) dNil)))))))
def q__law_wood_v0 : FD := ⟨"_law_wood", 2, 7, b__law_wood_v0⟩
abbrev i__law_wood_v0 : Nat := 274

def b__wall (C : Calls) : DS :=
  (dWhile (dB (dC (.bl true))) dSkip)
def q__wall : FD := ⟨"_wall", 1, 1, b__wall⟩
abbrev i__wall : Nat := 279

def b_added (C : Calls) : DS :=
  (dRet (dCall C 412 (dCons (fz (dOp fAdd (fz (dOp fMul (fz (dOp fIx (dBVar 0) (dC (.int 0)))) (fz (dOp fIx (dBVar 1) (dC (.int 1)))))) (fz (dOp fMul (fz (dOp fIx (dBVar 1) (dC (.int 0)))) (fz (dOp fIx (dBVar 0) (dC (.int 1)))))))) (dCons (fz (dOp fMul (fz (dOp fIx (dBVar 0) (dC (.int 1)))) (fz (dOp fIx (dBVar 1) (dC (.int 1)))))) dNil))))
def q_added : FD := ⟨"added", 2, 2, b_added⟩
abbrev i_added : Nat := 280

def b_all_orders (C : Calls) : DS :=
  (dSeqS
  (dSet 1 (dCall C 295 (dCons (dVar 0) dNil)))
  (dSeqS
  (dIfS (dB (fz (dOp fGt (dBVar 1) (dC (.int 300))))) (dRaise "TooMany" "many" (dVar 1)) dSkip)
  (dSeqS
  (dIfS (dB (fz (dOp fEq (dBVar 1) (dC (.int 0))))) (dRet (dLst dNil)) dSkip)
  (dSeqS
  (dSet 2 (dLst (dCons (dTup dNil) dNil)))
  (dSeqS
  (dFor (dRange1 (fz (dOp fIx (dBVar 0) (dC (.int 1))))) (.nm 3) (dSeqS
  (dSet 4 (dLst dNil))
  (dSeqS
  (dFrz 2 (dFor (dSeq (dVar 2)) (.nm 5) (dMut1 4 fExt (fz (dComp (dSeq (fz (dCall C 396 (dCons (dVar 0) (dCons (dVar 5) dNil))))) [6, 7] (.tp [(.nm 6), (.nm 7)]) dYes (fz (dOp fAdd (dBVar 5) (dTup (dCons (dVar 6) dNil)))))))))
  (dFrz 4 (dSet 2 (rv (dVar 4)))))))
  (dRet (dMv 2)))))))
def q_all_orders : FD := ⟨"all_orders", 1, 8, b_all_orders⟩
abbrev i_all_orders : Nat := 281

def b_are_few (C : Calls) : DS :=
  (dSeqS
  (dSet 2 (dComp (dSeq (fz (dCall C 435 (dCons (dVar 0) dNil)))) [3, 4] (.tp [(.nm 3), (.nm 4)]) (dAndT (dB (fz (dOp fLe (dBVar 3) (dBVar 4)))) (dB (fz (dOp fLe (dBVar 3) (dBVar 1))))) (dVar 3)))
  (dRet (dOp fLe (fz (dBlt bLen (dCons (dBVar 2) dNil))) (dBVar 1))))
def q_are_few : FD := ⟨"are_few", 2, 5, b_are_few⟩
abbrev i_are_few : Nat := 284

def b_are_pairs (C : Calls) : DS :=
  (dSeqS
  (dIfS (dOrT (dNotT (dB (fz (dBlt bIsi (dCons (dBVar 0) (dCons (dC (.ty "list")) dNil)))))) (dNotT (dB (fz (dBlt bAll (dCons (fz (dComp (dSeq (dBVar 0)) [3] (.nm 3) dYes (dAnd (fz (dBlt bIsi (dCons (dBVar 3) (dCons (dC (.ty "tuple")) dNil)))) (fz (dOp fEq (fz (dBlt bLen (dCons (dBVar 3) dNil))) (dC (.int 2))))))) dNil)))))) (dRet (rv (dC (.bl false)))) dSkip)
  (dRet (dBlt bAll (dCons (fz (dComp (dSeq (dBVar 0)) [1, 2] (.tp [(.nm 1), (.nm 2)]) dYes (dAnd (fz (dCall C 312 (dCons (dVar 1) dNil))) (fz (dCall C 312 (dCons (dVar 2) dNil)))))) dNil))))
def q_are_pairs : FD := ⟨"are_pairs", 1, 4, b_are_pairs⟩
abbrev i_are_pairs : Nat := 285

def b_are_towns (C : Calls) : DS :=
  (dSeqS
  (dIfS (dOrT (dNotT (dB (fz (dBlt bIsi (dCons (dBVar 0) (dCons (dC (.ty "tuple")) dNil)))))) (dB (fz (dOp fNe (fz (dBlt bLen (dCons (dBVar 0) dNil))) (dBVar 2))))) (dRet (rv (dC (.bl false)))) dSkip)
  (dRet (dBlt bAll (dCons (fz (dComp (dSeq (dBVar 0)) [3] (.nm 3) dYes (dAnd (fz (dCall C 312 (dCons (dVar 3) dNil))) (dChain fLe fLt (dC (.int 0)) (dBVar 3) (dBVar 1))))) dNil))))
def q_are_towns : FD := ⟨"are_towns", 3, 4, b_are_towns⟩
abbrev i_are_towns : Nat := 286

def b_begun (C : Calls) : DS :=
  (dSeqS
  (dUnp (.tp [(.nm 3), (.nm 4), (.nm 5)]) (fz (dCall C 408 (dCons (dVar 0) dNil))))
  (dSeqS
  (dSet 2 (dComp (dSeq (dBVar 5)) [6] (.nm 6) (dOrT (dB (fz (dOp fEq (fz (dOp fIx (dBVar 6) (dC (.int 1)))) (dC (.str "end"))))) (dB (fz (dOp fGe (fz (dOp fIx (dBVar 6) (dC (.int 0)))) (fz (dBlt bLen (dCons (dBVar 1) dNil))))))) (dVar 6)))
  (dRet (rv (dTup (dCons (dVar 3) (dCons (dVar 4) (dCons (fz (dBlt bTuple (dCons (fz (dBlt bSorted (dCons (fz (dOp fAdd (dBVar 2) (fz (dComp (dEnum (dVar 1)) [7, 8] (.tp [(.nm 7), (.nm 8)]) dYes (dTup (dCons (dVar 7) (dCons (dC (.str "closed")) (dCons (dVar 8) dNil)))))))) dNil))) dNil))) dNil))))))))
def q_begun : FD := ⟨"begun", 2, 9, b_begun⟩
abbrev i_begun : Nat := 288

def b_chance_before (C : Calls) : DS :=
  (dSeqS
  (dDropX (dCall C 386 (only (dCons (dVar 0) (dCons (fz (dLst (dCons (dVar 1) (dCons (dVar 2) dNil)))) dNil)))))
  (dSeqS
  (dSet 3 (dBlt bSum (dCons (fz (dCall C 433 (dCons (dVar 0) (dCons (dVar 1) dNil)))) dNil)))
  (dSeqS
  (dFor (dRange1 (fz (dOp fIx (dBVar 0) (dC (.int 1))))) (.nm 4) (dAug 3 fSub (fz (dBlt bSum (dCons (fz (dComp (dRange1 (dVar 4)) [5] (.nm 5) dYes (fz (dCall C 407 (dCons (dVar 0) (dCons (fz (dLst (dCons (dTup (dCons (dVar 5) (dCons (dVar 2) dNil))) (dCons (dTup (dCons (dVar 4) (dCons (dVar 1) dNil))) dNil)))) dNil)))))) dNil)))))
  (dRet (dCall C 412 (dCons (dVar 3) (dCons (fz (dCall C 295 (dCons (dVar 0) dNil))) dNil)))))))
def q_chance_before : FD := ⟨"chance_before", 3, 6, b_chance_before⟩
abbrev i_chance_before : Nat := 289

def b_chances_of (C : Calls) : DS :=
  (dSeqS
  (dDropX (dCall C 386 (only (dCons (dVar 0) (dCons (fz (dLst (dCons (dVar 1) dNil))) dNil)))))
  (dSeqS
  (dSet 2 (dCall C 295 (dCons (dVar 0) dNil)))
  (dRet (dComp (dSeq (fz (dCall C 433 (dCons (dVar 0) (dCons (dVar 1) dNil))))) [3] (.nm 3) dYes (fz (dCall C 412 (dCons (dVar 3) (dCons (dVar 2) dNil))))))))
def q_chances_of : FD := ⟨"chances_of", 2, 4, b_chances_of⟩
abbrev i_chances_of : Nat := 290

def b_checked (C : Calls) : DS :=
  (dSeqS
  (dIfS (dB (fz (dOp fIsN (dBVar 0) (dC .non)))) dNever dSkip)
  (dRet (dMv 0)))
def q_checked : FD := ⟨"checked", 2, 2, b_checked⟩
abbrev i_checked : Nat := 291

def b_closed_later (C : Calls) : DS :=
  (dSeqS
  (dDropX (dCall C 387 (only (dCons (dVar 0) (dCons (dVar 1) (dCons (dVar 2) dNil))))))
  (dSeqS
  (dDropX (dCall C 411 (only (dCons (dVar 0) (dCons (fz (dOp fAdd (dBVar 1) (dTup (dCons (dVar 2) dNil)))) dNil)))))
  (dRet (dOp fAdd (dBVar 1) (dTup (dCons (dVar 2) dNil))))))
def q_closed_later : FD := ⟨"closed_later", 3, 3, b_closed_later⟩
abbrev i_closed_later : Nat := 292

def b_count_after (C : Calls) : DS :=
  (dSeqS
  (dIfS (dNotT (dB (fz (dBlt bAll (dCons (fz (dComp (dSeq (fz (dCall C 399 (dCons (dVar 0) (dCons (dC (.str "closed")) dNil))))) [2, 3] (.tp [(.nm 2), (.nm 3)]) dYes (dOr (fz (dOp fGe (dBVar 2) (fz (dBlt bLen (dCons (dBVar 1) dNil))))) (fz (dOp fEq (fz (dOp fIx (dBVar 1) (dBVar 2))) (dBVar 3)))))) dNil))))) (dRet (rv (dC (.int 0)))) dSkip)
  (dRet (dCall C 295 (dCons (fz (dCall C 288 (dCons (dVar 0) (dCons (dVar 1) dNil)))) dNil))))
def q_count_after : FD := ⟨"count_after", 2, 4, b_count_after⟩
abbrev i_count_after : Nat := 293

def b_count_closings (C : Calls) : DS :=
  (dSeqS
  (dSet 1 (rv (dC (.int 0))))
  (dSeqS
  (dFor (dRange1 (fz (dOp fIx (dBVar 0) (dC (.int 0))))) (.nm 2) (dSeqS
  (dPar [5, 6] (rCons (dLst dNil) (rCons (rv (dC (.int 1))) rNil)))
  (dSeqS
  (dFrz 5 (dDrop (fz (dCall C 421 (dCons (fz (dOp fIx (dBVar 0) (dC (.int 1)))) (dCons (dVar 2) (dCons (dC .non) (dCons (dVar 5) dNil))))))))
  (dSeqS
  (dFor (dRange2 (dC (.int 1)) (fz (dOp fAdd (fz (dOp fIx (dBVar 0) (dC (.int 0)))) (dC (.int 1))))) (.nm 3) (dAug 6 fIMul (dBVar 3)))
  (dSeqS
  (dFrz 5 (dFor (dSeq (dVar 5)) (.nm 4) (dAug 6 fIDiv (dBVar 4))))
  (dAug 1 (pureO (gI fun i j => i + j)) (dBVar 6)))))))
  (dRet (dMv 1))))
def q_count_closings : FD := ⟨"count_closings", 1, 7, b_count_closings⟩
abbrev i_count_closings : Nat := 294

def b_count_orders (C : Calls) : DS :=
  (dSeqS
  (dIfS (dNotT (dB (fz (dCall C 317 (dCons (dVar 0) dNil))))) (dRet (rv (dC (.int 0)))) dSkip)
  (dSeqS
  (dSet 1 (dBlt bDict (dCons (fz (dCall C 399 (dCons (dVar 0) (dCons (dC (.str "closed")) dNil)))) dNil)))
  (dSeqS
  (dSet 2 (dVals (dBVar 1)))
  (dSeqS
  (dSet 3 (dComp (dRange1 (fz (dOp fIx (dBVar 0) (dC (.int 0))))) [7] (.nm 7) (dB (fz (dOp fNotIn (dBVar 7) (dBVar 2)))) (fz (dOp fIx (fz (dCall C 422 (dCons (dVar 0) (dCons (dVar 7) dNil)))) (dC (.int 0))))))
  (dSeqS
  (dUnp (.tp [(.nm 5), (.nm 6)]) (dTup (dCons (dC (.int 1)) (dCons (dC (.int 0)) dNil))))
  (dSeqS
  (dFor (dRange1 (fz (dOp fIx (dBVar 0) (dC (.int 1))))) (.nm 4) (dIfS (dB (fz (dOp fNotIn (dBVar 4) (dBVar 1)))) (dSeqS
  (dAug 5 fIMul (fz (dBlt bMax2 (dCons (dC (.int 0)) (dCons (fz (dOp fSub (fz (dBlt bLen (dCons (fz (dComp (dSeq (dBVar 3)) [8] (.nm 8) (dB (fz (dOp fLe (dBVar 8) (dBVar 4)))) (dVar 8))) dNil))) (dBVar 6))) dNil)))))
  (dAug 6 (pureO (gI fun i j => i + j)) (dC (.int 1)))) dSkip))
  (dRet (dMv 5))))))))
def q_count_orders : FD := ⟨"count_orders", 1, 9, b_count_orders⟩
abbrev i_count_orders : Nat := 295

def b_count_stories (C : Calls) : DS :=
  (dRet (dOp fMul (fz (dCall C 295 (dCons (dVar 0) dNil))) (fz (dCall C 393 (dCons (dVar 0) dNil)))))
def q_count_stories : FD := ⟨"count_stories", 1, 1, b_count_stories⟩
abbrev i_count_stories : Nat := 296

def b_crossing (C : Calls) : DS :=
  (dSeqS
  (dSet 3 (dBlt bSorted (dCons (dBVar 0) dNil)))
  (dSeqS
  (dSet 4 (dComp (dSeq (dBVar 3)) [6] (.nm 6) dYes (fz (dOp fGt (dIndex (fz (dBlt bList (dCons (dBVar 2) dNil))) (fz (dOp fIx (dBVar 1) (dBVar 6)))) (dBVar 6)))))
  (dSeqS
  (dSet 5 (dOp fIx (fz (dComp (dRange1 (fz (dOp fSub (fz (dBlt bLen (dCons (dBVar 3) dNil))) (dC (.int 1))))) [7] (.nm 7) (dAndT (dB (fz (dOp fIx (dBVar 4) (dBVar 7)))) (dNotT (dB (fz (dOp fIx (dBVar 4) (fz (dOp fAdd (dBVar 7) (dC (.int 1))))))))) (dVar 7))) (dC (.int 0))))
  (dRet (rv (dTup (dCons (fz (dOp fIx (dBVar 3) (dBVar 5))) (dCons (fz (dOp fIx (dBVar 3) (fz (dOp fAdd (dBVar 5) (dC (.int 1)))))) dNil))))))))
def q_crossing : FD := ⟨"crossing", 3, 8, b_crossing⟩
abbrev i_crossing : Nat := 297

def b_different (C : Calls) : DS :=
  (dRet (dIfR (dAndT (dB (fz (dOp fNotN (dBVar 0) (dC .non)))) (dB (fz (dOp fEq (fz (dLenSet (dBVar 0))) (fz (dBlt bLen (dCons (dBVar 0) dNil))))))) (rv (dVar 0)) (rv (dC .non))))
def q_different : FD := ⟨"different", 1, 1, b_different⟩
abbrev i_different : Nat := 298

def b_distance (C : Calls) : DS :=
  (dRet (dBlt bSum (dCons (fz (dComp (dSeq (fz (dCall C 413 (dCons (dVar 0) (dCons (dVar 1) (dCons (dVar 2) dNil)))))) [3] (.nm 3) dYes (fz (dOp fSub (fz (dBlt bLen (dCons (dBVar 3) dNil))) (dC (.int 1)))))) dNil)))
def q_distance : FD := ⟨"distance", 3, 4, b_distance⟩
abbrev i_distance : Nat := 299

def b_end_chances (C : Calls) : DS :=
  (dSeqS
  (dDropX (dCall C 386 (only (dCons (dVar 0) (dCons (fz (dLst (dCons (dVar 1) dNil))) dNil)))))
  (dSeqS
  (dPar [4, 5] (rCons (dCall C 295 (dCons (dVar 0) dNil)) (rCons (dCall C 433 (dCons (dVar 0) (dCons (dVar 1) dNil))) rNil)))
  (dSeqS
  (dSet 2 (dBlt bLen (dCons (fz (dComp (dValsI (fzL (dCall C 302 (dCons (dVar 0) dNil)))) [9] (.nm 9) (dB (fz (dOp fEq (dBVar 9) (dBVar 1)))) (dVar 9))) dNil)))
  (dSeqS
  (dSet 3 dNewK)
  (dSeqS
  (dFor (dSeq (fz (dOp fAdd (fz (dListEnum (dBVar 5))) (fz (dLst (dCons (dTup (dCons (fz (dOp fIx (dBVar 0) (dC (.int 1)))) (dCons (fz (dOp fSub (dBVar 4) (fz (dBlt bSum (dCons (dBVar 5) dNil))))) dNil))) dNil)))))) (.tp [(.nm 6), (.nm 7)]) (dIfS (dB (fz (dOp fGt (dBVar 7) (dC (.int 0))))) (dFor (dItems (fzL (dCall C 436 (dCons (dVar 0) (dCons (dVar 6) (dCons (fzL (dDisp1 (dBVar 2) (dTup (dCons (dVar 7) (dCons (dVar 4) dNil))))) dNil)))))) (.tp [(.nm 8), (.nm 10)]) (dPutD 3 (dVar 8) (fz (dCall C 280 (dCons (dDget (dBVar 3) (dBVar 8) (dTup (dCons (dC (.int 0)) (dCons (dC (.int 1)) dNil)))) (dCons (dVar 10) dNil)))))) dSkip))
  (dRet (dComp (dSeq (fz (dBlt bSortK (dCons (dBVar 3) dNil)))) [8] (.nm 8) (dB (fz (dOp fGt (fz (dOp fIx (fz (dOp fIx (dBVar 3) (dBVar 8))) (dC (.int 0)))) (dC (.int 0))))) (dTup (dCons (dVar 8) (dCons (fz (dOp fIx (dBVar 3) (dBVar 8))) dNil))))))))))
def q_end_chances : FD := ⟨"end_chances", 2, 11, b_end_chances⟩
abbrev i_end_chances : Nat := 301

def b_ends_of (C : Calls) : DS :=
  (dRet (dBlt bDict (dCons (fz (dCall C 399 (dCons (dVar 0) (dCons (dC (.str "end")) dNil)))) dNil)))
def q_ends_of : FD := ⟨"ends_of", 1, 1, b_ends_of⟩
abbrev i_ends_of : Nat := 302

def b_evidence (C : Calls) : DS :=
  (dSeqS
  (dSet 1 (dCall C 392 (dCons (dVar 0) dNil)))
  (dSeqS
  (dIfS (dB (fz (dOp fGt (fz (dBlt bLen (dCons (dBVar 1) dNil))) (dC (.int 0))))) (dRet (rv (dTup (dCons (dC (.str "never")) (dCons (fz (dOp fIx (dBVar 1) (dC (.int 0)))) dNil))))) dSkip)
  (dSeqS
  (dSet 2 (dComp (dRange1 (fz (dOp fIx (dBVar 0) (dC (.int 1))))) [3] (.nm 3) (dB (fz (dCall C 284 (dCons (dVar 0) (dCons (dVar 3) dNil))))) (dVar 3)))
  (dRet (dIfR (dB (fz (dOp fGt (fz (dBlt bLen (dCons (dBVar 2) dNil))) (dC (.int 0))))) (rv (dTup (dCons (dC (.str "few")) (dCons (fz (dOp fIx (dBVar 2) (dC (.int 0)))) dNil)))) (rv (dC .non)))))))
def q_evidence : FD := ⟨"evidence", 1, 4, b_evidence⟩
abbrev i_evidence : Nat := 303

def b_exchanged (C : Calls) : DS :=
  (dSeqS
  (dDropX (dCall C 388 (only (dCons (dVar 0) (dCons (dVar 1) dNil)))))
  (dSeqS
  (dIfS (dB (fz (dOp fNotIn (fz (dBlt bTuple (dCons (dBVar 2) dNil))) (fz (dCall C 406 (dCons (dVar 0) (dCons (dVar 1) dNil))))))) (dRaise "Blocked" "pair" (fz (dBlt bTuple (dCons (dBVar 2) dNil)))) dSkip)
  (dRet (dCall C 423 (dCons (dVar 1) (dCons (fz (dOp fIx (dBVar 2) (dC (.int 0)))) (dCons (fz (dOp fIx (dBVar 2) (dC (.int 1)))) dNil)))))))
def q_exchanged : FD := ⟨"exchanged", 3, 3, b_exchanged⟩
abbrev i_exchanged : Nat := 304

def b_exchanges (C : Calls) : DS :=
  (dSeqS
  (dDropX (dCall C 388 (only (dCons (dVar 0) (dCons (dVar 1) dNil)))))
  (dRet (dCall C 406 (dCons (dVar 0) (dCons (dVar 1) dNil)))))
def q_exchanges : FD := ⟨"exchanges", 2, 2, b_exchanges⟩
abbrev i_exchanges : Nat := 305

def b_first_order (C : Calls) : DS :=
  (dSeqS
  (dDropX (dCall C 390 (only (dCons (dVar 0) dNil))))
  (dRetX (dCall C 403 (only (dCons (dVar 0) (dCons (dC (.int 0)) dNil))))))
def q_first_order : FD := ⟨"first_order", 1, 1, b_first_order⟩
abbrev i_first_order : Nat := 306

def b_gcd (C : Calls) : DS :=
  (dSeqS
  (dWhile (dB (fz (dOp fGt (dBVar 1) (dC (.int 0))))) (dPar [0, 1] (rCons (rv (dVar 1)) (rCons (dOp fMod (dBVar 0) (dBVar 1)) rNil))))
  (dRet (dMv 0)))
def q_gcd : FD := ⟨"gcd", 2, 2, b_gcd⟩
abbrev i_gcd : Nat := 307

def b_head_in (C : Calls) : DS :=
  (dSeqS
  (dSet 1 (dCall C 431 (dCons (dVar 0) dNil)))
  (dRet (dIfR (dAndT (dB (fz (dOp fNotN (dBVar 1) (dC .non)))) (dB (fz (dOp fLe (fz (dOp fIx (dBVar 1) (dC (.int 0)))) (dC (.int 14)))))) (rv (dVar 1)) (rv (dC .non)))))
def q_head_in : FD := ⟨"head_in", 1, 2, b_head_in⟩
abbrev i_head_in : Nat := 308

def b_is_closing (C : Calls) : DS :=
  (dSeqS
  (dIfS (dOrT (dNotT (dB (fz (dBlt bIsi (dCons (dBVar 1) (dCons (dC (.ty "tuple")) dNil)))))) (dNotT (dB (fz (dBlt bAll (dCons (fz (dComp (dSeq (dBVar 1)) [3] (.nm 3) dYes (dAnd (fz (dCall C 312 (dCons (dVar 3) dNil))) (dChain fLe fLt (dC (.int 0)) (dBVar 3) (fz (dOp fIx (dBVar 0) (dC (.int 0)))))))) dNil)))))) (dRet (rv (dC (.bl false)))) dSkip)
  (dSeqS
  (dSet 2 (dOp fIx (dBVar 0) (dC (.int 1))))
  (dSeqS
  (dFor (dSeq (dVar 1)) (.nm 3) (dSeqS
  (dFrz 2 (dIfS (dB (fz (dOp fNe (fz (dBlt bLen (dCons (fz (dCall C 395 (dCons (dVar 2) (dCons (dVar 3) dNil)))) dNil))) (dC (.int 1))))) (dRet (rv (dC (.bl false)))) dSkip))
  (dFrz 2 (dSet 2 (dCall C 417 (dCons (dVar 2) (dCons (dVar 3) dNil)))))))
  (dRet (rv (dC (.bl true)))))))
def q_is_closing : FD := ⟨"is_closing", 2, 4, b_is_closing⟩
abbrev i_is_closing : Nat := 309

def b_is_journal (C : Calls) : DS :=
  (dSeqS
  (dIfS (dOrT (dNotT (dB (fz (dBlt bIsi (dCons (dBVar 0) (dCons (dC (.ty "tuple")) dNil)))))) (dOrT (dB (fz (dOp fNe (fz (dBlt bLen (dCons (dBVar 0) dNil))) (dC (.int 3))))) (dOrT (dNotT (dB (fz (dCall C 312 (dCons (fz (dOp fIx (dBVar 0) (dC (.int 0)))) dNil))))) (dNotT (dB (fz (dCall C 312 (dCons (fz (dOp fIx (dBVar 0) (dC (.int 1)))) dNil)))))))) (dRet (rv (dC (.bl false)))) dSkip)
  (dSeqS
  (dIfS (dOrT (dNotT (dB (dChain fLe fLt (dC (.int 0)) (fz (dOp fIx (dBVar 0) (dC (.int 1)))) (fz (dOp fIx (dBVar 0) (dC (.int 0))))))) (dNotT (dB (fz (dBlt bIsi (dCons (fz (dOp fIx (dBVar 0) (dC (.int 2)))) (dCons (dC (.ty "tuple")) dNil))))))) (dRet (rv (dC (.bl false)))) dSkip)
  (dSeqS
  (dIfS (dNotT (dB (fz (dBlt bAll (dCons (fz (dComp (dSeq (fz (dOp fIx (dBVar 0) (dC (.int 2))))) [5] (.nm 5) dYes (fz (dCall C 311 (dCons (dVar 5) (dCons (fz (dOp fIx (dBVar 0) (dC (.int 0)))) (dCons (fz (dOp fIx (dBVar 0) (dC (.int 1)))) dNil))))))) dNil))))) (dRet (rv (dC (.bl false)))) dSkip)
  (dSeqS
  (dSet 1 (dComp (dSeq (fz (dOp fIx (dBVar 0) (dC (.int 2))))) [2, 3, 4] (.tp [(.nm 2), (.nm 3), (.nm 4)]) dYes (dTup (dCons (dVar 2) (dCons (dVar 3) dNil)))))
  (dRet (dOp fEq (dBVar 1) (fz (dSortSet (dBVar 1)))))))))
def q_is_journal : FD := ⟨"is_journal", 1, 6, b_is_journal⟩
abbrev i_is_journal : Nat := 310

def b_is_note (C : Calls) : DS :=
  (dSeqS
  (dIfS (dOrT (dNotT (dB (fz (dBlt bIsi (dCons (dBVar 0) (dCons (dC (.ty "tuple")) dNil)))))) (dOrT (dB (fz (dOp fNe (fz (dBlt bLen (dCons (dBVar 0) dNil))) (dC (.int 3))))) (dOrT (dNotT (dB (fz (dBlt bIsi (dCons (fz (dOp fIx (dBVar 0) (dC (.int 1)))) (dCons (dC (.ty "str")) dNil)))))) (dB (fz (dOp fNotIn (fz (dOp fIx (dBVar 0) (dC (.int 1)))) (dC (.wt [.str "end", .str "closed"])))))))) (dRet (rv (dC (.bl false)))) dSkip)
  (dSeqS
  (dIfS (dOrT (dNotT (dB (fz (dCall C 312 (dCons (fz (dOp fIx (dBVar 0) (dC (.int 0)))) dNil))))) (dNotT (dB (fz (dCall C 312 (dCons (fz (dOp fIx (dBVar 0) (dC (.int 2)))) dNil)))))) (dRet (rv (dC (.bl false)))) dSkip)
  (dRet (rv (dAnd (dChain fLe fLt (dC (.int 0)) (fz (dOp fIx (dBVar 0) (dC (.int 0)))) (dBVar 2)) (dChain fLe fLt (dC (.int 0)) (fz (dOp fIx (dBVar 0) (dC (.int 2)))) (dBVar 1)))))))
def q_is_note : FD := ⟨"is_note", 3, 3, b_is_note⟩
abbrev i_is_note : Nat := 311

def b_is_number (C : Calls) : DS :=
  (dRet (rv (dAnd (fz (dBlt bIsi (dCons (dBVar 0) (dCons (dC (.ty "int")) dNil)))) (dNot (fz (dBlt bIsi (dCons (dBVar 0) (dCons (dC (.ty "bool")) dNil))))))))
def q_is_number : FD := ⟨"is_number", 1, 1, b_is_number⟩
abbrev i_is_number : Nat := 312

def b_is_open (C : Calls) : DS :=
  (dRet (dBlt bAll (dCons (fz (dComp (dEnum (dVar 1)) [2, 3] (.tp [(.nm 2), (.nm 3)]) dYes (fz (dOp fNotIn (dBVar 3) (fz (dSl (dBVar 0) oNone (oSome (fz (dOp fAdd (dBVar 2) (dC (.int 1))))))))))) dNil)))
def q_is_open : FD := ⟨"is_open", 2, 4, b_is_open⟩
abbrev i_is_open : Nat := 313

def b_is_order (C : Calls) : DS :=
  (dSeqS
  (dIfS (dOrT (dNotT (dB (fz (dCall C 286 (dCons (dVar 1) (dCons (fz (dOp fIx (dBVar 0) (dC (.int 0)))) (dCons (fz (dOp fIx (dBVar 0) (dC (.int 1)))) dNil))))))) (dB (fz (dOp fNe (fz (dLenSet (dBVar 1))) (fz (dOp fIx (dBVar 0) (dC (.int 1)))))))) (dRet (rv (dC (.bl false)))) dSkip)
  (dSeqS
  (dIfS (dNotT (dB (fz (dBlt bAll (dCons (fz (dComp (dSeq (fz (dCall C 399 (dCons (dVar 0) (dCons (dC (.str "closed")) dNil))))) [2, 4] (.tp [(.nm 2), (.nm 4)]) dYes (fz (dOp fEq (fz (dOp fIx (dBVar 1) (dBVar 2))) (dBVar 4))))) dNil))))) (dRet (rv (dC (.bl false)))) dSkip)
  (dRet (dBlt bAll (dCons (fz (dComp (dSeq (fz (dCall C 399 (dCons (dVar 0) (dCons (dC (.str "end")) dNil))))) [2, 3] (.tp [(.nm 2), (.nm 3)]) dYes (fz (dOp fNotIn (dBVar 3) (fz (dSl (dBVar 1) oNone (oSome (fz (dOp fAdd (dBVar 2) (dC (.int 1))))))))))) dNil)))))
def q_is_order : FD := ⟨"is_order", 2, 5, b_is_order⟩
abbrev i_is_order : Nat := 314

def b_is_possible (C : Calls) : DS :=
  (dRet (dOp fGt (fz (dCall C 295 (dCons (dVar 0) dNil))) (dC (.int 0))))
def q_is_possible : FD := ⟨"is_possible", 1, 1, b_is_possible⟩
abbrev i_is_possible : Nat := 315

def b_is_road (C : Calls) : DS :=
  (dSeqS
  (dIfS (dOrT (dNotT (dB (fz (dBlt bIsi (dCons (dBVar 0) (dCons (dC (.ty "tuple")) dNil)))))) (dOrT (dB (fz (dOp fNe (fz (dBlt bLen (dCons (dBVar 0) dNil))) (dC (.int 2))))) (dOrT (dNotT (dB (fz (dCall C 312 (dCons (fz (dOp fIx (dBVar 0) (dC (.int 0)))) dNil))))) (dNotT (dB (fz (dCall C 312 (dCons (fz (dOp fIx (dBVar 0) (dC (.int 1)))) dNil)))))))) (dRet (rv (dC (.bl false)))) dSkip)
  (dRet (rv (dChain3 fLe fLt fLt (dC (.int 0)) (fz (dOp fIx (dBVar 0) (dC (.int 0)))) (fz (dOp fIx (dBVar 0) (dC (.int 1)))) (dBVar 1)))))
def q_is_road : FD := ⟨"is_road", 2, 2, b_is_road⟩
abbrev i_is_road : Nat := 316

def b_is_sound (C : Calls) : DS :=
  (dRet (dBlt bAll (dCons (fz (dComp (dSeq (fz (dCall C 399 (dCons (dVar 0) (dCons (dC (.str "closed")) dNil))))) [1, 2] (.tp [(.nm 1), (.nm 2)]) dYes (fz (dOp fEq (fz (dCall C 422 (dCons (dVar 0) (dCons (dVar 2) dNil)))) (dTup (dCons (dVar 1) (dCons (dVar 1) dNil))))))) dNil)))
def q_is_sound : FD := ⟨"is_sound", 1, 3, b_is_sound⟩
abbrev i_is_sound : Nat := 317

def b_is_story (C : Calls) : DS :=
  (dSeqS
  (dIfS (dOrT (dNotT (dB (fz (dBlt bIsi (dCons (dBVar 1) (dCons (dC (.ty "tuple")) dNil)))))) (dB (fz (dOp fNe (fz (dBlt bLen (dCons (dBVar 1) dNil))) (dC (.int 2)))))) (dRet (rv (dC (.bl false)))) dSkip)
  (dSeqS
  (dIfS (dOrT (dNotT (dB (fz (dCall C 286 (dCons (fz (dOp fIx (dBVar 1) (dC (.int 0)))) (dCons (fz (dOp fIx (dBVar 0) (dC (.int 0)))) (dCons (fz (dOp fIx (dBVar 0) (dC (.int 1)))) dNil))))))) (dNotT (dB (fz (dCall C 286 (dCons (fz (dOp fIx (dBVar 1) (dC (.int 1)))) (dCons (fz (dOp fIx (dBVar 0) (dC (.int 0)))) (dCons (fz (dOp fIx (dBVar 0) (dC (.int 1)))) dNil)))))))) (dRet (rv (dC (.bl false)))) dSkip)
  (dSeqS
  (dIfS (dOrT (dB (fz (dOp fNe (fz (dLenSet (fz (dOp fIx (dBVar 1) (dC (.int 0)))))) (fz (dOp fIx (dBVar 0) (dC (.int 1))))))) (dNotT (dB (fz (dCall C 313 (dCons (fz (dOp fIx (dBVar 1) (dC (.int 0)))) (dCons (fz (dOp fIx (dBVar 1) (dC (.int 1)))) dNil))))))) (dRet (rv (dC (.bl false)))) dSkip)
  (dRet (dBlt bAll (dCons (fz (dComp (dSeq (fz (dOp fIx (dBVar 0) (dC (.int 2))))) [2, 3, 4] (.tp [(.nm 2), (.nm 3), (.nm 4)]) dYes (fz (dOp fEq (fz (dOp fIx (fz (dOp fIx (dBVar 1) (fz (dBlt bInt (dCons (fz (dOp fEq (dBVar 3) (dC (.str "end")))) dNil))))) (dBVar 2))) (dBVar 4))))) dNil))))))
def q_is_story : FD := ⟨"is_story", 2, 5, b_is_story⟩
abbrev i_is_story : Nat := 318

def b_is_tree (C : Calls) : DS :=
  (dSeqS
  (dIfS (dOrT (dNotT (dB (fz (dBlt bIsi (dCons (dBVar 0) (dCons (dC (.ty "tuple")) dNil)))))) (dOrT (dB (fz (dOp fNe (fz (dBlt bLen (dCons (dBVar 0) dNil))) (dC (.int 2))))) (dOrT (dNotT (dB (fz (dCall C 312 (dCons (fz (dOp fIx (dBVar 0) (dC (.int 0)))) dNil))))) (dB (fz (dOp fLt (fz (dOp fIx (dBVar 0) (dC (.int 0)))) (dC (.int 1)))))))) (dRet (rv (dC (.bl false)))) dSkip)
  (dSeqS
  (dIfS (dOrT (dNotT (dB (fz (dBlt bIsi (dCons (fz (dOp fIx (dBVar 0) (dC (.int 1)))) (dCons (dC (.ty "tuple")) dNil)))))) (dNotT (dB (fz (dBlt bAll (dCons (fz (dComp (dSeq (fz (dOp fIx (dBVar 0) (dC (.int 1))))) [1] (.nm 1) dYes (fz (dCall C 316 (dCons (dVar 1) (dCons (fz (dOp fIx (dBVar 0) (dC (.int 0)))) dNil)))))) dNil)))))) (dRet (rv (dC (.bl false)))) dSkip)
  (dSeqS
  (dIfS (dOrT (dB (fz (dOp fNe (fz (dBlt bLen (dCons (fz (dOp fIx (dBVar 0) (dC (.int 1)))) dNil))) (fz (dOp fSub (fz (dOp fIx (dBVar 0) (dC (.int 0)))) (dC (.int 1))))))) (dB (fz (dOp fNe (fz (dBlt bList (dCons (fz (dOp fIx (dBVar 0) (dC (.int 1)))) dNil))) (fz (dSortSet (fz (dOp fIx (dBVar 0) (dC (.int 1)))))))))) (dRet (rv (dC (.bl false)))) dSkip)
  (dRet (dOp fEq (fz (dBlt bLen (dCons (fz (dCall C 410 (dCons (fz (dOp fIx (dBVar 0) (dC (.int 0)))) (dCons (fz (dOp fIx (dBVar 0) (dC (.int 1)))) dNil)))) dNil))) (fz (dOp fIx (dBVar 0) (dC (.int 0)))))))))
def q_is_tree : FD := ⟨"is_tree", 1, 2, b_is_tree⟩
abbrev i_is_tree : Nat := 319

def b_journal_in (C : Calls) : DS :=
  (dRetX (dCall C 291 (only (dCons (fz (dCall C 322 (dCons (dVar 0) dNil))) (dCons (dVar 0) dNil)))))
def q_journal_in : FD := ⟨"journal_in", 1, 1, b_journal_in⟩
abbrev i_journal_in : Nat := 320

def b_journal_of (C : Calls) : DS :=
  (dRet (rv (dTup (dCons (dVar 0) (dCons (fz (dBlt bLen (dCons (dBVar 1) dNil))) (dCons (fz (dBlt bTuple (dCons (fz (dComp (dEnum (dVar 2)) [3, 4] (.tp [(.nm 3), (.nm 4)]) dYes (dTup (dCons (dVar 3) (dCons (dC (.str "end")) (dCons (dVar 4) dNil)))))) dNil))) dNil))))))
def q_journal_of : FD := ⟨"journal_of", 3, 5, b_journal_of⟩
abbrev i_journal_of : Nat := 321

def b_least_closing (C : Calls) : DS :=
  (dSeqS
  (dPar [2, 3] (rCons (dOp fIx (dBVar 0) (dC (.int 1))) (rCons (dLst dNil) rNil)))
  (dSeqS
  (dFor (dRange1 (fz (dOp fSub (fz (dOp fIx (dBVar 0) (dC (.int 0)))) (dC (.int 1))))) (.nm 1) (dSeqS
  (dFrz 2 (dSet 4 (dOp fIx (fz (dCall C 385 (dCons (fz (dOp fIx (dBVar 0) (dC (.int 0)))) (dCons (dVar 2) dNil)))) (dC (.int 0)))))
  (dSeqS
  (dMut1 3 fApp (dVar 4))
  (dFrz 2 (dSet 2 (dCall C 417 (dCons (dVar 2) (dCons (dVar 4) dNil))))))))
  (dRet (dBlt bTuple (dCons (dBVar 3) dNil)))))
def q_least_closing : FD := ⟨"least_closing", 1, 5, b_least_closing⟩
abbrev i_least_closing : Nat := 383

def b_leaves (C : Calls) : DS :=
  (dRet (dCall C 385 (dCons (fz (dOp fIx (dBVar 0) (dC (.int 0)))) (dCons (fz (dOp fIx (dBVar 0) (dC (.int 1)))) dNil))))
def q_leaves : FD := ⟨"leaves", 1, 1, b_leaves⟩
abbrev i_leaves : Nat := 384

def b_leaves_of (C : Calls) : DS :=
  (dRet (dComp (dRange1 (dVar 0)) [2] (.nm 2) (dB (fz (dOp fEq (fz (dBlt bLen (dCons (fz (dCall C 395 (dCons (dVar 1) (dCons (dVar 2) dNil)))) dNil))) (dC (.int 1))))) (dVar 2)))
def q_leaves_of : FD := ⟨"leaves_of", 2, 3, b_leaves_of⟩
abbrev i_leaves_of : Nat := 385

def b_look (C : Calls) : DS :=
  (dSeqS
  (dDropX (dCall C 390 (only (dCons (dVar 0) dNil))))
  (dFor (dSeq (dVar 1)) (.nm 2) (dDropX (dCall C 391 (only (dCons (dVar 0) (dCons (dVar 2) dNil)))))))
def q_look : FD := ⟨"look", 2, 3, b_look⟩
abbrev i_look : Nat := 386

def b_look_close (C : Calls) : DS :=
  (dSeqS
  (dIfS (dNotT (dB (dChain fLe fLt (dC (.int 0)) (dBVar 2) (fz (dOp fIx (dBVar 0) (dC (.int 0))))))) (dRaise "NoTown" "town" (dVar 2)) dSkip)
  (dIfS (dB (fz (dOp fIn (dBVar 2) (dBVar 1)))) (dRaise "Closed" "town" (dVar 2)) dSkip))
def q_look_close : FD := ⟨"look_close", 3, 3, b_look_close⟩
abbrev i_look_close : Nat := 387

def b_look_order (C : Calls) : DS :=
  (dSeqS
  (dSet 2 (dCall C 394 (dCons (dVar 0) (dCons (dVar 1) dNil))))
  (dIfS (dB (fz (dOp fNotN (dBVar 2) (dC .non)))) (dRaise "Misfit" "time" (dVar 2)) dSkip))
def q_look_order : FD := ⟨"look_order", 2, 3, b_look_order⟩
abbrev i_look_order : Nat := 388

def b_look_orders (C : Calls) : DS :=
  (dSeqS
  (dDropX (dCall C 388 (only (dCons (dVar 0) (dCons (dVar 1) dNil)))))
  (dSeqS
  (dDropX (dCall C 388 (only (dCons (dVar 0) (dCons (dVar 2) dNil)))))
  (dIfS (dB (fz (dOp fNe (fz (dBlt bSorted (dCons (dBVar 1) dNil))) (fz (dBlt bSorted (dCons (dBVar 2) dNil)))))) (dRaise0 "OtherTowns") dSkip)))
def q_look_orders : FD := ⟨"look_orders", 3, 3, b_look_orders⟩
abbrev i_look_orders : Nat := 389

def b_look_possible (C : Calls) : DS :=
  (dIfS (dNotT (dB (fz (dCall C 315 (dCons (dVar 0) dNil))))) (dRaise "Impossible" "evidence" (fz (dCall C 303 (dCons (dVar 0) dNil)))) dSkip)
def q_look_possible : FD := ⟨"look_possible", 1, 1, b_look_possible⟩
abbrev i_look_possible : Nat := 390

def b_look_town (C : Calls) : DS :=
  (dIfS (dNotT (dB (dChain fLe fLt (dC (.int 0)) (dBVar 1) (fz (dOp fIx (dBVar 0) (dC (.int 0))))))) (dRaise "NoTown" "town" (dVar 1)) dSkip)
def q_look_town : FD := ⟨"look_town", 2, 2, b_look_town⟩
abbrev i_look_town : Nat := 391

def b_lost_towns (C : Calls) : DS :=
  (dSeqS
  (dSet 1 (dComp (dSeq (fz (dCall C 399 (dCons (dVar 0) (dCons (dC (.str "closed")) dNil))))) [2, 3] (.tp [(.nm 2), (.nm 3)]) (dB (fz (dOp fGt (fz (dOp fIx (fz (dCall C 422 (dCons (dVar 0) (dCons (dVar 3) dNil)))) (dC (.int 0)))) (fz (dOp fIx (fz (dCall C 422 (dCons (dVar 0) (dCons (dVar 3) dNil)))) (dC (.int 1))))))) (dVar 3)))
  (dRet (dSortSet (dBVar 1))))
def q_lost_towns : FD := ⟨"lost_towns", 1, 4, b_lost_towns⟩
abbrev i_lost_towns : Nat := 392

def b_lost_ways (C : Calls) : DS :=
  (dSeqS
  (dPar [2, 3] (rCons (dBlt bDict (dCons (fz (dCall C 399 (dCons (dVar 0) (dCons (dC (.str "end")) dNil)))) dNil)) (rCons (rv (dC (.int 1))) rNil)))
  (dSeqS
  (dFor (dRange1 (fz (dOp fIx (dBVar 0) (dC (.int 1))))) (.nm 1) (dIfS (dB (fz (dOp fNotIn (dBVar 1) (dBVar 2)))) (dAug 3 fIMul (fz (dOp fSub (fz (dOp fSub (fz (dOp fIx (dBVar 0) (dC (.int 0)))) (dC (.int 1)))) (dBVar 1)))) dSkip))
  (dRet (dMv 3))))
def q_lost_ways : FD := ⟨"lost_ways", 1, 4, b_lost_ways⟩
abbrev i_lost_ways : Nat := 393

def b_misfit (C : Calls) : DS :=
  (dSeqS
  (dFor (dRange1 (fz (dBlt bLen (dCons (dBVar 1) dNil)))) (.nm 2) (dIfS (dB (fz (dOp fEq (fz (dCall C 293 (dCons (dVar 0) (dCons (fz (dBlt bTuple (dCons (fz (dSl (dBVar 1) oNone (oSome (fz (dOp fAdd (dBVar 2) (dC (.int 1))))))) dNil))) dNil)))) (dC (.int 0))))) (dRet (dMv 2)) dSkip))
  (dRet (rv (dC .non))))
def q_misfit : FD := ⟨"misfit", 2, 3, b_misfit⟩
abbrev i_misfit : Nat := 394

def b_neighbours (C : Calls) : DS :=
  (dRet (dComp (dSeq (dBVar 0)) [2, 3] (.tp [(.nm 2), (.nm 3)]) (dB (fz (dOp fIn (dBVar 1) (dTup (dCons (dVar 2) (dCons (dVar 3) dNil)))))) (dIf (dB (fz (dOp fEq (dBVar 2) (dBVar 1)))) (dVar 3) (dVar 2))))
def q_neighbours : FD := ⟨"neighbours", 2, 4, b_neighbours⟩
abbrev i_neighbours : Nat := 395

def b_next_counts (C : Calls) : DS :=
  (dSeqS
  (dSet 2 (dComp (dRange1 (fz (dOp fIx (dBVar 0) (dC (.int 0))))) [3] (.nm 3) (dB (fz (dOp fNotIn (dBVar 3) (dBVar 1)))) (dTup (dCons (dVar 3) (dCons (fz (dCall C 293 (dCons (dVar 0) (dCons (fz (dOp fAdd (dBVar 1) (dTup (dCons (dVar 3) dNil)))) dNil)))) dNil)))))
  (dRet (dComp (dSeq (dBVar 2)) [3, 4] (.tp [(.nm 3), (.nm 4)]) (dB (fz (dOp fGt (dBVar 4) (dC (.int 0))))) (dTup (dCons (dVar 3) (dCons (dVar 4) dNil))))))
def q_next_counts : FD := ⟨"next_counts", 2, 5, b_next_counts⟩
abbrev i_next_counts : Nat := 396

def b_noted (C : Calls) : DS :=
  (dRet (dComp (dSeq (fz (dOp fIx (dBVar 0) (dC (.int 2))))) [2, 3, 4] (.tp [(.nm 2), (.nm 3), (.nm 4)]) (dB (fz (dOp fEq (dBVar 3) (dBVar 1)))) (dTup (dCons (dVar 2) (dCons (dVar 4) dNil)))))
def q_noted : FD := ⟨"noted", 2, 5, b_noted⟩
abbrev i_noted : Nat := 399

def b_number_of (C : Calls) : DS :=
  (dSeqS
  (dDropX (dCall C 388 (only (dCons (dVar 0) (dCons (dVar 1) dNil)))))
  (dSeqS
  (dSet 2 (rv (dC (.int 0))))
  (dSeqS
  (dFor (dEnum (dVar 1)) (.tp [(.nm 3), (.nm 4)]) (dAug 2 (pureO (gI fun i j => i + j)) (fz (dBlt bSum (dCons (fz (dComp (dSeq (fz (dCall C 396 (dCons (dVar 0) (dCons (fz (dBlt bTuple (dCons (fz (dSl (dBVar 1) oNone (oSome (dVar 3)))) dNil))) dNil))))) [5, 6] (.tp [(.nm 5), (.nm 6)]) (dB (fz (dOp fLt (dBVar 5) (dBVar 4)))) (dVar 6))) dNil)))))
  (dRet (dMv 2)))))
def q_number_of : FD := ⟨"number_of", 2, 7, b_number_of⟩
abbrev i_number_of : Nat := 401

def b_open_orders (C : Calls) : DS :=
  (dRet (dOp fSub (fz (dCall C 407 (dCons (dVar 0) (dCons (fz (dLst (dCons (dTup (dCons (dVar 1) (dCons (dVar 2) dNil))) dNil))) dNil)))) (fz (dBlt bSum (dCons (fz (dComp (dRange1 (dVar 1)) [4] (.nm 4) dYes (fz (dCall C 407 (dCons (dVar 0) (dCons (fz (dLst (dCons (dTup (dCons (dVar 4) (dCons (dVar 3) dNil))) (dCons (dTup (dCons (dVar 1) (dCons (dVar 2) dNil))) dNil)))) dNil)))))) dNil)))))
def q_open_orders : FD := ⟨"open_orders", 4, 5, b_open_orders⟩
abbrev i_open_orders : Nat := 402

def b_order_at (C : Calls) : DS :=
  (dSeqS
  (dIfS (dNotT (dB (dChain fLe fLt (dC (.int 0)) (dBVar 1) (fz (dCall C 295 (dCons (dVar 0) dNil)))))) (dRaise "NoNumber" "number" (dVar 1)) dSkip)
  (dSeqS
  (dPar [3, 4] (rCons (rv (dTup dNil)) (rCons (rv (dVar 1)) rNil)))
  (dSeqS
  (dFor (dRange1 (fz (dOp fIx (dBVar 0) (dC (.int 1))))) (.nm 2) (dFor (dSeq (fz (dCall C 396 (dCons (dVar 0) (dCons (dVar 3) dNil))))) (.tp [(.nm 5), (.nm 6)]) (dSeqS
  (dIfS (dB (fz (dOp fLt (dBVar 4) (dBVar 6)))) (dSeqS
  (dSet 3 (dOp fAdd (dBVar 3) (dTup (dCons (dVar 5) dNil))))
  dBreak) dSkip)
  (dAug 4 fSub (dBVar 6)))))
  (dRet (dMv 3)))))
def q_order_at : FD := ⟨"order_at", 2, 7, b_order_at⟩
abbrev i_order_at : Nat := 403

def b_pairs_of (C : Calls) : DS :=
  (dSeqS
  (dSet 2 (dLst dNil))
  (dSeqS
  (dFor (dRange1 (fz (dBlt bLen (dCons (dBVar 1) dNil)))) (.nm 3) (dMut1 2 fExt (fz (dComp (dRange2 (fz (dOp fAdd (dBVar 3) (dC (.int 1)))) (fz (dBlt bLen (dCons (dBVar 1) dNil)))) [4] (.nm 4) (dB (fz (dCall C 314 (dCons (dVar 0) (dCons (fz (dCall C 423 (dCons (dVar 1) (dCons (dVar 3) (dCons (dVar 4) dNil))))) dNil))))) (dTup (dCons (dVar 3) (dCons (dVar 4) dNil)))))))
  (dRet (dMv 2))))
def q_pairs_of : FD := ⟨"pairs_of", 2, 5, b_pairs_of⟩
abbrev i_pairs_of : Nat := 406

def b_placed (C : Calls) : DS :=
  (dSeqS
  (dUnp (.tp [(.nm 4), (.nm 5), (.nm 6)]) (fz (dCall C 408 (dCons (dVar 0) dNil))))
  (dSeqS
  (dSet 2 (dBlt bDict (dCons (fz (dCall C 399 (dCons (dVar 0) (dCons (dC (.str "closed")) dNil)))) dNil)))
  (dSeqS
  (dFor (dSeq (dVar 1)) (.tp [(.nm 7), (.nm 8)]) (dSeqS
  (dIfS (dB (fz (dOp fNe (dDget (dBVar 2) (dBVar 7) (dVar 8)) (dBVar 8)))) (dRet (rv (dC (.int 0)))) dSkip)
  (dPutD 2 (dVar 7) (dVar 8))))
  (dSeqS
  (dSet 3 (dComp (dSeq (dBVar 6)) [9] (.nm 9) (dB (fz (dOp fEq (fz (dOp fIx (dBVar 9) (dC (.int 1)))) (dC (.str "end"))))) (dVar 9)))
  (dRet (dCall C 295 (dCons (dTup (dCons (dVar 4) (dCons (dVar 5) (dCons (fz (dBlt bTuple (dCons (fz (dBlt bSorted (dCons (fz (dOp fAdd (dBVar 3) (fz (dLk 2 (dComp (dKeys (dBVar 2)) [7] (.nm 7) dYes (dTup (dCons (dVar 7) (dCons (dC (.str "closed")) (dCons (fz (dOp fIx (dBVar 2) (dBVar 7))) dNil))))))))) dNil))) dNil))) dNil)))) dNil)))))))
def q_placed : FD := ⟨"placed", 2, 10, b_placed⟩
abbrev i_placed : Nat := 407

def b_plain (C : Calls) : DS :=
  (dRet (rv (dTup (dCons (fz (dOp fIx (dBVar 0) (dC (.int 0)))) (dCons (fz (dOp fIx (dBVar 0) (dC (.int 1)))) (dCons (fz (dBlt bTuple (dCons (fz (dComp (dSeq (fz (dOp fIx (dBVar 0) (dC (.int 2))))) [1] (.nm 1) dYes (fz (dBlt bTuple (dCons (dBVar 1) dNil))))) dNil))) dNil))))))
def q_plain : FD := ⟨"plain", 1, 2, b_plain⟩
abbrev i_plain : Nat := 408

def b_plan (C : Calls) : DS :=
  (dSeqS
  (dDropX (dCall C 389 (only (dCons (dVar 0) (dCons (dVar 1) (dCons (dVar 2) dNil))))))
  (dSeqS
  (dPar [3, 4] (rCons (dBlt bTuple (dCons (dBVar 1) dNil)) (rCons (dLst dNil) rNil)))
  (dSeqS
  (dWhile (dB (fz (dOp fNe (dBVar 3) (fz (dBlt bTuple (dCons (dBVar 2) dNil)))))) (dSeqS
  (dSet 5 (dCall C 297 (dCons (fz (dOp fIx (fz (dCall C 414 (dCons (dVar 3) (dCons (dVar 2) dNil)))) (dC (.int 0)))) (dCons (dVar 3) (dCons (dVar 2) dNil)))))
  (dSeqS
  (dMut1 4 fApp (dVar 5))
  (dSet 3 (dCall C 423 (dCons (dVar 3) (dCons (fz (dOp fIx (dBVar 5) (dC (.int 0)))) (dCons (fz (dOp fIx (dBVar 5) (dC (.int 1)))) dNil))))))))
  (dRet (dMv 4)))))
def q_plan : FD := ⟨"plan", 3, 6, b_plan⟩
abbrev i_plan : Nat := 409

def b_reached (C : Calls) : DS :=
  (dSeqS
  (dPar [2, 3] (rCons (dLst (dCons (dC (.int 0)) dNil)) (rCons (dLst (dCons (dC (.int 0)) dNil)) rNil)))
  (dSeqS
  (dWhile (dB (fz (dOp fGt (fz (dBlt bLen (dCons (dBVar 3) dNil))) (dC (.int 0))))) (dSeqS
  (dPop 4 3)
  (dFor (dSeq (fz (dCall C 395 (dCons (dVar 1) (dCons (dVar 4) dNil))))) (.nm 5) (dIfS (dB (fz (dOp fNotIn (dBVar 5) (dBVar 2)))) (dSeqS
  (dMut1 2 fApp (dVar 5))
  (dMut1 3 fApp (dVar 5))) dSkip))))
  (dRet (dMv 2))))
def q_reached : FD := ⟨"reached", 2, 6, b_reached⟩
abbrev i_reached : Nat := 410

def b_record_of (C : Calls) : DS :=
  (dSeqS
  (dPar [3, 4] (rCons (dOp fIx (dBVar 0) (dC (.int 1))) (rCons (dLst dNil) rNil)))
  (dSeqS
  (dFor (dSeq (dVar 1)) (.nm 2) (dSeqS
  (dFrz 3 (dSet 5 (dCall C 395 (dCons (dVar 3) (dCons (dVar 2) dNil)))))
  (dSeqS
  (dIfS (dB (fz (dOp fNe (fz (dBlt bLen (dCons (dBVar 5) dNil))) (dC (.int 1))))) (dRaise "NoLeaf" "town" (dVar 2)) dSkip)
  (dSeqS
  (dMut1 4 fApp (fz (dOp fIx (dBVar 5) (dC (.int 0)))))
  (dFrz 3 (dSet 3 (dCall C 417 (dCons (dVar 3) (dCons (dVar 2) dNil)))))))))
  (dRet (dBlt bTuple (dCons (dBVar 4) dNil)))))
def q_record_of : FD := ⟨"record_of", 2, 6, b_record_of⟩
abbrev i_record_of : Nat := 411

def b_reduced (C : Calls) : DS :=
  (dSeqS
  (dSet 2 (dCall C 307 (dCons (dVar 0) (dCons (dVar 1) dNil))))
  (dRet (rv (dTup (dCons (fz (dOp fDiv (dBVar 0) (dBVar 2))) (dCons (fz (dOp fDiv (dBVar 1) (dBVar 2))) dNil))))))
def q_reduced : FD := ⟨"reduced", 2, 3, b_reduced⟩
abbrev i_reduced : Nat := 412

def b_rings (C : Calls) : DS :=
  (dSeqS
  (dDropX (dCall C 389 (only (dCons (dVar 0) (dCons (dVar 1) (dCons (dVar 2) dNil))))))
  (dRet (dCall C 414 (dCons (dVar 1) (dCons (dVar 2) dNil)))))
def q_rings : FD := ⟨"rings", 3, 3, b_rings⟩
abbrev i_rings : Nat := 413

def b_rings_of (C : Calls) : DS :=
  (dSeqS
  (dPar [2, 3] (rCons (dComp (dSeq (dBVar 0)) [7] (.nm 7) dYes (dIndex (fz (dBlt bList (dCons (dBVar 1) dNil))) (dVar 7))) (rCons (dLst dNil) rNil)))
  (dSeqS
  (dFrz 2 (dFor (dEnum (dVar 2)) (.tp [(.nm 4), (.nm 5)]) (dIfS (dAndT (dB (fz (dOp fNe (dBVar 5) (dBVar 4)))) (dNotT (dB (fz (dBlt bAny (dCons (fz (dComp (dSeq (dBVar 3)) [6] (.nm 6) dYes (fz (dOp fIn (dBVar 4) (dBVar 6))))) dNil)))))) (dSeqS
  (dSet 6 (dLst (dCons (dVar 4) dNil)))
  (dSeqS
  (dWhile (dB (fz (dOp fNe (fz (dOp fIx (dBVar 2) (fz (dOp fIx (dBVar 6) (fz (dUn fNeg (dC (.int 1)))))))) (dBVar 4)))) (dMut1 6 fApp (fz (dOp fIx (dBVar 2) (fz (dOp fIx (dBVar 6) (fz (dUn fNeg (dC (.int 1))))))))))
  (dMut1 3 fApp (fz (dBlt bTuple (dCons (dBVar 6) dNil)))))) dSkip)))
  (dRet (dMv 3))))
def q_rings_of : FD := ⟨"rings_of", 2, 8, b_rings_of⟩
abbrev i_rings_of : Nat := 414

def b_road_chance (C : Calls) : DS :=
  (dSeqS
  (dDropX (dCall C 386 (only (dCons (dVar 0) (dCons (fz (dLst (dCons (dVar 1) (dCons (dVar 2) dNil)))) dNil)))))
  (dRet (dCall C 280 (dCons (fz (dCall C 425 (dCons (dVar 0) (dCons (dVar 1) (dCons (dVar 2) dNil))))) (dCons (fz (dCall C 425 (dCons (dVar 0) (dCons (dVar 2) (dCons (dVar 1) dNil))))) dNil)))))
def q_road_chance : FD := ⟨"road_chance", 3, 3, b_road_chance⟩
abbrev i_road_chance : Nat := 415

def b_roads_of (C : Calls) : DS :=
  (dSeqS
  (dDropX (dCall C 386 (only (dCons (dVar 0) (dCons (fz (dLst dNil)) dNil)))))
  (dSeqS
  (dPar [2, 3] (rCons (dLst dNil) (rCons (dLst dNil) rNil)))
  (dSeqS
  (dFor (dRange1 (fz (dOp fIx (dBVar 0) (dC (.int 0))))) (.nm 1) (dFor (dRange2 (fz (dOp fAdd (dBVar 1) (dC (.int 1)))) (fz (dOp fIx (dBVar 0) (dC (.int 0))))) (.nm 4) (dSeqS
  (dSetX 5 (dCall C 415 (only (dCons (dVar 0) (dCons (dVar 1) (dCons (dVar 4) dNil))))))
  (dSeqS
  (dIfS (dB (fz (dOp fEq (dBVar 5) (dTup (dCons (dC (.int 1)) (dCons (dC (.int 1)) dNil)))))) (dMut1 2 fApp (dTup (dCons (dVar 1) (dCons (dVar 4) dNil)))) dSkip)
  (dIfS (dB (fz (dOp fGt (fz (dOp fIx (dBVar 5) (dC (.int 0)))) (dC (.int 0))))) (dMut1 3 fApp (dTup (dCons (dVar 1) (dCons (dVar 4) dNil)))) dSkip)))))
  (dFrz 2 (dFrz 3 (dRet (rv (dTup (dCons (dVar 2) (dCons (dVar 3) dNil))))))))))
def q_roads_of : FD := ⟨"roads_of", 1, 6, b_roads_of⟩
abbrev i_roads_of : Nat := 416

def b_roads_without (C : Calls) : DS :=
  (dRet (dComp (dSeq (dBVar 0)) [2, 3] (.tp [(.nm 2), (.nm 3)]) (dB (fz (dOp fNotIn (dBVar 1) (dTup (dCons (dVar 2) (dCons (dVar 3) dNil)))))) (dTup (dCons (dVar 2) (dCons (dVar 3) dNil)))))
def q_roads_without : FD := ⟨"roads_without", 2, 4, b_roads_without⟩
abbrev i_roads_without : Nat := 417

def b_shows_evidence (C : Calls) : DS :=
  (dSeqS
  (dIfS (dOrT (dNotT (dB (fz (dBlt bIsi (dCons (dBVar 1) (dCons (dC (.ty "tuple")) dNil)))))) (dOrT (dB (fz (dOp fNe (fz (dBlt bLen (dCons (dBVar 1) dNil))) (dC (.int 2))))) (dOrT (dNotT (dB (fz (dBlt bIsi (dCons (fz (dOp fIx (dBVar 1) (dC (.int 0)))) (dCons (dC (.ty "str")) dNil)))))) (dNotT (dB (fz (dCall C 312 (dCons (fz (dOp fIx (dBVar 1) (dC (.int 1)))) dNil)))))))) (dRet (rv (dC (.bl false)))) dSkip)
  (dSeqS
  (dIfS (dB (fz (dOp fEq (fz (dOp fIx (dBVar 1) (dC (.int 0)))) (dC (.str "never"))))) (dRet (dOp fIn (fz (dOp fIx (dBVar 1) (dC (.int 1)))) (fz (dCall C 392 (dCons (dVar 0) dNil))))) dSkip)
  (dRet (rv (dAnd (fz (dOp fEq (fz (dOp fIx (dBVar 1) (dC (.int 0)))) (dC (.str "few")))) (dAnd (dChain fLe fLt (dC (.int 0)) (fz (dOp fIx (dBVar 1) (dC (.int 1)))) (fz (dOp fIx (dBVar 0) (dC (.int 1))))) (fz (dCall C 284 (dCons (dVar 0) (dCons (fz (dOp fIx (dBVar 1) (dC (.int 1)))) dNil))))))))))
def q_shows_evidence : FD := ⟨"shows_evidence", 2, 2, b_shows_evidence⟩
abbrev i_shows_evidence : Nat := 419

def b_shows_plan (C : Calls) : DS :=
  (dSeqS
  (dDropX (dCall C 388 (only (dCons (dVar 0) (dCons (dVar 1) dNil)))))
  (dSeqS
  (dDropX (dCall C 388 (only (dCons (dVar 0) (dCons (dVar 2) dNil)))))
  (dSeqS
  (dIfS (dNotT (dB (fz (dCall C 285 (dCons (dVar 3) dNil))))) (dRet (rv (dC (.bl false)))) dSkip)
  (dSeqS
  (dSet 4 (dBlt bTuple (dCons (dBVar 1) dNil)))
  (dSeqS
  (dFor (dSeq (dVar 3)) (.tp [(.nm 5), (.nm 6)]) (dSeqS
  (dIfS (dOrT (dNotT (dB (dChain3 fLe fLt fLt (dC (.int 0)) (dBVar 5) (dBVar 6) (fz (dBlt bLen (dCons (dBVar 4) dNil)))))) (dNotT (dB (fz (dCall C 314 (dCons (dVar 0) (dCons (fz (dCall C 423 (dCons (dVar 4) (dCons (dVar 5) (dCons (dVar 6) dNil))))) dNil))))))) (dRet (rv (dC (.bl false)))) dSkip)
  (dSet 4 (dCall C 423 (dCons (dVar 4) (dCons (dVar 5) (dCons (dVar 6) dNil)))))))
  (dRet (dOp fEq (dBVar 4) (fz (dBlt bTuple (dCons (dBVar 2) dNil))))))))))
def q_shows_plan : FD := ⟨"shows_plan", 4, 7, b_shows_plan⟩
abbrev i_shows_plan : Nat := 420

def b_size_from (C : Calls) : DS :=
  (dSeqS
  (dSet 4 (rv (dC (.int 1))))
  (dSeqS
  (dFor (dSeq (fz (dCall C 395 (dCons (dVar 0) (dCons (dVar 1) dNil))))) (.nm 5) (dIfS (dB (fz (dOp fNe (dBVar 5) (dBVar 2)))) (dAug 4 (pureO (gI fun i j => i + j)) (fz (dCall C 421 (dCons (dVar 0) (dCons (dVar 5) (dCons (dVar 1) (dCons (dVar 3) dNil))))))) dSkip))
  (dSeqS
  (dMut1 3 fApp (dVar 4))
  (dRet (dMv 4)))))
def q_size_from : FD := ⟨"size_from", 4, 6, b_size_from⟩
abbrev i_size_from : Nat := 421

def b_span (C : Calls) : DS :=
  (dSeqS
  (dSet 2 (dComp (dSeq (fz (dCall C 399 (dCons (dVar 0) (dCons (dC (.str "closed")) dNil))))) [4, 5] (.tp [(.nm 4), (.nm 5)]) (dB (fz (dOp fEq (dBVar 5) (dBVar 1)))) (dVar 4)))
  (dSeqS
  (dSet 3 (rv (dOp2 bMaxD (fz (dOp fAdd (fz (dComp (dSeq (fz (dCall C 399 (dCons (dVar 0) (dCons (dC (.str "end")) dNil))))) [4, 5] (.tp [(.nm 4), (.nm 5)]) (dB (fz (dOp fEq (dBVar 5) (dBVar 1)))) (fz (dOp fAdd (dBVar 4) (dC (.int 1)))))) (dBVar 2))) (dC (.int 0)))))
  (dRet (rv (dTup (dCons (dVar 3) (dCons (dOp2 bMinD (dBVar 2) (fz (dOp fSub (fz (dOp fIx (dBVar 0) (dC (.int 1)))) (dC (.int 1))))) dNil)))))))
def q_span : FD := ⟨"span", 2, 6, b_span⟩
abbrev i_span : Nat := 422

def b_swapped (C : Calls) : DS :=
  (dSeqS
  (dSet 3 (dBlt bList (dCons (dBVar 0) dNil)))
  (dSeqS
  (dPut2 3 (dVar 1) (dVar 2) (fz (dOp fIx (dBVar 3) (dBVar 2))) (fz (dOp fIx (dBVar 3) (dBVar 1))))
  (dRet (dBlt bTuple (dCons (dBVar 3) dNil)))))
def q_swapped : FD := ⟨"swapped", 3, 4, b_swapped⟩
abbrev i_swapped : Nat := 423

def b_times_of (C : Calls) : DS :=
  (dSeqS
  (dDropX (dCall C 386 (only (dCons (dVar 0) (dCons (fz (dLst (dCons (dVar 1) dNil))) dNil)))))
  (dRet (dComp (dEnum (fz (dCall C 433 (dCons (dVar 0) (dCons (dVar 1) dNil))))) [2, 3] (.tp [(.nm 2), (.nm 3)]) (dB (fz (dOp fGt (dBVar 3) (dC (.int 0))))) (dVar 2))))
def q_times_of : FD := ⟨"times_of", 2, 4, b_times_of⟩
abbrev i_times_of : Nat := 424

def b_toward (C : Calls) : DS :=
  (dSeqS
  (dPar [5, 6] (rCons (dCall C 302 (dCons (dVar 0) dNil)) (rCons (rv (dTup (dCons (dC (.int 0)) (dCons (dC (.int 1)) dNil)))) rNil)))
  (dSeqS
  (dSet 3 (dCall C 295 (dCons (dVar 0) dNil)))
  (dSeqS
  (dFor (dRange1 (fz (dOp fIx (dBVar 0) (dC (.int 1))))) (.nm 4) (dIfS (dB (fz (dOp fEq (dDget (dBVar 5) (dBVar 4) (dVar 2)) (dBVar 2)))) (dSeqS
  (dSet 7 (dIfR (dB (fz (dOp fIn (dBVar 4) (dBVar 5)))) (dCall C 407 (dCons (dVar 0) (dCons (fz (dLst (dCons (dTup (dCons (dVar 4) (dCons (dVar 1) dNil))) dNil))) dNil))) (dCall C 402 (dCons (dVar 0) (dCons (dVar 4) (dCons (dVar 1) (dCons (dVar 2) dNil)))))))
  (dSet 6 (dCall C 280 (dCons (dVar 6) (dCons (dTup (dCons (dVar 7) (dCons (fz (dOp fMul (dBVar 3) (dIf (dB (fz (dOp fIn (dBVar 4) (dBVar 5)))) (dC (.int 1)) (fz (dOp fSub (fz (dOp fSub (fz (dOp fIx (dBVar 0) (dC (.int 0)))) (dC (.int 1)))) (dBVar 4)))))) dNil))) dNil))))) dSkip))
  (dRet (dMv 6)))))
def q_toward : FD := ⟨"toward", 3, 8, b_toward⟩
abbrev i_toward : Nat := 425

def b_towns_in (C : Calls) : DS :=
  (dRetX (dCall C 291 (only (dCons (fz (dCall C 427 (dCons (dVar 0) dNil))) (dCons (dVar 0) dNil)))))
def q_towns_in : FD := ⟨"towns_in", 1, 1, b_towns_in⟩
abbrev i_towns_in : Nat := 426

def b_tree_in (C : Calls) : DS :=
  (dRetX (dCall C 291 (only (dCons (fz (dCall C 431 (dCons (dVar 0) dNil))) (dCons (dVar 0) dNil)))))
def q_tree_in : FD := ⟨"tree_in", 1, 1, b_tree_in⟩
abbrev i_tree_in : Nat := 429

def b_tree_of (C : Calls) : DS :=
  (dSeqS
  (dSet 2 (dComp (dZip (dVar 0) (dVar 1)) [3, 4] (.tp [(.nm 3), (.nm 4)]) dYes (dTup (dCons (fz (dBlt bMin2 (dCons (dBVar 3) (dCons (dBVar 4) dNil)))) (dCons (fz (dBlt bMax2 (dCons (dBVar 3) (dCons (dBVar 4) dNil)))) dNil)))))
  (dRet (rv (dTup (dCons (fz (dOp fAdd (fz (dBlt bLen (dCons (dBVar 0) dNil))) (dC (.int 1)))) (dCons (fz (dBlt bTuple (dCons (fz (dBlt bSorted (dCons (dBVar 2) dNil))) dNil))) dNil))))))
def q_tree_of : FD := ⟨"tree_of", 2, 5, b_tree_of⟩
abbrev i_tree_of : Nat := 430

def b_ways_at (C : Calls) : DS :=
  (dRet (dComp (dRange1 (fz (dOp fIx (dBVar 0) (dC (.int 1))))) [2] (.nm 2) dYes (fz (dCall C 407 (dCons (dVar 0) (dCons (fz (dLst (dCons (dTup (dCons (dVar 2) (dCons (dVar 1) dNil))) dNil))) dNil))))))
def q_ways_at : FD := ⟨"ways_at", 2, 3, b_ways_at⟩
abbrev i_ways_at : Nat := 433

def b_window (C : Calls) : DS :=
  (dSeqS
  (dDropX (dCall C 391 (only (dCons (dVar 0) (dCons (dVar 1) dNil)))))
  (dRet (dCall C 422 (dCons (dVar 0) (dCons (dVar 1) dNil)))))
def q_window : FD := ⟨"window", 2, 2, b_window⟩
abbrev i_window : Nat := 434

def b_windows (C : Calls) : DS :=
  (dRet (dComp (dRange1 (fz (dOp fIx (dBVar 0) (dC (.int 0))))) [1] (.nm 1) dYes (fz (dCall C 422 (dCons (dVar 0) (dCons (dVar 1) dNil))))))
def q_windows : FD := ⟨"windows", 1, 2, b_windows⟩
abbrev i_windows : Nat := 435

def b_with_lost (C : Calls) : DS :=
  (dSeqS
  (dPar [4, 5] (rCons (dCall C 302 (dCons (dVar 0) dNil)) (rCons (rv (dVar 2)) rNil)))
  (dSeqS
  (dFor (dRange1 (dVar 1)) (.nm 3) (dIfS (dB (fz (dOp fNotIn (dBVar 3) (dBVar 4)))) (dSeqS
  (dPar [6, 7] (rCons (dOp fSub (fz (dOp fSub (fz (dOp fIx (dBVar 0) (dC (.int 0)))) (dC (.int 1)))) (dBVar 3)) (rCons dNewK rNil)))
  (dSeqS
  (dFrzL 5 (dFor (dItems (dVar 5)) (.tp [(.nm 8), (.nm 9)]) (dSeqS
  (dPutD 7 (fz (dOp fAdd (dBVar 8) (dC (.int 1)))) (fz (dCall C 280 (dCons (dDget (dBVar 7) (fz (dOp fAdd (dBVar 8) (dC (.int 1)))) (dTup (dCons (dC (.int 0)) (dCons (dC (.int 1)) dNil)))) (dCons (dTup (dCons (fz (dOp fIx (dBVar 9) (dC (.int 0)))) (dCons (fz (dOp fMul (fz (dOp fIx (dBVar 9) (dC (.int 1)))) (dBVar 6))) dNil))) dNil)))))
  (dPutD 7 (dVar 8) (fz (dCall C 280 (dCons (dDget (dBVar 7) (dBVar 8) (dTup (dCons (dC (.int 0)) (dCons (dC (.int 1)) dNil)))) (dCons (dTup (dCons (fz (dOp fMul (fz (dOp fIx (dBVar 9) (dC (.int 0)))) (fz (dOp fSub (dBVar 6) (dC (.int 1)))))) (dCons (fz (dOp fMul (fz (dOp fIx (dBVar 9) (dC (.int 1)))) (dBVar 6))) dNil))) dNil))))))))
  (dFrzL 7 (dSet 5 (rv (dVar 7)))))) dSkip))
  (dRet (dMv 5))))
def q_with_lost : FD := ⟨"with_lost", 3, 10, b_with_lost⟩
abbrev i_with_lost : Nat := 436

def b_with_note (C : Calls) : DS :=
  (dSeqS
  (dUnp (.tp [(.nm 3), (.nm 4), (.nm 5)]) (fz (dCall C 408 (dCons (dVar 0) dNil))))
  (dSeqS
  (dFor (dSeq (dVar 5)) (.nm 2) (dIfS (dB (fz (dOp fEq (fz (dSl (dBVar 2) oNone (oSome (dC (.int 2))))) (fz (dSl (fz (dBlt bTuple (dCons (dBVar 1) dNil))) oNone (oSome (dC (.int 2)))))))) (dRaise "Noted" "note" (dVar 2)) dSkip))
  (dRet (rv (dTup (dCons (dVar 3) (dCons (dVar 4) (dCons (fz (dBlt bTuple (dCons (fz (dBlt bSorted (dCons (fz (dOp fAdd (dBVar 5) (dTup (dCons (fz (dBlt bTuple (dCons (dBVar 1) dNil))) dNil)))) dNil))) dNil))) dNil))))))))
def q_with_note : FD := ⟨"with_note", 2, 6, b_with_note⟩
abbrev i_with_note : Nat := 437

def b_without_note (C : Calls) : DS :=
  (dSeqS
  (dUnp (.tp [(.nm 2), (.nm 3), (.nm 4)]) (fz (dCall C 408 (dCons (dVar 0) dNil))))
  (dSeqS
  (dIfS (dB (fz (dOp fNotIn (fz (dBlt bTuple (dCons (dBVar 1) dNil))) (dBVar 4)))) (dRaise "NoNote" "note" (fz (dBlt bTuple (dCons (dBVar 1) dNil)))) dSkip)
  (dRet (rv (dTup (dCons (dVar 2) (dCons (dVar 3) (dCons (fz (dBlt bTuple (dCons (fz (dComp (dSeq (dBVar 4)) [5] (.nm 5) (dB (fz (dOp fNe (dBVar 5) (fz (dBlt bTuple (dCons (dBVar 1) dNil)))))) (dVar 5))) dNil))) dNil))))))))
def q_without_note : FD := ⟨"without_note", 2, 6, b_without_note⟩
abbrev i_without_note : Nat := 438

end MP

namespace MP
open PySem PySem.Spec
/-! ### runs that end well -/
def okE {α : Type} (r : Res α) (Q : α → Sto → Prop) : Prop := ∃ a S, r = .ok a S ∧ Q a S
abbrev PN := Envm → Sto → Prop
abbrev PT := R → Sto → Prop
def okO (o : Out) (N : PN) (T : PT) (K C : PN) : Prop := match o with
  | .nx e S => N e S
  | .rt r S => T r S
  | .bk e S => K e S
  | .ct e S => C e S
  | _ => False
def okB (o : Option Envm) (P : Envm → Prop) : Prop := match o with
  | some e => P e
  | none => False
def no2 {α : Type} : α → Sto → Prop := fun _ _ => False
theorem eq_of_ok {α : Type} {r : Res α} {x : α} {S : Sto} (h : okE r fun a S' => a = x ∧ S' = S) : r = .ok x S := by
  obtain ⟨a, S1, h1, rfl, rfl⟩ := h
  exact h1
theorem ok_of_eq {α : Type} {r : Res α} {x : α} {S : Sto} {Q : α → Sto → Prop} (h : r = .ok x S) (q : Q x S) : okE r Q := ⟨x, S, h, q⟩
theorem okE.imp {α : Type} {r : Res α} {P Q : α → Sto → Prop} (h : okE r P) (i : ∀ a S, P a S → Q a S) : okE r Q := by
  obtain ⟨a, S, h1, h2⟩ := h
  exact ⟨a, S, h1, i a S h2⟩
theorem okE_ok {α : Type} (a : α) (S : Sto) (Q : α → Sto → Prop) : okE (.ok a S) Q = Q a S := propext ⟨fun ⟨_, _, h, q⟩ => by cases h; exact q, fun q => ⟨a, S, rfl, q⟩⟩
theorem okE_bad {α : Type} (Q : α → Sto → Prop) : okE .bad Q = False := propext ⟨fun ⟨_, _, h, _⟩ => (nomatch h), fun q => False.elim q⟩
theorem okE_bind {α β : Type} (r : Res α) (f : α → Sto → Res β) (Q : β → Sto → Prop) : okE (r.bind f) Q = okE r fun a S => okE (f a S) Q := by
  cases r with
  | ok a S => rw [okE_ok]; rfl
  | xn c x S => exact propext ⟨fun ⟨_, _, h, _⟩ => (nomatch h), fun ⟨_, _, h, _⟩ => (nomatch h)⟩
  | bad => rw [okE_bad]; exact okE_bad _
theorem okE_map {α β : Type} (r : Res α) (f : α → β) (Q : β → Sto → Prop) : okE (r.map f) Q = okE r fun a S => Q (f a) S := by
  cases r with
  | ok a S => rw [okE_ok]; exact okE_ok _ _ _
  | xn c x S => exact propext ⟨fun ⟨_, _, h, _⟩ => (nomatch h), fun ⟨_, _, h, _⟩ => (nomatch h)⟩
  | bad => rw [okE_bad]; exact okE_bad _
theorem okB_some (e : Envm) (P : Envm → Prop) : okB (some e) P = P e := rfl
theorem okB_none (P : Envm → Prop) : okB none P = False := rfl
section
variable (env e : Envm) (S : Sto) (i n : Nat) (N : PN) (T : PT) (K C : PN)
theorem okO_nx : okO (.nx e S) N T K C = N e S := rfl
theorem okO_rt (r : R) : okO (.rt r S) N T K C = T r S := rfl
theorem okO_bk : okO (.bk e S) N T K C = K e S := rfl
theorem okO_ct : okO (.ct e S) N T K C = C e S := rfl
theorem okO_bad : okO .bad N T K C = False := rfl
/-! ### expressions -/
theorem sz_nil {α : Type} : ([] : List α).length = 0 := rfl
theorem sz_cons {α : Type} (a : α) (l : List α) : (a :: l).length = l.length + 1 := rfl
theorem sz_map {α β : Type} (f : α → β) (l : List α) : (l.map f).length = l.length := List.length_map _
theorem at_zero {α : Type} (a : α) (l : List α) : (a :: l)[0]? = some a := rfl
theorem at_succ {α : Type} (a : α) (l : List α) (n : Nat) : (a :: l)[n + 1]? = l[n]? := rfl
theorem st_zero {α : Type} (a b : α) (l : List α) : (a :: l).set 0 b = b :: l := rfl
theorem st_succ {α : Type} (a b : α) (l : List α) (n : Nat) : (a :: l).set (n + 1) b = a :: l.set n b := rfl
def slV : Option Sl → Sto → Res D := fun o S => match o with
  | some (.va d) => .ok d S
  | _ => .bad
def slB : Option Sl → Sto → Res D := fun o S => match o with
  | some (.va d) => .ok d S
  | some (.ow x) => .ok x.toD S
  | _ => .bad
def slM : Option Sl → Sto → Res R := fun o S => match o with
  | some (.va d) => .ok (.v d) S
  | some (.ow x) => .ok (.o x) S
  | _ => .bad
theorem ev_dVar : dVar i env S = slV env[i]? S := by unfold dVar slV; split <;> simp_all
theorem ev_dBVar : dBVar i env S = slB env[i]? S := by unfold dBVar slB; split <;> simp_all
theorem ev_dMv : dMv i env S = slM env[i]? S := by unfold dMv slM; split <;> simp_all
theorem slV_va (d : D) : slV (some (.va d)) S = .ok d S := rfl
theorem slB_va (d : D) : slB (some (.va d)) S = .ok d S := rfl
theorem slB_l (x : List D) : slB (some (.ow (.l x))) S = .ok (.lst x) S := rfl
theorem slB_k (x : List L2.Key) (y : List D) : slB (some (.ow (.k x y))) S = .ok (.dk x y) S := rfl
theorem slB_t (x : List (List L2.Key)) (y : List D) : slB (some (.ow (.t x y))) S = .ok (.dt x y) S := rfl
theorem slM_va (d : D) : slM (some (.va d)) S = .ok (.v d) S := rfl
theorem slM_ow (x : O) : slM (some (.ow x)) S = .ok (.o x) S := rfl
theorem ev_dC (d : D) : dC d env S = .ok d S := rfl
theorem ev_fz (dr : DR) : fz dr env S = (dr env S).map R.val := rfl
theorem ev_rv (de : DE) : rv de env S = (de env S).map R.v := rfl
theorem val_v (d : D) : R.val (.v d) = d := rfl
theorem val_l (x : List D) : R.val (.o (.l x)) = .lst x := rfl
theorem val_k (x : List L2.Key) (y : List D) : R.val (.o (.k x y)) = .dk x y := rfl
theorem val_t (x : List (List L2.Key)) (y : List D) : R.val (.o (.t x y)) = .dt x y := rfl
theorem ev_toDl (x : List D) : O.toD (.l x) = .lst x := rfl
theorem ev_toDk (x : List L2.Key) (y : List D) : O.toD (.k x y) = .dk x y := rfl
theorem ev_toDt (x : List (List L2.Key)) (y : List D) : O.toD (.t x y) = .dt x y := rfl
theorem ev_dOp (f : D → D → Sto → Res R) (da db : DE) : dOp f da db env S = (da env S).bind fun x S1 => (db env S1).bind fun y S2 => f x y S2 := rfl
theorem ev_dOp2 (f : D → D → Sto → Res D) (da db : DE) : dOp2 f da db env S = (da env S).bind fun x S1 => (db env S1).bind fun y S2 => f x y S2 := rfl
theorem ev_dUn (f : D → Sto → Res R) (da : DE) : dUn f da env S = (da env S).bind f := rfl
theorem ev_dNil : dNil env S = .ok [] S := rfl
theorem ev_dCons (da : DE) (dr : DA) : dCons da dr env S = (da env S).bind fun x S1 => (dr env S1).map fun xs => x :: xs := rfl
theorem ev_dTup (da : DA) : dTup da env S = (da env S).bind fun xs S1 => if xs.length ≤ 100000 then .ok (.tup xs) S1 else .bad := rfl
theorem ev_dLst (da : DA) : dLst da env S = (da env S).bind fun xs S1 => if xs.length ≤ 100000 then .ok (.o (.l xs)) S1 else .bad := rfl
def asB : D → Sto → Res Bool := fun d S => match d with
  | .bl b => .ok b S
  | _ => .bad
theorem asB_bl (b : Bool) : asB (.bl b) S = .ok b S := rfl
theorem ev_dB (de : DE) : dB de env S = (de env S).bind asB := rfl
theorem ev_dAndT (a b : DT) : dAndT a b env S = (a env S).bind fun c S1 => if c = true then b env S1 else .ok false S1 := rfl
theorem ev_dOrT (a b : DT) : dOrT a b env S = (a env S).bind fun c S1 => if c = true then .ok true S1 else b env S1 := rfl
theorem ev_dNotT (a : DT) : dNotT a env S = (a env S).map (!·) := rfl
theorem ev_dAnd (a b : DE) : dAnd a b env S = ((a env S).bind asB).bind fun c S1 => if c = true then b env S1 else .ok (.bl false) S1 := by
  show (a env S).bind _ = _
  cases a env S with
  | ok d S1 => cases d <;> first | rfl | (rename_i x; cases x <;> rfl)
  | xn c x S1 => rfl
  | bad => rfl
theorem ev_dOr (a b : DE) : dOr a b env S = ((a env S).bind asB).bind fun c S1 => if c = true then .ok (.bl true) S1 else b env S1 := by
  show (a env S).bind _ = _
  cases a env S with
  | ok d S1 => cases d <;> first | rfl | (rename_i x; cases x <;> rfl)
  | xn c x S1 => rfl
  | bad => rfl
theorem ev_dNot (a : DE) : dNot a env S = ((a env S).bind asB).map fun c => .bl (!c) := by
  show (a env S).bind _ = _
  cases a env S with
  | ok d S1 => cases d <;> first | rfl | (rename_i x; cases x <;> rfl)
  | xn c x S1 => rfl
  | bad => rfl
theorem ev_dIf (c : DT) (a b : DE) : dIf c a b env S = (c env S).bind fun k S1 => if k = true then a env S1 else b env S1 := rfl
theorem ev_dIfR (c : DT) (a b : DR) : dIfR c a b env S = (c env S).bind fun k S1 => if k = true then a env S1 else b env S1 := rfl
theorem ev_dCall (G : Calls) (f : Nat) (da : DA) : dCall G f da env S = (da env S).bind fun xs S1 => G f xs S1 := rfl
theorem ev_dBlt (f : List D → Sto → Res R) (da : DA) : dBlt f da env S = (da env S).bind f := rfl
theorem ev_dYes : dYes env S = .ok true S := rfl
theorem ev_dNewK : dNewK env S = .ok (.o (.k [] [])) S := rfl
theorem ev_dNewT : dNewT env S = .ok (.o (.t [] [])) S := rfl
def asBR : R → Sto → Res Bool := fun r S => match r with
  | .v (.bl b) => .ok b S
  | _ => .bad
theorem asBR_bl (b : Bool) : asBR (.v (.bl b)) S = .ok b S := rfl
theorem ev_dChain (f f' : D → D → Sto → Res R) (da db dc : DE) : dChain f f' da db dc env S = (da env S).bind fun x S1 => (db env S1).bind fun y S2 => (f x y S2).bind fun r S3 => (asBR r S3).bind fun c S3 => if c = true then (dc env S3).bind fun z S4 => (f' y z S4).map R.val else .ok (.bl false) S3 := by
  unfold dChain
  congr 1
  funext x S1
  congr 1
  funext y S2
  congr 1
  funext r S3
  cases r with
  | o _ => rfl
  | v d => cases d <;> first | rfl | (rename_i b; cases b <;> rfl)
theorem ev_oNone : oNone env S = .ok none S := rfl
def asI : D → Sto → Res Int := fun d S => match d with
  | .int b => .ok b S
  | _ => .bad
theorem asI_int (b : Int) : asI (.int b) S = .ok b S := rfl
theorem ev_oSome (de : DE) : oSome de env S = ((de env S).bind asI).map some := by
  show (de env S).bind _ = _
  cases de env S with
  | ok d S1 => cases d <;> rfl
  | xn c x S1 => rfl
  | bad => rfl
def slR : D → Option Int → Option Int → Sto → Res R := fun d lo hi S => match fSl d lo hi with
  | some r => .ok r S
  | none => .bad
theorem slR_lst (xs : List D) (lo hi : Option Int) : slR (.lst xs) lo hi S = .ok (.o (.l (cutD xs lo hi))) S := rfl
theorem slR_tup (xs : List D) (lo hi : Option Int) : slR (.tup xs) lo hi S = .ok (.v (.tup (cutD xs lo hi))) S := rfl
theorem ev_dSl (de : DE) (dl dh : DO) : dSl de dl dh env S = (de env S).bind fun d S1 => (dl env S1).bind fun lo S2 => (dh env S2).bind fun hi S3 => slR d lo hi S3 := rfl
def itR : D → Sto → Res (List D) := fun d S => match itemsOf d with
  | some ds => .ok ds S
  | none => .bad
theorem itR_tup (x : List D) : itR (.tup x) S = .ok x S := rfl
theorem itR_lst (x : List D) : itR (.lst x) S = .ok x S := rfl
theorem ev_dSeq (de : DE) : dSeq de env S = (de env S).bind itR := rfl
theorem ev_dEnum (de : DE) : dEnum de env S = ((de env S).bind itR).map (enumD 0) := by
  show (de env S).bind _ = _
  cases de env S with
  | ok d S1 => cases d <;> rfl
  | xn c x S1 => rfl
  | bad => rfl
def zpR : D → D → Sto → Res (List D) := fun x y S => match x, y with
  | .lst as, .lst bs => .ok (zipD as bs) S
  | .tup as, .tup bs => .ok (zipD as bs) S
  | _, _ => .bad
theorem zpR_lst (a b : List D) : zpR (.lst a) (.lst b) S = .ok (zipD a b) S := rfl
theorem zpR_tup (a b : List D) : zpR (.tup a) (.tup b) S = .ok (zipD a b) S := rfl
theorem ev_dZip (da db : DE) : dZip da db env S = (da env S).bind fun x S1 => (db env S1).bind fun y S2 => zpR x y S2 := rfl
def rg1 : D → Sto → Res (List D) := fun x S => match x with
  | .int j => if j ≤ 100000 ∧ -100000 ≤ j then .ok (rangeD 0 j) S else .bad
  | _ => .bad
def rg2 : D → D → Sto → Res (List D) := fun x y S => match x, y with
  | .int i, .int j => if (i ≤ 100000 ∧ -100000 ≤ i) ∧ (j ≤ 100000 ∧ -100000 ≤ j) then .ok (rangeD i j) S else .bad
  | _, _ => .bad
theorem rg1_i {j : Int} (h : j ≤ 100000 ∧ -100000 ≤ j) : rg1 (.int j) S = .ok (rangeD 0 j) S := by show (if _ then _ else _) = _; rw [if_pos h]
theorem ev_dRange1 (da : DE) : dRange1 da env S = (da env S).bind rg1 := rfl
theorem ev_dRange2 (da db : DE) : dRange2 da db env S = (da env S).bind fun x S1 => (db env S1).bind fun y S2 => rg2 x y S2 := rfl
theorem ev_dMkL (di : DA) : dMkL di env S = (di env S).map fun ds => .o (.l ds) := by
  show (di env S).bind _ = _
  cases di env S <;> rfl
theorem ev_dMkT (di : DA) : dMkT di env S = (di env S).map fun ds => .tup ds := by
  show (di env S).bind _ = _
  cases di env S <;> rfl
/-! ### operators -/
theorem ev_add (i j : Int) : fAdd (.int i) (.int j) S = .ok (.v (.int (i + j))) S := rfl
theorem ev_iadd (i j : Int) : pureO (gI fun i j => i + j) (.int i) (.int j) S = .ok (.v (.int (i + j))) S := rfl
theorem ev_sub (i j : Int) : fSub (.int i) (.int j) S = .ok (.v (.int (i - j))) S := rfl
theorem ev_lt (i j : Int) : fLt (.int i) (.int j) S = .ok (.v (.bl (decide (i < j)))) S := rfl
theorem ev_le (i j : Int) : fLe (.int i) (.int j) S = .ok (.v (.bl (decide (i ≤ j)))) S := rfl
theorem ev_gt (i j : Int) : fGt (.int i) (.int j) S = .ok (.v (.bl (decide (j < i)))) S := rfl
theorem ev_ge (i j : Int) : fGe (.int i) (.int j) S = .ok (.v (.bl (decide (j ≤ i)))) S := rfl
theorem ev_neg (i : Int) : fNeg (.int i) S = .ok (.v (.int (-i))) S := rfl
theorem ev_eqI (i j : Int) : fEq (.int i) (.int j) S = .ok (.v (.bl (decide (i = j)))) S := by
  have : deq (.int i) (.int j) = decide (i = j) := by
    show (i == j) = _
    by_cases c : i = j <;> simp [c]
  unfold fEq
  rw [if_pos ⟨rfl, rfl⟩, this]
theorem ev_neI (i j : Int) : fNe (.int i) (.int j) S = .ok (.v (.bl (!decide (i = j)))) S := by
  have : deq (.int i) (.int j) = decide (i = j) := by
    show (i == j) = _
    by_cases c : i = j <;> simp [c]
  unfold fNe
  rw [if_pos ⟨rfl, rfl⟩, this]
theorem ev_eq {x y : D} (hx : fitN 20 x = true) (hy : fitN 20 y = true) : fEq x y S = .ok (.v (.bl (deq x y))) S := by unfold fEq; rw [if_pos ⟨hx, hy⟩]
theorem ev_ne {x y : D} (hx : fitN 20 x = true) (hy : fitN 20 y = true) : fNe x y S = .ok (.v (.bl (!deq x y))) S := by unfold fNe; rw [if_pos ⟨hx, hy⟩]
theorem ev_isN (d : D) : fIsN d .non S = .ok (.v (.bl (isNon d))) S := rfl
theorem ev_notN (d : D) : fNotN d .non S = .ok (.v (.bl (!isNon d))) S := rfl
theorem isNon_non : isNon .non = true := rfl
theorem isNon_int (x : Int) : isNon (.int x) = false := rfl
theorem isNon_tup (x : List D) : isNon (.tup x) = false := rfl
theorem isNon_str (x : Str) : isNon (.str x) = false := rfl
def ixR : Option D → Sto → Res R := fun o S => match o with
  | some z => .ok (.v z) S
  | none => .bad
theorem ixR_some (z : D) : ixR (some z) S = .ok (.v z) S := rfl
theorem ev_ixT (xs : List D) (i : Int) : fIx (.tup xs) (.int i) S = ixR (ixD xs i) S := rfl
theorem ev_ixL (xs : List D) (i : Int) : fIx (.lst xs) (.int i) S = ixR (ixD xs i) S := rfl
theorem ixD_0 (x : D) (xs : List D) : ixD (x :: xs) 0 = some x := rfl
theorem ixD_1 (x y : D) (xs : List D) : ixD (x :: y :: xs) 1 = some y := rfl
theorem ixD_2 (x y z : D) (xs : List D) : ixD (x :: y :: z :: xs) 2 = some z := rfl
theorem ev_lenT (xs : List D) : bLen [.tup xs] S = .ok (.v (.int xs.length)) S := rfl
theorem ev_lenL (xs : List D) : bLen [.lst xs] S = .ok (.v (.int xs.length)) S := rfl
theorem ev_lenS (xs : List Int) : bLen [.scr xs] S = .ok (.v (.int xs.length)) S := rfl
theorem ev_lenK (ks : List L2.Key) (ds : List D) : bLen [.dk ks ds] S = .ok (.v (.int ks.length)) S := rfl
theorem ev_listT (xs : List D) : bList [.tup xs] S = .ok (.o (.l xs)) S := rfl
theorem ev_listL (xs : List D) : bList [.lst xs] S = .ok (.o (.l xs)) S := rfl
theorem ev_tupleT (xs : List D) : bTuple [.tup xs] S = .ok (.v (.tup xs)) S := rfl
theorem ev_tupleL (xs : List D) : bTuple [.lst xs] S = .ok (.v (.tup xs)) S := rfl
theorem ev_abs (i : Int) : bAbs [.int i] S = .ok (.v (.int (if i < 0 then -i else i))) S := rfl
theorem ev_intI (i : Int) : bInt [.int i] S = .ok (.v (.int i)) S := rfl
theorem ev_intB (i : Bool) : bInt [.bl i] S = .ok (.v (.int (if i then 1 else 0))) S := rfl
theorem ev_max2 (i j : Int) : bMax2 [.int i, .int j] S = .ok (.v (.int (if j > i then j else i))) S := rfl
theorem ev_min2 (i j : Int) : bMin2 [.int i, .int j] S = .ok (.v (.int (if j < i then j else i))) S := rfl
/-! ### statements -/
theorem ok_dSeqS (a b : DS) : okO (dSeqS a b env S) N T K C = okO (a env S) (fun e S1 => okO (b e S1) N T K C) T K C := by
  unfold dSeqS
  cases a env S <;> rfl
theorem slOf_v (d : D) : slOf (.v d) = .va d := rfl
theorem slOf_o (x : O) : slOf (.o x) = .ow x := rfl
theorem ok_dSet (dr : DR) : okO (dSet i dr env S) N T K C = okE (dr env S) fun r S1 => N (env.set i (slOf r)) S1 := by
  unfold dSet
  cases dr env S <;> first | (rw [okE_ok]; rfl) | (rw [okE_bad]; rfl) | exact propext ⟨fun h => False.elim h, fun ⟨_, _, h, _⟩ => (nomatch h)⟩
theorem ok_dSkip : okO (dSkip env S) N T K C = N env S := rfl
theorem ok_dBreak : okO (dBreak env S) N T K C = K env S := rfl
theorem ok_dCont : okO (dCont env S) N T K C = C env S := rfl
theorem ok_dRetN : okO (dRetN env S) N T K C = T (.v .non) S := rfl
theorem ok_dNever : okO (dNever env S) N T K C = False := rfl
theorem ok_dRet (dr : DR) : okO (dRet dr env S) N T K C = okE (dr env S) T := by
  unfold dRet
  cases dr env S <;> first | (rw [okE_ok]; rfl) | (rw [okE_bad]; rfl) | exact propext ⟨fun h => False.elim h, fun ⟨_, _, h, _⟩ => (nomatch h)⟩
theorem ok_dDrop (de : DE) : okO (dDrop de env S) N T K C = okE (de env S) fun _ S1 => N env S1 := by
  unfold dDrop
  cases de env S <;> first | (rw [okE_ok]; rfl) | (rw [okE_bad]; rfl) | exact propext ⟨fun h => False.elim h, fun ⟨_, _, h, _⟩ => (nomatch h)⟩
theorem ok_dIfS (c : DT) (a b : DS) : okO (dIfS c a b env S) N T K C = okE (c env S) fun t S1 => if t = true then okO (a env S1) N T K C else okO (b env S1) N T K C := by
  unfold dIfS
  cases h : c env S with
  | ok t S1 => rw [okE_ok]; cases t <;> rfl
  | bad => rw [okE_bad]; rfl
  | xn c x S => exact propext ⟨fun h => False.elim h, fun ⟨_, _, h, _⟩ => (nomatch h)⟩
theorem ok_dFrz (d : DS) : okO (dFrz i d env S) N T K C = okO (d (frzE i env) S) N T K C := rfl
def frz1 : Option Sl → Nat → Envm → Envm := fun o i env => match o with
  | some (.ow x) => env.set i (.va x.toD)
  | _ => env
theorem ev_frzE : frzE i env = frz1 env[i]? i env := rfl
theorem frz1_o (x : O) : frz1 (some (.ow x)) i env = env.set i (.va x.toD) := rfl
theorem frz1_v (x : D) : frz1 (some (.va x)) i env = env := rfl
theorem frz1_n : frz1 (some .no) i env = env := rfl
theorem ok_dUnp (t : Tg) (de : DE) : okO (dUnp t de env S) N T K C = okE (de env S) fun d S1 => okB (bindTg t d env) fun e => N e S1 := by
  unfold dUnp
  cases de env S with
  | ok d S1 => rw [okE_ok]; cases h : bindTg t d env <;> simp only [h] <;> rfl
  | bad => rw [okE_bad]; rfl
  | xn c x S => exact propext ⟨fun h => False.elim h, fun ⟨_, _, h, _⟩ => (nomatch h)⟩
theorem bd_nm (d : D) : bindTg (.nm i) d env = some (env.set i (.va d)) := by unfold bindTg; rfl
theorem bd_tup (ts : List Tg) (ds : List D) : bindTg (.tp ts) (.tup ds) env = bindTgs ts ds env := by unfold bindTg; rfl
theorem bd_lst (ts : List Tg) (ds : List D) : bindTg (.tp ts) (.lst ds) env = bindTgs ts ds env := by unfold bindTg; rfl
theorem bds_nil : bindTgs [] [] env = some env := by unfold bindTgs; rfl
def bdC (ts : List Tg) (ds : List D) : Option Envm → Option Envm := fun o => match o with
  | some e => bindTgs ts ds e
  | none => none
theorem bdC_some (ts : List Tg) (ds : List D) : bdC ts ds (some e) = bindTgs ts ds e := rfl
theorem bds_cons (t : Tg) (ts : List Tg) (d : D) (ds : List D) : bindTgs (t :: ts) (d :: ds) env = bdC ts ds (bindTg t d env) := by
  conv => lhs; unfold bindTgs
  cases bindTg t d env <;> rfl
theorem ok_dFor (di : DA) (t : Tg) (b : DS) : okO (dFor di t b env S) N T K C = okE (di env S) fun ds S1 => okO (forL t b ds env S1) N T K C := by
  unfold dFor
  cases di env S <;> first | (rw [okE_ok]) | (rw [okE_bad]; rfl) | exact propext ⟨fun h => False.elim h, fun ⟨_, _, h, _⟩ => (nomatch h)⟩
theorem ev_rNil : rNil env S = .ok [] S := rfl
theorem ev_rCons (dr : DR) (d : DRs) : rCons dr d env S = (dr env S).bind fun r S1 => (d env S1).map fun rs => r :: rs := rfl
theorem ss_nil : setSls [] [] env = some env := rfl
theorem ss_cons (is : List Nat) (r : R) (rs : List R) : setSls (i :: is) (r :: rs) env = setSls is rs (env.set i (slOf r)) := rfl
theorem ok_dPar (is : List Nat) (d : DRs) : okO (dPar is d env S) N T K C = okE (d env S) fun rs S1 => okB (setSls is rs env) fun e => N e S1 := by
  unfold dPar
  cases d env S with
  | ok d S1 => rw [okE_ok]; cases h : setSls is d env <;> simp only [h] <;> rfl
  | bad => rw [okE_bad]; rfl
  | xn c x S => exact propext ⟨fun h => False.elim h, fun ⟨_, _, h, _⟩ => (nomatch h)⟩
theorem ok_dAug (f : D → D → Sto → Res R) (de : DE) : okO (dAug i f de env S) N T K C = okE (slV env[i]? S) fun x _ => okE (de env S) fun y S1 => okE (f x y S1) fun r S2 => N (env.set i (slOf r)) S2 := by
  unfold dAug
  cases env[i]? with
  | none => exact (okE_bad _).symm
  | some s =>
    cases s with
    | no => exact (okE_bad _).symm
    | ow x => exact (okE_bad _).symm
    | va x =>
      rw [slV_va, okE_ok, ← okE_bind]
      show okO (match (de env S).bind fun y S1 => f x y S1 with
        | .ok r S2 => .nx (env.set i (slOf r)) S2
        | .xn _ _ _ => .bad
        | .bad => .bad) N T K C = _
      cases (de env S).bind fun y S1 => f x y S1 with
      | ok d S1 => rw [okE_ok]; rfl
      | bad => rw [okE_bad]; rfl
      | xn c x S => exact propext ⟨fun h => False.elim h, fun ⟨_, _, h, _⟩ => (nomatch h)⟩
/-- a change of a slot's own list -/
def mutE : Option Sl → (List D → Option (List D)) → (List D → Prop) → Prop := fun o f P => match o with
  | some (.ow (.l ds)) => (match f ds with | some ds' => P ds' | none => False)
  | _ => False
theorem ok_mut1 {f : List D → D → Option (List D)} {de : DE} {ds : List D} (h : env[i]? = some (.ow (.l ds))) : okO (dMut1 i f de env S) N T K C = okE (de env S) fun d S1 => mutE env[i]? (f · d) fun ds' => N (env.set i (.ow (.l ds'))) S1 := by
  have hl : listSlot i env S = true := by unfold listSlot; rw [h]
  unfold dMut1
  rw [if_pos hl]
  cases de env S with
  | ok d S1 =>
    rw [okE_ok]
    show okO (mutL i (f · d) env S1) N T K C = _
    unfold mutL
    rw [h]
    show okO (match f ds d with
      | some ds' => .nx (env.set i (.ow (.l ds'))) S1
      | none => .bad) N T K C = _
    cases hf : f ds d <;> simp only [mutE, hf] <;> rfl
  | bad => rw [okE_bad]; rfl
  | xn c x S => exact propext ⟨fun h => False.elim h, fun ⟨_, _, h, _⟩ => (nomatch h)⟩
/-- as a rule for evaluation -/
def isOwnL : Option Sl → Prop := fun o => ∃ ds, o = some (.ow (.l ds))
theorem isOwnL_l (ds : List D) : isOwnL (some (.ow (.l ds))) = True := propext ⟨fun _ => trivial, fun _ => ⟨ds, rfl⟩⟩
theorem ok_dMut1 (f : List D → D → Option (List D)) (de : DE) (h : isOwnL env[i]?) : okO (dMut1 i f de env S) N T K C = okE (de env S) fun d S1 => mutE env[i]? (f · d) fun ds' => N (env.set i (.ow (.l ds'))) S1 := by
  obtain ⟨ds, h⟩ := h
  exact ok_mut1 env S i N T K C h
def okL (o : Option (List D)) (P : List D → Prop) : Prop := match o with
  | some x => P x
  | none => False
theorem mutE_l (ds : List D) (f : List D → Option (List D)) (P : List D → Prop) : mutE (some (.ow (.l ds))) f P = okL (f ds) P := rfl
theorem okL_some (x : List D) (P : List D → Prop) : okL (some x) P = P x := rfl
end
/-! ### statements that may raise, where they do not -/
section
variable {α : Type} (env : Envm) (S : Sto) (i : Nat) (N : PN) (T : PT) (K C : PN)
theorem ev_only (f : Envm → Sto → Res α) : only f env S = onlyR (f env S) := rfl
theorem onlyR_o (a : α) : onlyR (.ok a S) = .ok a S := rfl
theorem okE_only (r : Res α) (Q : α → Sto → Prop) : okE (onlyR r) Q = okE r Q := by
  cases r with
  | ok a S => rfl
  | xn c x S => exact propext ⟨fun ⟨_, _, h, _⟩ => (nomatch h), fun ⟨_, _, h, _⟩ => (nomatch h)⟩
  | bad => rfl
theorem ok_dDropX (dr : DR) : okO (dDropX dr env S) N T K C = okE (dr env S) fun _ S1 => N env S1 := by
  unfold dDropX
  cases dr env S <;> first | (rw [okE_ok]; rfl) | (rw [okE_bad]; rfl) | exact propext ⟨fun h => False.elim h, fun ⟨_, _, h, _⟩ => (nomatch h)⟩
theorem ok_dSetX (dr : DR) : okO (dSetX i dr env S) N T K C = okE (dr env S) fun r S1 => N (env.set i (slOf r)) S1 := by
  unfold dSetX
  cases dr env S <;> first | (rw [okE_ok]; rfl) | (rw [okE_bad]; rfl) | exact propext ⟨fun h => False.elim h, fun ⟨_, _, h, _⟩ => (nomatch h)⟩
theorem ok_dRetX (dr : DR) : okO (dRetX dr env S) N T K C = okE (dr env S) T := by
  unfold dRetX
  cases dr env S <;> first | (rw [okE_ok]; rfl) | (rw [okE_bad]; rfl) | exact propext ⟨fun h => False.elim h, fun ⟨_, _, h, _⟩ => (nomatch h)⟩
end
end MP

namespace MP
open PySem PySem.Spec
section
variable (p : Prop) (b : Bool)
theorem sv_at : (p ∧ True) = p := and_true p
theorem sv_ta : (True ∧ p) = p := true_and p
theorem sv_it : (p → True) = True := propext ⟨fun _ => trivial, fun _ _ => trivial⟩
theorem sv_ti : (True → p) = p := propext ⟨fun h => h trivial, fun h _ => h⟩
theorem sv_dt [Decidable p] : (decide p = true) = p := decide_eq_true_eq
theorem sv_df [Decidable p] : (decide p = false) = ¬ p := propext decide_eq_false_iff_not
theorem sv_ft : (false = true) = False := by simp
theorem sv_nt : ((!b) = true) = (b = false) := by cases b <;> simp
theorem sv_nn : ((!b) = false) = (b = true) := by cases b <;> simp
theorem sv_tt : (!true) = false := rfl
theorem sv_fn : (!false) = true := rfl
end
theorem ok_seqG {a b : DS} {env : Envm} {S : Sto} {N : PN} {T : PT} {K C : PN} (h : ∀ N' : PN, (∀ e S1, okO (b e S1) N T K C → N' e S1) → okO (a env S) N' T K C) : okO (dSeqS a b env S) N T K C := by
  rw [ok_dSeqS]
  exact h _ fun _ _ h => h
theorem start_c (k : Nat) (d : D) (ds : List D) : startE (k + 1) (d :: ds) = .va d :: startE k ds := by
  unfold startE
  rw [List.map_cons, List.cons_append, List.length_cons, Nat.add_sub_add_right]
theorem start_n (k : Nat) : startE (k + 1) [] = .no :: startE k [] := rfl
theorem start_0 : startE 0 [] = [] := rfl
theorem ok_call {B : Tb} {n f m k : Nat} {x : Str} {bd : Calls → DS} {ds : List D} {S : Sto} {Q : R → Sto → Prop} (h : B f = some ⟨x, m, k, bd⟩) (hl : ds.length = m) (q : okO (bd (callN B n) (startE k ds) S) (fun _ S1 => Q (.v .non) S1) Q no2 no2) : okE (callN B (n + 1) f ds S) Q := by
  rw [callN_eq h]
  unfold callF
  rw [if_pos hl]
  show okE (finO (bd (callN B n) (startE k ds) S)) Q
  cases ho : bd (callN B n) (startE k ds) S <;> rw [ho] at q <;> first | exact ⟨_, _, rfl, q⟩ | exact False.elim q
/-! ### slots set -/
def setL : Envm → List Nat → List Sl → Envm
  | e, i :: is, v :: vs => setL (e.set i v) is vs
  | e, _, _ => e
theorem setL_c (e : Envm) (i : Nat) (is : List Nat) (v : Sl) (vs : List Sl) : setL e (i :: is) (v :: vs) = setL (e.set i v) is vs := rfl
theorem setL_n (e : Envm) (vs : List Sl) : setL e [] vs = e := by cases vs <;> rfl
/-! ### loops -/
theorem ok_for_cons {t : Tg} {b : DS} {d : D} {ds : List D} {env : Envm} {S : Sto} {N : PN} {T : PT} {K C : PN} : okO (forL t b (d :: ds) env S) N T K C = okB (bindTg t d env) fun e => okO (b e S) (fun e2 S2 => okO (forL t b ds e2 S2) N T K C) T N (fun e2 S2 => okO (forL t b ds e2 S2) N T K C) := by
  conv => lhs; unfold forL
  cases bindTg t d env with
  | none => rfl
  | some e =>
    show okO (match b e S with
      | .nx e2 S2 => forL t b ds e2 S2
      | .ct e2 S2 => forL t b ds e2 S2
      | .bk e2 S2 => .nx e2 S2
      | .rt r S2 => .rt r S2
      | .xn c x S2 => .xn c x S2
      | .bad => .bad) N T K C = _
    rw [okB_some]
    cases b e S <;> rfl
theorem okO.imp {o : Out} {N N' : PN} {T T' : PT} {K K' C C' : PN} (h : okO o N T K C) (hN : ∀ e S, N e S → N' e S) (hT : ∀ r S, T r S → T' r S) (hK : ∀ e S, K e S → K' e S) (hC : ∀ e S, C e S → C' e S) : okO o N' T' K' C' := by
  cases o <;> first | exact hN _ _ h | exact hT _ _ h | exact hK _ _ h | exact hC _ _ h | exact False.elim h
theorem okB.imp {o : Option Envm} {P P' : Envm → Prop} (h : okB o P) (i : ∀ e, P e → P' e) : okB o P' := by
  cases o <;> first | exact i _ h | exact False.elim h
/-- a loop by an invariant over the slots that it sets -/
theorem ok_for {α : Type} {t : Tg} {b : DS} {env : Envm} {N : PN} {T : PT} {K C : PN} (is : List Nat) (f : α → D) (I : Nat → List Sl → Sto → Prop) : ∀ (xs : List α) (i : Nat) (vs : List Sl) (S : Sto), I i vs S →
    (∀ j x vs S, xs[j]? = some x → I (i + j) vs S → okB (bindTg t (f x) (setL env is vs)) fun e => okO (b e S) (fun e2 S2 => ∃ vs', e2 = setL env is vs' ∧ I (i + j + 1) vs' S2) T N (fun e2 S2 => ∃ vs', e2 = setL env is vs' ∧ I (i + j + 1) vs' S2)) →
    (∀ vs S, I (i + xs.length) vs S → N (setL env is vs) S) → okO (forL t b (xs.map f) (setL env is vs) S) N T K C
  | [], i, vs, S, h, _, e => e vs S h
  | x :: xs, i, vs, S, h, st, e => by
    rw [List.map_cons, ok_for_cons]
    have z := st 0 x vs S rfl h
    have go : ∀ (vs' : List Sl) (S2 : Sto), I (i + 1) vs' S2 → okO (forL t b (xs.map f) (setL env is vs') S2) N T K C := fun vs' S2 h2 => by
      refine ok_for is f I xs (i + 1) vs' S2 h2 (fun j y ws S3 hj hI => ?_) fun ws S3 hI => e ws S3 (by
        rw [List.length_cons, show i + (xs.length + 1) = i + 1 + xs.length by omega]
        exact hI)
      have e1 : i + 1 + j = i + (j + 1) := by omega
      rw [e1] at hI ⊢
      exact st (j + 1) y ws S3 (by simpa using hj) hI
    refine z.imp fun e1 z1 => z1.imp (fun e2 S2 ⟨vs', h1, h2⟩ => h1 ▸ go vs' S2 h2) (fun _ _ h => h) (fun _ _ h => h) fun e2 S2 ⟨vs', h1, h2⟩ => h1 ▸ go vs' S2 h2
/-- .. from the slots as they are -/
theorem ok_for0 {α : Type} {t : Tg} {b : DS} {env : Envm} {S : Sto} {N : PN} {T : PT} {K C : PN} (is : List Nat) (xs : List α) (f : α → D) (I : Nat → List Sl → Sto → Prop) (vs : List Sl) (h0 : setL env is vs = env) (hI : I 0 vs S)
    (st : ∀ (N' K' : PN) (T' : PT), (∀ e S, N e S → K' e S) → (∀ r S, T r S → T' r S) → ∀ j x vs S, xs[j]? = some x → I j vs S → (∀ vs' S2, I (j + 1) vs' S2 → N' (setL env is vs') S2) → okB (bindTg t (f x) (setL env is vs)) fun e => okO (b e S) N' T' K' N')
    (e : ∀ vs S, I xs.length vs S → N (setL env is vs) S) : okO (forL t b (xs.map f) env S) N T K C := by
  rw [← h0]
  refine ok_for is f I xs 0 vs S hI (fun j x ws S1 hj hI => ?_) fun ws S1 hI => e ws S1 (by rw [Nat.zero_add] at hI; exact hI)
  rw [Nat.zero_add] at hI ⊢
  exact st _ _ _ (fun _ _ h => h) (fun _ _ h => h) j x ws S1 hj hI fun vs' S2 h => ⟨vs', rfl, h⟩
/-! ### comprehensions -/
theorem ok_compL {α : Type} {R : α → D → Prop} {tg : Tg} {dc : DT} {de : DE} {env : Envm} {S : Sto} (p : α → Bool) (g : α → D) : ∀ {xs : List α} {ds : List D}, (xs.length = ds.length ∧ ∀ (i : Nat) (x : α) (d : D), xs[i]? = some x → ds[i]? = some d → R x d) →
    (∀ x d, x ∈ xs → R x d → okB (bindTg tg d env) fun e => okE (dc e S) fun t S1 => t = p x ∧ S1 = S ∧ (p x = true → okE (de e S) fun v S2 => v = g x ∧ S2 = S)) → compL tg dc de env ds S = .ok ((xs.filter p).map g) S
  | [], [], _, _ => rfl
  | x :: xs, [], h, _ => by simp at h
  | [], d :: ds, h, _ => by simp at h
  | x :: xs, d :: ds, h, st => by
    have ih := ok_compL p g (xs := xs) (ds := ds) ⟨by simpa using h.1, fun i y e h1 h2 => h.2 (i + 1) y e (by simpa using h1) (by simpa using h2)⟩ fun y e hy => st y e (List.mem_cons_of_mem _ hy)
    have z := st x d List.mem_cons_self (h.2 0 x d rfl rfl)
    unfold compL
    cases hb : bindTg tg d env with
    | none => rw [hb] at z; exact False.elim z
    | some e =>
      rw [hb] at z
      obtain ⟨t, S1, h1, rfl, rfl, h4⟩ := z
      show (dc e S1).bind _ = _
      rw [h1]
      show (if p x = true then _ else _) = _
      by_cases c : p x = true
      · obtain ⟨v, S2, h5, rfl, rfl⟩ := h4 c
        rw [if_pos c, h5]
        show (compL tg dc de env ds S2).map _ = _
        rw [ih, List.filter_cons_of_pos c]
        rfl
      · rw [if_neg c, List.filter_cons_of_neg c]
        exact ih
theorem ok_comp {α : Type} {di : DA} {own : List Nat} {tg : Tg} {dc : DT} {de : DE} {env : Envm} {S : Sto} {Q : R → Sto → Prop} (xs : List α) (f : α → D) (p : α → Bool) (g : α → D) (hi : okE (di env S) fun ds S1 => ds = xs.map f ∧ S1 = S) (hl : xs.length ≤ 100000)
    (h : ∀ x ∈ xs, okB (bindTg tg (f x) (wipeE env own)) fun e => okE (dc e S) fun t S1 => t = p x ∧ S1 = S ∧ (p x = true → okE (de e S) fun v S2 => v = g x ∧ S2 = S)) (q : Q (.o (.l ((xs.filter p).map g))) S) : okE (dComp di own tg dc de env S) Q := by
  obtain ⟨ds, S1, h1, rfl, rfl⟩ := hi
  refine ok_of_eq ?_ q
  unfold dComp
  rw [h1]
  show (if (xs.map f).length ≤ 100000 then _ else _) = _
  rw [if_pos (by rw [List.length_map]; exact hl), ok_compL (R := fun x d => d = f x) p g (xs := xs) ⟨by simp, fun i x d h1 h2 => by rw [List.getElem?_map, h1] at h2; exact (Option.some.inj h2).symm⟩ fun x d hx e => e ▸ h x hx]
  rfl
/-- without a test -/
theorem ok_compA {α : Type} {di : DA} {own : List Nat} {tg : Tg} {de : DE} {env : Envm} {S : Sto} {Q : R → Sto → Prop} (xs : List α) (f : α → D) (g : α → D) (hi : okE (di env S) fun ds S1 => ds = xs.map f ∧ S1 = S) (hl : xs.length ≤ 100000)
    (h : ∀ x ∈ xs, okB (bindTg tg (f x) (wipeE env own)) fun e => okE (de e S) fun v S2 => v = g x ∧ S2 = S) (q : Q (.o (.l (xs.map g))) S) : okE (dComp di own tg dYes de env S) Q := by
  refine ok_comp xs f (fun _ => true) g hi hl (fun x hx => (h x hx).imp fun e z => ?_) (by rw [List.filter_eq_self.mpr (fun _ _ => rfl)]; exact q)
  rw [ev_dYes, okE_ok]
  exact ⟨rfl, rfl, fun _ => z⟩
/-- elements that change the store -/
theorem ok_compLI {α : Type} {tg : Tg} {de : DE} {env : Envm} (f : α → D) (I : Nat → List D → Sto → Prop) : ∀ (xs : List α) (i : Nat) (ys : List D) (S : Sto) (Q : List D → Sto → Prop), I i ys S → (∀ j x ys S, xs[j]? = some x → I (i + j) ys S → okB (bindTg tg (f x) env) fun e => okE (de e S) fun y S1 => I (i + j + 1) (ys ++ [y]) S1) → (∀ zs S, I (i + xs.length) (ys ++ zs) S → Q zs S) →
    okE (compL tg dYes de env (xs.map f) S) Q
  | [], i, ys, S, Q, h, _, q => by
    rw [List.map_nil]
    unfold compL
    rw [okE_ok]
    exact q [] S (by rw [List.append_nil]; exact h)
  | x :: xs, i, ys, S, Q, h, st, q => by
    have z := st 0 x ys S rfl h
    rw [List.map_cons]
    unfold compL
    cases hb : bindTg tg (f x) env with
    | none => rw [hb] at z; exact False.elim z
    | some e =>
      rw [hb] at z
      obtain ⟨y, S1, h1, h2⟩ := z
      show okE ((dYes e S).bind _) Q
      rw [okE_bind, ev_dYes, okE_ok]
      show okE (if true = true then _ else _) Q
      rw [if_pos rfl, okE_bind, h1, okE_ok, okE_map]
      refine ok_compLI f I xs (i + 1) (ys ++ [y]) S1 _ h2 (fun j w ws S2 hj hI => ?_) fun zs S2 hI => q (y :: zs) S2 ?_
      · have e1 : i + 1 + j = i + (j + 1) := by omega
        rw [e1] at hI ⊢
        exact st (j + 1) w ws S2 (by simpa using hj) hI
      · rw [List.length_cons]
        have e1 : i + (xs.length + 1) = i + 1 + xs.length := by omega
        rw [e1]
        simpa using hI
theorem ok_compI {α : Type} {di : DA} {own : List Nat} {tg : Tg} {de : DE} {env : Envm} {S : Sto} {Q : R → Sto → Prop} (xs : List α) (f : α → D) (I : Nat → List D → Sto → Prop) (hi : okE (di env S) fun ds S1 => ds = xs.map f ∧ S1 = S) (hl : xs.length ≤ 100000) (h0 : I 0 [] S)
    (h : ∀ j x ys S, xs[j]? = some x → I j ys S → okB (bindTg tg (f x) (wipeE env own)) fun e => okE (de e S) fun y S1 => I (j + 1) (ys ++ [y]) S1) (q : ∀ ys S, I xs.length ys S → Q (.o (.l ys)) S) : okE (dComp di own tg dYes de env S) Q := by
  obtain ⟨ds, S1, h1, rfl, rfl⟩ := hi
  unfold dComp
  rw [h1]
  show okE (if (xs.map f).length ≤ 100000 then _ else _) Q
  rw [if_pos (by rw [List.length_map]; exact hl), okE_map]
  exact ok_compLI f I xs 0 [] S1 _ h0 (fun j x ys S hj hI => by rw [Nat.zero_add] at hI ⊢; exact h j x ys S hj hI) fun zs S hI => q zs S (by rw [Nat.zero_add] at hI; exact hI)
theorem wipe_c (e : Envm) (v : Nat) (vs : List Nat) : wipeE e (v :: vs) = (wipeE e vs).set v .no := rfl
theorem wipe_n (e : Envm) : wipeE e [] = e := rfl
end MP

namespace MP
open PySem PySem.Spec
theorem sv_c0 : ((0 : Nat) : Int) = 0 := rfl
theorem sv_c1 : ((1 : Nat) : Int) = 1 := rfl
theorem sv_c2 : ((2 : Nat) : Int) = 2 := rfl
theorem sv_c3 : ((3 : Nat) : Int) = 3 := rfl
theorem sv_c4 : ((4 : Nat) : Int) = 4 := rfl
theorem sv_c5 : ((5 : Nat) : Int) = 5 := rfl
theorem sv_c6 : ((6 : Nat) : Int) = 6 := rfl
theorem sv_dT {_ : Decidable True} : decide True = true := decide_eq_true trivial
theorem sv_dF {_ : Decidable False} : decide False = false := decide_eq_false id
theorem sv_nT : (¬ True) = False := by simp
theorem sv_nF : (¬ False) = True := by simp
theorem sv_ifT {α : Type} {_ : Decidable True} (a b : α) : (if True then a else b) = a := if_pos trivial
theorem sv_ifF {α : Type} {_ : Decidable False} (a b : α) : (if False then a else b) = b := if_neg id
theorem sv_iP {_ : Decidable True} (a b : Prop) : (if True then a else b) = a := if_pos trivial
theorem sv_iQ {_ : Decidable False} (a b : Prop) : (if False then a else b) = b := if_neg id
/-! ### locked dicts -/
section
variable (env : Envm) (S : Sto) (i : Nat)
def lkR (i : Nat) (dr : DR) (env : Envm) (S : Sto) : Option Sl → Res R := fun o => match o with
  | some (.ow (.k ks ds)) => dr (env.set i (.ow (.fk ks ds))) S
  | some (.ow (.t ks ds)) => dr (env.set i (.ow (.ft ks ds))) S
  | _ => .bad
theorem ev_dLk (dr : DR) : dLk i dr env S = lkR i dr env S env[i]? := by
  unfold dLk lockE lkR
  cases env[i]? with
  | none => rfl
  | some s =>
    cases s with
    | no => rfl
    | va d => rfl
    | ow x => cases x <;> rfl
theorem lkR_k (dr : DR) (ks : List L2.Key) (ds : List D) : lkR i dr env S (some (.ow (.k ks ds))) = dr (env.set i (.ow (.fk ks ds))) S := rfl
theorem lkR_t (dr : DR) (ks : List (List L2.Key)) (ds : List D) : lkR i dr env S (some (.ow (.t ks ds))) = dr (env.set i (.ow (.ft ks ds))) S := rfl
def kyR : D → Sto → Res (List D) := fun d S1 => match d with
  | .fk ks _ => .ok (ks.map keyD) S1
  | .ft ks _ => .ok (ks.map fun k => .tup (k.map keyD)) S1
  | _ => .bad
theorem ev_dKeys (de : DE) : dKeys de env S = (de env S).bind kyR := rfl
theorem kyR_k (ks : List L2.Key) (ds : List D) : kyR (.fk ks ds) S = .ok (ks.map keyD) S := rfl
theorem kyR_t (ks : List (List L2.Key)) (ds : List D) : kyR (.ft ks ds) S = .ok (ks.map fun k => .tup (k.map keyD)) S := rfl
theorem slB_fk (x : List L2.Key) (y : List D) : slB (some (.ow (.fk x y))) S = .ok (.fk x y) S := rfl
theorem slB_ft (x : List (List L2.Key)) (y : List D) : slB (some (.ow (.ft x y))) S = .ok (.ft x y) S := rfl
end
end MP

namespace MP
open PySem PySem.Spec
/-! ### the law's box: three ints at a place of the store -/
structure Bx (S : Sto) (b : Nat) (k : Nat) : Prop where
  ex : ∃ x y z : Int, S[b]? = some (.l [.int x, .int y, .int z]) ∧ 0 ≤ x ∧ 0 ≤ z ∧ z + k ≤ 1000000000000000
theorem Bx.mono {S : Sto} {b k j : Nat} (h : Bx S b k) (e : j ≤ k) : Bx S b j := by
  obtain ⟨x, y, z, h1, h2, h3, h4⟩ := h.ex
  exact ⟨x, y, z, h1, h2, h3, by omega⟩
theorem mulOk_small {i j : Int} (h : j.natAbs < 18446744073709551616) : mulOk i j = true := by
  unfold mulOk
  simp [h]
theorem mulOk_small1 {i j : Int} (h : i.natAbs < 18446744073709551616) : mulOk i j = true := by
  unfold mulOk
  simp [h]
theorem big_gt : (18446744073709551616 : Nat) < big := by unfold big; decide +kernel
theorem fIx_tup (xs : List D) (i : Int) (S : Sto) : fIx (.tup xs) (.int i) S = (match ixD xs i with | some z => .ok (.v z) S | none => .bad) := rfl
theorem fIx_lst (xs : List D) (i : Int) (S : Sto) : fIx (.lst xs) (.int i) S = (match ixD xs i with | some z => .ok (.v z) S | none => .bad) := rfl
theorem fIx_loc (n : Nat) (i : Int) (S : Sto) : fIx (.loc n) (.int i) S = (match S[n]? with | some (.l xs) => (match ixD xs i with | some z => .ok (.v z) S | none => .bad) | _ => .bad) := rfl
theorem fIx_scr (ns : List Int) (i : Int) (S : Sto) : fIx (.scr ns) (.int i) S = (match (if 0 ≤ i then ns[i.toNat]? else none) with | some z => .ok (.v (.int z)) S | none => .bad) := rfl
theorem fGt_i (i j : Int) (S : Sto) : fGt (.int i) (.int j) S = .ok (.v (.bl (decide (j < i)))) S := rfl
theorem fLt_i (i j : Int) (S : Sto) : fLt (.int i) (.int j) S = .ok (.v (.bl (decide (i < j)))) S := rfl
theorem fGe_i (i j : Int) (S : Sto) : fGe (.int i) (.int j) S = .ok (.v (.bl (decide (j ≤ i)))) S := rfl
theorem fLe_i (i j : Int) (S : Sto) : fLe (.int i) (.int j) S = .ok (.v (.bl (decide (i ≤ j)))) S := rfl
theorem fSub_i (i j : Int) (S : Sto) : fSub (.int i) (.int j) S = .ok (.v (.int (i - j))) S := rfl
theorem fIAdd_i (i j : Int) (S : Sto) : pureO (gI fun i j => i + j) (.int i) (.int j) S = .ok (.v (.int (i + j))) S := rfl
def takeV (y z m : Int) : Int := (((((y + 48271 * z) * (39373 + z) % 2147483647 + z + y / 1000003) * ((y + 48271 * z) * (39373 + z) % 2147483647 % 40009 + 7) % 2147483629) * 48271 + (y + 48271 * z) * (39373 + z) % 2147483647) % 2147483587 / 64) % m
/-- _law_take, below at most ten million -/
theorem sp_take {B : Tb} {n b k : Nat} {S : Sto} {m : Int} (hB : B i__law_take = some q__law_take) (hb : Bx S b (k + 1)) (hm : 0 < m) (hm2 : m ≤ 10000000) :
    ∃ (r : Int) (S' : Sto), callN B (n + 1) i__law_take [.loc b, .int m] S = .ok (.v (.int r)) S' ∧ 0 ≤ r ∧ r < m ∧ Bx S' b k := by
  obtain ⟨x, y, z, h1, h2, h3, h4⟩ := hb.ex
  have hbl : b < S.length := (List.getElem?_eq_some_iff.mp h1).1
  have hmb : m.natAbs < big := Nat.lt_trans (by omega) big_gt
  rw [callN_eq hB]
  by_cases c : 0 < x
  · refine ⟨x % m, S.set b (.l [.int (x / m), .int y, .int z]), ?_, Int.emod_nonneg _ (by omega), Int.emod_lt_of_pos _ hm, ⟨x / m, y, z, ?_, Int.ediv_nonneg h2 (by omega), h3, by omega⟩⟩
    · simp [q__law_take, b__law_take, callF, startE, finO, dSeqS, dSet, slOf, dRet, dRetN, dIfS, dSkip, dVar, dBVar, dMv, dC, fz, rv, dOp, dUn, dNil, dCons, dTup, dLst, dB, dAndT, dOrT, dNotT, dAnd, dOr, dNot, dIf, dIfR, dCall, dBlt, dOp2, dSeq, itemsOf, dFrz, frzE, dPar, rCons, rNil, setSls, dAug, dUnp, bindTg, bindTgs, wipeE, dYes, dChain, Res.bind, Res.map, R.val, O.toD, fIx_tup, fIx_lst, fIx_loc, fIx_scr, ixD, fGt_i, fLt_i, fLe_i, fGe_i, fSub_i, fIAdd_i, fMod, fDiv, fAdd, fPow, fEq, fNe, fIsN, fNotN, isNon, bLen, bList, bTuple, bAbs, bInt, bMax2, bMin2, dPutL, listSlot, isL, mutL, fPut, dIxL, dMut1, fApp, List.getElem?_cons_zero, List.getElem?_cons_succ, List.set_cons_zero, List.set_cons_succ, List.map_cons, List.map_nil, List.cons_append, List.nil_append, List.length_cons, List.length_nil, List.replicate, if_true, if_false, ite_true, ite_false, Bool.false_eq_true, reduceIte, decide_true, decide_false, Option.map_some, Option.bind_some, h1, c, hm, hmb]
    · rw [List.getElem?_set_self hbl]
  · have c0 : x = 0 := by omega
    subst c0
    refine ⟨takeV y (z + 1) m, S.set b (.l [.int 0, .int y, .int (z + 1)]), ?_, Int.emod_nonneg _ (by omega), Int.emod_lt_of_pos _ hm, ⟨0, y, z + 1, ?_, by omega, by omega, by omega⟩⟩
    · have m1 : ∀ i, mulOk i (39373 + (z + 1)) = true := fun i => mulOk_small (by omega)
      have m2 : ∀ i j : Int, mulOk i (j % 40009 + 7) = true := fun i j => mulOk_small (by have := Int.emod_nonneg j (show (40009 : Int) ≠ 0 by decide); have := Int.emod_lt_of_pos j (show (0 : Int) < 40009 by decide); omega)
      have m3 : ∀ i : Int, mulOk i 48271 = true := fun i => mulOk_small (by decide)
      have m4 : ∀ i : Int, mulOk 48271 i = true := fun i => mulOk_small1 (by decide)
      have b1 : (1000003 : Nat) < big := Nat.lt_trans (by decide) big_gt
      have b2 : (64 : Nat) < big := Nat.lt_trans (by decide) big_gt
      have hm3 : ¬ 10000000 < m := by omega
      simp [q__law_take, b__law_take, callF, startE, finO, dSeqS, dSet, slOf, dRet, dRetN, dIfS, dSkip, dVar, dBVar, dMv, dC, fz, rv, dOp, dUn, dNil, dCons, dTup, dLst, dB, dAndT, dOrT, dNotT, dAnd, dOr, dNot, dIf, dIfR, dCall, dBlt, dOp2, dSeq, itemsOf, dFrz, frzE, dPar, rCons, rNil, setSls, dAug, dUnp, bindTg, bindTgs, wipeE, dYes, dChain, Res.bind, Res.map, R.val, O.toD, fIx_tup, fIx_lst, fIx_loc, fIx_scr, ixD, fGt_i, fLt_i, fLe_i, fGe_i, fSub_i, fIAdd_i, fMod, fDiv, fAdd, fPow, fEq, fNe, fIsN, fNotN, isNon, bLen, bList, bTuple, bAbs, bInt, bMax2, bMin2, dPutL, listSlot, isL, mutL, fPut, dIxL, dMut1, fApp, List.getElem?_cons_zero, List.getElem?_cons_succ, List.set_cons_zero, List.set_cons_succ, List.map_cons, List.map_nil, List.cons_append, List.nil_append, List.length_cons, List.length_nil, List.replicate, if_true, if_false, ite_true, ite_false, Bool.false_eq_true, reduceIte, decide_true, decide_false, Option.map_some, Option.bind_some, fMul, h1, hm, hmb, hm3, m1, m2, m3, m4, b1, b2, List.getElem?_set_self hbl, takeV]
    · rw [List.getElem?_set_self hbl]

/-! ### one statement behind another -/
section
variable {a b : DS} {env e : Envm} {S S1 : Sto} {X : Res R} {Y : Out} {r : R} {dr : DR}
end
/-! ### comprehensions and loops -/
inductive All2 {α β : Type} (P : α → β → Prop) : List α → List β → Prop
  | nil : All2 P [] []
  | cons {a : α} {b : β} {as : List α} {bs : List β} : P a b → All2 P as bs → All2 P (a :: as) (b :: bs)
theorem All2.length {α β : Type} {P : α → β → Prop} : ∀ {as : List α} {bs : List β}, All2 P as bs → as.length = bs.length
  | _, _, .nil => rfl
  | _, _, .cons _ t => by simp [t.length]
theorem All2.imp {α β : Type} {P Q : α → β → Prop} (h : ∀ a b, P a b → Q a b) : ∀ {as : List α} {bs : List β}, All2 P as bs → All2 Q as bs
  | _, _, .nil => .nil
  | _, _, .cons p t => .cons (h _ _ p) (t.imp h)
theorem rangeD_nat (n : Nat) : rangeD 0 (n : Int) = (List.range n).map fun i : Nat => D.int i := by
  unfold rangeD
  have : ((n : Int) - 0).toNat = n := by omega
  rw [this]
  apply List.map_congr_left
  intro i _
  simp
/-! ### lists of ints are data -/
/-! ### _law_of, _law_strewn -/
inductive SeqD : D → List D → Prop
  | tup (xs : List D) : SeqD (.tup xs) xs
  | lst (xs : List D) : SeqD (.lst xs) xs
end MP

namespace MP
open PySem PySem.Spec
/-! ### links and mates -/
abbrev Lk := Int × Int
def lkD (l : Lk) : D := .tup [.int l.1, .int l.2]
def touch (p : Int) (l : Lk) : Bool := l.1 == p || l.2 == p
def other (p : Int) (l : Lk) : Int := if l.1 = p then l.2 else l.1
def mates (L : List Lk) (p : Int) : List Int := (L.filter (touch p)).map (other p)
/-! ### woods: each link has its own child by some rank -/
structure Wood (c : Int) (L : List Lk) : Prop where
  inr : ∀ l ∈ L, 0 ≤ l.1 ∧ l.1 < l.2 ∧ l.2 < c
  rk : ∃ rk : Int → Nat, (∀ l ∈ L, rk l.1 ≠ rk l.2) ∧ (L.map fun l => if rk l.1 < rk l.2 then l.2 else l.1).Nodup
theorem Wood.sub {c : Int} {L L' : List Lk} (h : Wood c L) (s : L'.Sublist L) : Wood c L' := by
  obtain ⟨rk, h1, h2⟩ := h.rk
  exact ⟨fun l hl => h.inr l (s.subset hl), rk, fun l hl => h1 l (s.subset hl), h2.sublist (s.map _)⟩
/-! ### sorting -/
def lkOf (x y : Int) : Lk := if x ≤ y then (x, y) else (y, x)
/-! ### _law_wood -/
def rng (n : Nat) : List Int := (List.range n).map fun i : Nat => (i : Int)
theorem mem_rng {n : Nat} {x : Int} : x ∈ rng n ↔ 0 ≤ x ∧ x < n := by
  unfold rng
  simp only [List.mem_map, List.mem_range]
  constructor
  · rintro ⟨i, hi, rfl⟩
    omega
  · rintro ⟨h1, h2⟩
    exact ⟨x.toNat, by omega, by omega⟩
theorem rng_nodup (n : Nat) : (rng n).Nodup := by
  unfold rng List.Nodup
  rw [List.pairwise_map]
  exact List.nodup_range.imp fun h e => h (by omega)
theorem rng_len (n : Nat) : (rng n).length = n := by simp [rng]
theorem rangeD_rng (n : Nat) : rangeD 0 (n : Int) = (rng n).map D.int := by
  rw [rangeD_nat, rng, List.map_map]
  rfl
/-- the links laid so far: link i joins tag i + 1 to an earlier one -/
structure Laid (tags : List Int) (L : List Lk) (i : Nat) : Prop where
  len : L.length = i
  at_ : ∀ (j : Nat) (l : Lk), L[j]? = some l → ∃ (b : Nat) (x y : Int), b ≤ j ∧ tags[j + 1]? = some x ∧ tags[b]? = some y ∧ l = lkOf x y
theorem Laid.wood {tags : List Int} {L : List Lk} {c : Nat} (h : Laid tags L (c - 1)) (hp : tags.Perm (rng c)) : Wood c L := by
  have nd : tags.Nodup := hp.nodup_iff.mpr (rng_nodup c)
  have hl : tags.length = c := by rw [hp.length_eq, rng_len]
  have idx : ∀ (j : Nat) (x : Int), tags[j]? = some x → tags.idxOf x = j := fun j x e => by
    obtain ⟨hj, e⟩ := List.getElem?_eq_some_iff.mp e
    rw [← e]
    exact nd.idxOf_getElem j hj
  have inr : ∀ (j : Nat) (x : Int), tags[j]? = some x → 0 ≤ x ∧ x < c := fun j x e => mem_rng.mp (hp.mem_iff.mp (List.mem_of_getElem? e))
  have key : ∀ (j : Nat) (l : Lk), L[j]? = some l → (0 ≤ l.1 ∧ l.1 < l.2 ∧ l.2 < c) ∧ tags.idxOf l.1 ≠ tags.idxOf l.2 ∧ tags[j + 1]? = some (if tags.idxOf l.1 < tags.idxOf l.2 then l.2 else l.1) := fun j l e => by
    obtain ⟨b, x, y, hb, hx, hy, rfl⟩ := h.at_ j l e
    have ix := idx _ _ hx
    have iy := idx _ _ hy
    have rx := inr _ _ hx
    have ry := inr _ _ hy
    have hxy : x ≠ y := fun z => by
      rw [z, iy] at ix
      omega
    unfold lkOf
    by_cases c1 : x ≤ y
    · rw [if_pos c1]
      refine ⟨⟨rx.1, by show x < y; omega, ry.2⟩, by show tags.idxOf x ≠ tags.idxOf y; omega, ?_⟩
      show _ = some (if tags.idxOf x < tags.idxOf y then y else x)
      rw [if_neg (by omega)]
      exact hx
    · rw [if_neg c1]
      refine ⟨⟨ry.1, by show y < x; omega, rx.2⟩, by show tags.idxOf y ≠ tags.idxOf x; omega, ?_⟩
      show _ = some (if tags.idxOf y < tags.idxOf x then x else y)
      rw [if_pos (by omega)]
      exact hx
  refine ⟨fun l hl => ?_, tags.idxOf, fun l hl => ?_, ?_⟩
  · obtain ⟨j, hj⟩ := List.mem_iff_getElem?.mp hl
    exact (key j l hj).1
  · obtain ⟨j, hj⟩ := List.mem_iff_getElem?.mp hl
    exact (key j l hj).2.1
  · have e : (L.map fun l => if tags.idxOf l.1 < tags.idxOf l.2 then l.2 else l.1) = tags.drop 1 := by
      apply List.ext_getElem?
      intro j
      rw [List.getElem?_map, List.getElem?_drop]
      cases hj : L[j]? with
      | some l =>
        rw [Nat.add_comm 1 j, (key j l hj).2.2]
        rfl
      | none =>
        have := List.getElem?_eq_none_iff.mp hj
        have hL := h.len
        rw [List.getElem?_eq_none (by omega)]
        rfl
    rw [e]
    exact nd.sublist (List.drop_sublist _ _)
end MP

namespace MP
open PySem PySem.Spec
theorem Laid.snoc {tags : List Int} {L : List Lk} {i : Nat} (h : Laid tags L i) {b : Nat} {x y : Int} (hb : b ≤ i) (hx : tags[i + 1]? = some x) (hy : tags[b]? = some y) : Laid tags (L ++ [lkOf x y]) (i + 1) := by
  refine ⟨by simp [h.len], fun j l e => ?_⟩
  by_cases c : j < L.length
  · rw [List.getElem?_append_left c] at e
    exact h.at_ j l e
  · rw [List.getElem?_append_right (by omega)] at e
    have hl := h.len
    have e0 : j - L.length = 0 := by
      cases k : j - L.length with
      | zero => rfl
      | succ k' => rw [k] at e; simp at e
    rw [e0] at e
    have ej : j = i := by omega
    subst ej
    simp at e
    exact ⟨b, x, y, hb, hx, hy, e.symm⟩
end MP

namespace MP
open PySem PySem.Spec
/-! ### closings -/
def cutL (L : List Lk) (q : Int) : List Lk := L.filter fun l => !touch q l
def rest (L : List Lk) (Q : List Int) : List Lk := Q.foldl cutL L
inductive Shut : List Lk → List Int → List Int → Prop
  | nil (L : List Lk) : Shut L [] []
  | cons {L : List Lk} {q e : Int} {Q E : List Int} : mates L q = [e] → Shut (cutL L q) Q E → Shut L (q :: Q) (e :: E)
theorem Shut.snoc {q e : Int} : ∀ {Q E : List Int} {L : List Lk}, Shut L Q E → mates (rest L Q) q = [e] → Shut L (Q ++ [q]) (E ++ [e])
  | _, _, _, .nil L, h => .cons h (.nil _)
  | _, _, _, .cons a b, h => .cons a (b.snoc h)
theorem Shut.length : ∀ {Q E : List Int} {L : List Lk}, Shut L Q E → Q.length = E.length
  | _, _, _, .nil L => rfl
  | _, _, _, .cons a b => by simp [b.length]
end MP

namespace MP
open PySem PySem.Spec
/-! ### notes -/
structure Note where
  t : Int
  k : Bool
  v : Int
deriving DecidableEq
def kd (k : Bool) : Str := if k = true then "closed" else "end"
def noteD (x : Note) : D := .tup [.int x.t, .str (kd x.k), .int x.v]
structure Told (Q E : List Int) (s : Nat) (N : List Note) : Prop where
  tr : ∀ x ∈ N, 0 ≤ x.t ∧ x.t < s ∧ (x.k = true → Q[x.t.toNat]? = some x.v) ∧ (x.k = false → E[x.t.toNat]? = some x.v)
  so : N.Pairwise fun x y => x.t < y.t ∨ (x.t = y.t ∧ x.k = true ∧ y.k = false)
  len : N.length ≤ 2 * s
theorem Told.nil (Q E : List Int) (s : Nat) : Told Q E s [] := ⟨fun x hx => (by cases hx), .nil, by simp⟩
/-! ### _law_story -/
structure Story (c s : Nat) (L : List Lk) (Q E : List Int) (N : List Note) : Prop where
  wood : Wood c L
  len : L.length = c - 1
  c1 : 1 ≤ c
  sc : s ≤ c - 1
  shut : Shut L Q E
  ql : Q.length = s
  qr : ∀ q ∈ Q, 0 ≤ q ∧ q < c
  told : Told Q E s N
end MP

namespace MP
open PySem PySem.Spec
/-! ### journals -/
structure J where
  n : Int
  m : Int
  N : List Note
/-- the journal's notes are of its towns and times, at most one of a kind at a time -/
structure JW (j : J) : Prop where
  n0 : 0 ≤ j.n
  n1 : j.n ≤ 60
  m0 : 0 ≤ j.m
  m1 : j.m ≤ 60
  inr : ∀ x ∈ j.N, 0 ≤ x.t ∧ x.t < j.m ∧ 0 ≤ x.v ∧ x.v < j.n
  so : j.N.Pairwise fun x y => ¬ (x.t = y.t ∧ x.k = y.k)
def NoteR (x : Note) (d : D) : Prop := SeqD d [.int x.t, .str (kd x.k), .int x.v]
structure JR (d : D) (j : J) : Prop where
  w : JW j
  len : j.N.length ≤ 10000
  ex : ∃ d3 ds, SeqD d [.int j.n, .int j.m, d3] ∧ SeqD d3 ds ∧ All2 NoteR j.N ds
def notedL (j : J) (k : Bool) : List Lk := (j.N.filter fun x => x.k == k).map fun x => (x.t, x.v)
/-! ### span -/
def maxO (l : List Int) (z : Int) : Int := match l with
  | [] => z
  | x :: xs => maxL x xs
def minO (l : List Int) (z : Int) : Int := match l with
  | [] => z
  | x :: xs => minL x xs
def cameL (j : J) (p : Int) : List Int := ((notedL j true).filter fun l => l.2 == p).map (·.1)
def endL (j : J) (p : Int) : List Int := ((notedL j false).filter fun l => l.2 == p).map fun l => l.1 + 1
def spanF (j : J) (p : Int) : Lk := (maxO (endL j p ++ cameL j p) 0, minO (cameL j p) (j.m - 1))
theorem JR.ix0 {d : D} {j : J} (h : JR d j) (S : Sto) : fIx d (.int 0) S = .ok (.v (.int j.n)) S := by
  obtain ⟨d3, ds, h1, h2, h3⟩ := h.ex
  cases h1 <;> simp [fIx, ixD]
theorem JR.ix1 {d : D} {j : J} (h : JR d j) (S : Sto) : fIx d (.int 1) S = .ok (.v (.int j.m)) S := by
  obtain ⟨d3, ds, h1, h2, h3⟩ := h.ex
  cases h1 <;> simp [fIx, ixD]
end MP

namespace MP
open PySem PySem.Spec
/-! ### in -/
/-! ### dicts of ints -/
def keysI (l : List Int) : List L2.Key := l.map Sum.inl
theorem notedL_nodup {j : J} (h : JW j) (k : Bool) : ((notedL j k).map (·.1)).Nodup := by
  unfold notedL List.Nodup
  rw [List.map_map, List.pairwise_map]
  have := h.so.sublist (List.filter_sublist (p := fun x => x.k == k) (l := j.N))
  rw [List.pairwise_iff_forall_sublist] at this ⊢
  intro a b hab
  have e1 : a ∈ j.N.filter fun x => x.k == k := hab.subset (by simp)
  have e2 : b ∈ j.N.filter fun x => x.k == k := hab.subset (by simp)
  have h1 := (List.mem_filter.mp e1).2
  have h2 := (List.mem_filter.mp e2).2
  simp at h1 h2
  intro e
  exact this hab ⟨e, h1.trans h2.symm⟩
/-! ### is_sound -/
def soundF (j : J) : Bool := (notedL j true).all fun x => decide (spanF j x.2 = (x.1, x.1))
theorem bls_map : ∀ l : List Bool, blsOf (l.map D.bl) = some l
  | [] => rfl
  | x :: l => by simp [blsOf, bls_map l]
theorem bAll_map {α : Type} (l : List α) (p : α → Bool) (S : Sto) : bAll [.lst (l.map fun x => D.bl (p x))] S = .ok (.v (.bl (l.all p))) S := by
  have e : (l.map fun x => D.bl (p x)) = (l.map p).map D.bl := by simp
  unfold bAll
  simp only [e, bls_map]
  simp
end MP

namespace MP
open PySem PySem.Spec
/-! ### count_orders -/
def timesF (j : J) (k : Bool) : List Int := (notedL j k).map (·.1)
def townsF (j : J) : List Int := (notedL j true).map (·.2)
def startsF (j : J) : List Int := ((rng j.n.toNat).filter fun p => !decide (p ∈ townsF j)).map fun p => (spanF j p).1
def pos0 (x : Int) : Int := if x > 0 then x else 0
def cntStep (tk st : List Int) (a : Int × Int) (t : Int) : Int × Int := if t ∈ tk then a else (a.1 * pos0 (((st.filter fun x => decide (x ≤ t)).length : Int) - a.2), a.2 + 1)
def countF (j : J) : Int := if soundF j = true then ((rng j.m.toNat).foldl (cntStep (timesF j true) (startsF j)) (1, 0)).1 else 0
theorem rng_succ_get {n i : Nat} {x : Int} (h : (rng n)[i]? = some x) : i < n ∧ x = i := by
  have hi := (List.getElem?_eq_some_iff.mp h).1
  rw [rng_len] at hi
  unfold rng at h
  rw [List.getElem?_map, List.getElem?_range hi] at h
  exact ⟨hi, (Option.some.inj h).symm⟩
end MP

namespace MP
open PySem PySem.Spec
/-! ### lost_ways, count_stories -/
def lostF (j : J) : Int := (rng j.m.toNat).foldl (fun a t => if t ∈ timesF j false then a else a * (j.n - 1 - t)) 1
/-! ### windows, evidence -/
def windF (j : J) : List Lk := (rng j.n.toNat).map (spanF j)
def lostT (j : J) : List Int := usort (((notedL j true).filter fun x => decide ((spanF j x.2).2 < (spanF j x.2).1)).map (·.2))
def fewF (j : J) (t : Int) : Bool := decide ((((windF j).filter fun x => decide (x.1 ≤ x.2) && decide (x.1 ≤ t)).length : Int) ≤ t)
def evidF (j : J) : D := if 0 < (lostT j).length then .tup [.str "never", .int ((lostT j).getD 0 0)] else
  if 0 < ((rng j.m.toNat).filter (fewF j)).length then .tup [.str "few", .int (((rng j.m.toNat).filter (fewF j)).getD 0 0)] else .non

theorem nodup_sub_len : ∀ {l m : List Int}, l.Nodup → (∀ x ∈ l, x ∈ m) → l.length ≤ m.length
  | [], _, _, _ => by simp
  | x :: l, m, nd, h => by
    obtain ⟨h1, h2⟩ := List.nodup_cons.mp nd
    have ih := nodup_sub_len (l := l) (m := m.erase x) h2 fun y hy => (List.mem_erase_of_ne (fun e => h1 (by rw [← e]; exact hy))).mpr (h y (List.mem_cons_of_mem _ hy))
    have hx := h x List.mem_cons_self
    rw [List.length_erase_of_mem hx] at ih
    have := List.length_pos_of_mem hx
    rw [List.length_cons]
    omega
/-! ### is_number, are_towns, is_order -/
def orderF (j : J) (l : List Int) : Bool := (decide ((l.length : Int) = j.m) && l.all fun p => decide (0 ≤ p) && decide (p < j.n)) && decide (((usort l).length : Int) = j.m) && ((notedL j true).all fun x => decide (l[x.1.toNat]? = some x.2)) && ((notedL j false).all fun x => !decide (x.2 ∈ l.take (x.1.toNat + 1)))
end MP

namespace MP
open PySem PySem.Spec
/-! ### what a closing of a wood is like -/
theorem mem_mates {L : List Lk} {p e : Int} (h : e ∈ mates L p) : ∃ l ∈ L, touch p l = true ∧ e = other p l := by
  unfold mates at h
  obtain ⟨l, hl, rfl⟩ := List.mem_map.mp h
  obtain ⟨h1, h2⟩ := List.mem_filter.mp hl
  exact ⟨l, h1, h2, rfl⟩
theorem touch_other {p : Int} {l : Lk} (h : touch p l = true) : touch (other p l) l = true := by
  unfold touch other at *
  simp only [Bool.or_eq_true, beq_iff_eq] at *
  split
  · exact .inr rfl
  · exact .inl rfl
theorem other_ne {p : Int} {l : Lk} (h : touch p l = true) (hl : l.1 ≠ l.2) : other p l ≠ p := by
  unfold touch other at *
  simp only [Bool.or_eq_true, beq_iff_eq] at h
  split
  · rename_i c
    exact fun z => hl (c.trans z.symm)
  · rename_i c
    exact c
theorem cut_mem {L : List Lk} {q : Int} {l : Lk} (h : l ∈ cutL L q) : l ∈ L ∧ touch q l = false := by
  unfold cutL at h
  obtain ⟨h1, h2⟩ := List.mem_filter.mp h
  exact ⟨h1, by simpa using h2⟩
theorem Shut.q_touch : ∀ {Q E : List Int} {L : List Lk}, Shut L Q E → ∀ q ∈ Q, ∃ l ∈ L, touch q l = true
  | _, _, _, .nil _, q, h => by cases h
  | _, _, L, .cons a b, q, h => by
    rcases List.mem_cons.mp h with rfl | h
    · obtain ⟨l, h1, h2, _⟩ := mem_mates (L := L) (p := q) (by rw [a]; exact List.mem_cons_self)
      exact ⟨l, h1, h2⟩
    · obtain ⟨l, h1, h2⟩ := b.q_touch q h
      exact ⟨l, (cut_mem h1).1, h2⟩
theorem Shut.e_touch : ∀ {Q E : List Int} {L : List Lk}, Shut L Q E → ∀ e ∈ E, ∃ l ∈ L, touch e l = true
  | _, _, _, .nil _, q, h => by cases h
  | _, _, L, @Shut.cons _ q0 e0 _ _ a b, e, h => by
    rcases List.mem_cons.mp h with rfl | h
    · obtain ⟨l, h1, h2, h3⟩ := mem_mates (L := L) (p := q0) (e := e) (by rw [a]; exact List.mem_cons_self)
      exact ⟨l, h1, by rw [h3]; exact touch_other h2⟩
    · obtain ⟨l, h1, h2⟩ := b.e_touch e h
      exact ⟨l, (cut_mem h1).1, h2⟩
theorem Shut.nodup : ∀ {Q E : List Int} {L : List Lk}, Shut L Q E → Q.Nodup
  | _, _, _, .nil _ => List.nodup_nil
  | _, _, L, .cons a b => by
    refine List.nodup_cons.mpr ⟨fun h => ?_, b.nodup⟩
    obtain ⟨l, h1, h2⟩ := b.q_touch _ h
    rw [(cut_mem h1).2] at h2
    cases h2
theorem Shut.open_ : ∀ {Q E : List Int} {L : List Lk}, Shut L Q E → (∀ l ∈ L, l.1 ≠ l.2) → ∀ (i : Nat) (e : Int), E[i]? = some e → e ∉ Q.take (i + 1)
  | _, _, _, .nil _, _, i, e, h => by simp at h
  | _, _, L, @Shut.cons _ q0 e0 Q E a b, hne, i, e, h => by
    obtain ⟨l, h1, h2, h3⟩ := mem_mates (L := L) (p := q0) (e := e0) (by rw [a]; exact List.mem_cons_self)
    rw [List.take_succ_cons]
    intro z
    cases i with
    | zero =>
      simp at h z
      exact other_ne h2 (hne l h1) (by rw [← h3, h, z])
    | succ i =>
      have h : E[i]? = some e := by simpa using h
      rcases List.mem_cons.mp z with z | z
      · obtain ⟨m, m1, m2⟩ := b.e_touch e (List.mem_of_getElem? h)
        rw [z, (cut_mem m1).2] at m2
        cases m2
      · exact b.open_ (fun l hl => hne l (cut_mem hl).1) i e h z
/-! ### a tale: an order and ends that fit -/
structure Tale (c s : Nat) (Q E : List Int) (N : List Note) : Prop where
  sc : s + 1 ≤ c
  ql : Q.length = s
  el : E.length = s
  qr : ∀ q ∈ Q, 0 ≤ q ∧ q < c
  er : ∀ e ∈ E, 0 ≤ e ∧ e < c
  nd : Q.Nodup
  op : ∀ (i : Nat) (e : Int), E[i]? = some e → e ∉ Q.take (i + 1)
  told : Told Q E s N
theorem Story.tale {c s : Nat} {L : List Lk} {Q E : List Int} {N : List Note} (h : Story c s L Q E N) : Tale c s Q E N := by
  have c1 := h.c1
  have sc := h.sc
  refine ⟨by omega, h.ql, by rw [← h.shut.length]; exact h.ql, h.qr, fun e he => ?_, h.shut.nodup, h.shut.open_ (fun l hl => ?_), h.told⟩
  · obtain ⟨l, h1, h2⟩ := h.shut.e_touch e he
    have r := h.wood.inr l h1
    unfold touch at h2
    simp only [Bool.or_eq_true, beq_iff_eq] at h2
    rcases h2 with z | z <;> omega
  · have := (h.wood.inr l hl).2.1
    omega
/-- the journal of a tale, with k towns more -/
def jk (c s : Nat) (N : List Note) (k : Nat) : J := ⟨(c : Int) + k, s, N⟩
section
variable {c s : Nat} {Q E : List Int} {N : List Note}
theorem Tale.jw (h : Tale c s Q E N) (hc : c ≤ 50) {k : Nat} (hk : k ≤ 10) : JW (jk c s N k) := by
  have sc := h.sc
  refine ⟨by show (0 : Int) ≤ c + k; omega, by show (c : Int) + k ≤ 60; omega, by show (0 : Int) ≤ s; omega, by show (s : Int) ≤ 60; omega, fun x hx => ?_, ?_⟩
  · obtain ⟨h1, h2, h3, h4⟩ := h.told.tr x hx
    have : 0 ≤ x.v ∧ x.v < c := by
      cases hxk : x.k with
      | true => exact h.qr _ (List.mem_of_getElem? (h3 hxk))
      | false => exact h.er _ (List.mem_of_getElem? (h4 hxk))
    exact ⟨h1, h2, this.1, by show x.v < (c : Int) + k; omega⟩
  · refine h.told.so.imp fun {x y} hxy => ?_
    rintro ⟨e1, e2⟩
    rcases hxy with z | ⟨_, z1, z2⟩
    · omega
    · rw [z1, z2] at e2
      cases e2
theorem mem_noted {j : J} {k : Bool} {l : Lk} : l ∈ notedL j k ↔ ∃ x ∈ j.N, x.k = k ∧ l = (x.t, x.v) := by
  unfold notedL
  simp only [List.mem_map, List.mem_filter, beq_iff_eq]
  constructor
  · rintro ⟨x, ⟨h1, h2⟩, rfl⟩
    exact ⟨x, h1, h2, rfl⟩
  · rintro ⟨x, h1, h2, rfl⟩
    exact ⟨x, ⟨h1, h2⟩, rfl⟩
/-- what the notes tell -/
theorem Tale.closed (h : Tale c s Q E N) {k : Nat} {l : Lk} (hl : l ∈ notedL (jk c s N k) true) : 0 ≤ l.1 ∧ l.1 < s ∧ Q[l.1.toNat]? = some l.2 := by
  obtain ⟨x, hx, hk, rfl⟩ := mem_noted.mp hl
  obtain ⟨h1, h2, h3, h4⟩ := h.told.tr x hx
  exact ⟨h1, h2, h3 hk⟩
theorem Tale.ended (h : Tale c s Q E N) {k : Nat} {l : Lk} (hl : l ∈ notedL (jk c s N k) false) : 0 ≤ l.1 ∧ l.1 < s ∧ E[l.1.toNat]? = some l.2 := by
  obtain ⟨x, hx, hk, rfl⟩ := mem_noted.mp hl
  obtain ⟨h1, h2, h3, h4⟩ := h.told.tr x hx
  exact ⟨h1, h2, h4 hk⟩
theorem mem_came {j : J} {p t : Int} : t ∈ cameL j p ↔ (t, p) ∈ notedL j true := by
  unfold cameL
  simp only [List.mem_map, List.mem_filter, beq_iff_eq]
  constructor
  · rintro ⟨l, ⟨h1, h2⟩, rfl⟩
    rw [← h2]
    exact h1
  · intro h
    exact ⟨(t, p), ⟨h, rfl⟩, rfl⟩
theorem mem_endL {j : J} {p t : Int} : t ∈ endL j p ↔ (t - 1, p) ∈ notedL j false := by
  unfold endL
  simp only [List.mem_map, List.mem_filter, beq_iff_eq]
  constructor
  · rintro ⟨l, ⟨h1, h2⟩, rfl⟩
    have : (l.1 + 1 - 1, p) = l := by rw [← h2]; ext <;> simp <;> omega
    rw [this]
    exact h1
  · intro h
    exact ⟨(t - 1, p), ⟨h, rfl⟩, by show t - 1 + 1 = t; omega⟩
theorem maxO_mem {l : List Int} {z : Int} : (l = [] ∧ maxO l z = z) ∨ (maxO l z ∈ l ∧ ∀ y ∈ l, y ≤ maxO l z) := by
  cases l with
  | nil => exact .inl ⟨rfl, rfl⟩
  | cons x l =>
    right
    obtain ⟨h1, h2, h3⟩ := maxL_spec l x
    refine ⟨?_, fun y hy => ?_⟩
    · show maxL x l ∈ _
      rcases h1 with h | h
      · rw [h]; exact List.mem_cons_self
      · exact List.mem_cons_of_mem _ h
    · rcases List.mem_cons.mp hy with rfl | hy
      · exact h2
      · exact h3 y hy
theorem minO_mem {l : List Int} {z : Int} : (l = [] ∧ minO l z = z) ∨ (minO l z ∈ l ∧ ∀ y ∈ l, minO l z ≤ y) := by
  cases l with
  | nil => exact .inl ⟨rfl, rfl⟩
  | cons x l =>
    right
    obtain ⟨h1, h2, h3⟩ := minL_spec l x
    refine ⟨?_, fun y hy => ?_⟩
    · show minL x l ∈ _
      rcases h1 with h | h
      · rw [h]; exact List.mem_cons_self
      · exact List.mem_cons_of_mem _ h
    · rcases List.mem_cons.mp hy with rfl | hy
      · exact h2
      · exact h3 y hy
/-- a town that the order closes at i: its window holds i; if that is noted, it is (i, i) -/
theorem Tale.span (h : Tale c s Q E N) {k i : Nat} {p : Int} (hp : Q[i]? = some p) : 0 ≤ (spanF (jk c s N k) p).1 ∧ (spanF (jk c s N k) p).1 ≤ i ∧ (i : Int) ≤ (spanF (jk c s N k) p).2 ∧ (((i : Int), p) ∈ notedL (jk c s N k) true → spanF (jk c s N k) p = ((i : Int), (i : Int))) := by
  have his : i < s := by
    have := (List.getElem?_eq_some_iff.mp hp).1
    rw [h.ql] at this
    exact this
  have uniq : ∀ t ∈ cameL (jk c s N k) p, t = i := fun t ht => by
    obtain ⟨h1, h2, h3⟩ := h.closed (mem_came.mp ht)
    have e : t.toNat = i := by
      obtain ⟨l1, g1⟩ := List.getElem?_eq_some_iff.mp h3
      obtain ⟨l2, g2⟩ := List.getElem?_eq_some_iff.mp hp
      exact (List.getElem_inj h.nd).mp (g1.trans g2.symm)
    have h1 : 0 ≤ t := h1
    omega
  have below : ∀ t ∈ endL (jk c s N k) p, 1 ≤ t ∧ t ≤ i := fun t ht => by
    obtain ⟨h1, h2, h3⟩ := h.ended (mem_endL.mp ht)
    have h1 : 0 ≤ t - 1 := h1
    have op := h.op _ _ h3
    have h3' : (t - 1).toNat + 1 ≤ i := by
      rcases Nat.lt_or_ge i ((t - 1).toNat + 1) with c | c
      · exact absurd (List.mem_of_getElem? (by rw [List.getElem?_take_of_lt c]; exact hp)) op
      · exact c
    omega
  have all : ∀ t ∈ endL (jk c s N k) p ++ cameL (jk c s N k) p, 0 ≤ t ∧ t ≤ i := fun t ht => by
    rcases List.mem_append.mp ht with ht | ht
    · have := below t ht
      omega
    · have := uniq t ht
      omega
  have f1 : 0 ≤ (spanF (jk c s N k) p).1 ∧ (spanF (jk c s N k) p).1 ≤ i := by
    rcases maxO_mem (l := endL (jk c s N k) p ++ cameL (jk c s N k) p) (z := 0) with ⟨_, e⟩ | ⟨e, _⟩
    · show 0 ≤ maxO _ 0 ∧ maxO _ 0 ≤ _
      rw [e]
      omega
    · exact all _ e
  have f2 : (i : Int) ≤ (spanF (jk c s N k) p).2 := by
    rcases minO_mem (l := cameL (jk c s N k) p) (z := (s : Int) - 1) with ⟨_, e⟩ | ⟨e, _⟩
    · show _ ≤ minO _ ((s : Int) - 1)
      rw [e]
      omega
    · have := uniq _ e
      show _ ≤ minO _ ((s : Int) - 1)
      omega
  refine ⟨f1.1, f1.2, f2, fun hm => ?_⟩
  have hc : (i : Int) ∈ cameL (jk c s N k) p := mem_came.mpr hm
  have g1 : (i : Int) ≤ (spanF (jk c s N k) p).1 := by
    rcases maxO_mem (l := endL (jk c s N k) p ++ cameL (jk c s N k) p) (z := 0) with ⟨e, _⟩ | ⟨_, e⟩
    · have : (i : Int) ∈ endL (jk c s N k) p ++ cameL (jk c s N k) p := List.mem_append_right _ hc
      rw [e] at this
      cases this
    · exact e _ (List.mem_append_right _ hc)
  have g2 : (spanF (jk c s N k) p).2 ≤ i := by
    rcases minO_mem (l := cameL (jk c s N k) p) (z := (s : Int) - 1) with ⟨e, _⟩ | ⟨_, e⟩
    · rw [e] at hc
      cases hc
    · exact e _ hc
  ext
  · show (spanF (jk c s N k) p).1 = i
    omega
  · show (spanF (jk c s N k) p).2 = i
    omega
/-- a town without notes may be closed at any time -/
theorem span_free {j : J} {p : Int} (h : ∀ x ∈ j.N, x.v ≠ p) : spanF j p = (0, j.m - 1) := by
  have e1 : cameL j p = [] := List.eq_nil_iff_forall_not_mem.mpr fun t ht => by
    obtain ⟨x, hx, _, e⟩ := mem_noted.mp (mem_came.mp ht)
    exact h x hx (congrArg (·.2) e).symm
  have e2 : endL j p = [] := List.eq_nil_iff_forall_not_mem.mpr fun t ht => by
    obtain ⟨x, hx, _, e⟩ := mem_noted.mp (mem_endL.mp ht)
    exact h x hx (congrArg (·.2) e).symm
  unfold spanF
  rw [e1, e2]
  rfl
theorem Tale.sound (h : Tale c s Q E N) (k : Nat) : soundF (jk c s N k) = true := by
  unfold soundF
  rw [List.all_eq_true]
  intro l hl
  obtain ⟨h1, h2, h3⟩ := h.closed hl
  have e : ((l.1.toNat : Nat) : Int) = l.1 := by omega
  have := (h.span (k := k) h3).2.2.2 (by rw [e]; exact hl)
  rw [e] at this
  simpa using this
end
end MP

namespace MP
open PySem PySem.Spec
/-! ### the count as a product -/
def cntLe (st : List Int) (t : Int) : Int := ((st.filter fun x => decide (x ≤ t)).length : Int)
/-- k towns more, u times before -/
def prodK (st : List Int) (k : Int) : Int → List Int → Int
  | _, [] => 1
  | u, t :: ts => pos0 (cntLe st t + k - u) * prodK st k (u + 1) ts
theorem fold_prod (tk st : List Int) : ∀ (l : List Int) (a : Int × Int), (l.foldl (cntStep tk st) a).1 = a.1 * prodK st 0 a.2 (l.filter fun t => !decide (t ∈ tk))
  | [], a => by simp [prodK]
  | t :: l, a => by
    rw [List.foldl_cons, fold_prod tk st l]
    by_cases c : t ∈ tk
    · have e : cntStep tk st a t = a := by unfold cntStep; rw [if_pos c]
      rw [e, List.filter_cons_of_neg (by simp [c])]
    · have e : cntStep tk st a t = (a.1 * pos0 (cntLe st t - a.2), a.2 + 1) := by unfold cntStep; rw [if_neg c]; rfl
      rw [e, List.filter_cons_of_pos (by simp [c])]
      show a.1 * pos0 (cntLe st t - a.2) * prodK st 0 (a.2 + 1) _ = a.1 * (pos0 (cntLe st t + 0 - a.2) * prodK st 0 (a.2 + 1) _)
      rw [Int.add_zero, Int.mul_assoc]
theorem prod_shift {st st' : List Int} {k k' : Int} : ∀ (ts : List Int) (u : Int), (∀ t ∈ ts, cntLe st t + k = cntLe st' t + k') → prodK st k u ts = prodK st' k' u ts
  | [], _, _ => rfl
  | t :: ts, u, h => by
    unfold prodK
    rw [h t List.mem_cons_self, prod_shift ts (u + 1) fun x hx => h x (List.mem_cons_of_mem _ hx)]
theorem pos0_pos {x : Int} (h : 1 ≤ x) : pos0 x = x := by unfold pos0; rw [if_pos (by omega)]
/-- growth by towns more -/
theorem prod_conv (st : List Int) : ∀ (ts : List Int) (u : Int), (∀ (i : Nat) (t : Int), ts[i]? = some t → u + i + 1 ≤ cntLe st t) →
    1 ≤ prodK st 0 u ts ∧ prodK st 0 u ts ≤ prodK st 1 u ts ∧ prodK st 1 u ts ≤ prodK st 2 u ts ∧ 0 ≤ prodK st 2 u ts - 2 * prodK st 1 u ts + prodK st 0 u ts ∧ (prodK st 1 u ts = prodK st 0 u ts → prodK st 2 u ts - 2 * prodK st 1 u ts + prodK st 0 u ts = 0)
  | [], u, _ => by simp [prodK]
  | t :: ts, u, h => by
    have h0 := h 0 t rfl
    obtain ⟨a1, a2, a3, a4, a5⟩ := prod_conv st ts (u + 1) fun i t' e => by
      have := h (i + 1) t' (by simpa using e)
      have e : ((i + 1 : Nat) : Int) = i + 1 := by omega
      rw [e] at this
      omega
    have hb : 1 ≤ cntLe st t - u := by
      have : ((0 : Nat) : Int) = 0 := rfl
      rw [this] at h0
      omega
    unfold prodK
    rw [pos0_pos (by omega), pos0_pos (by omega), pos0_pos (by omega)]
    generalize cntLe st t = q at hb
    obtain ⟨b, rfl⟩ : ∃ b, q = b + u := ⟨q - u, by omega⟩
    have hb : 1 ≤ b := by omega
    have e0 : b + u + 0 - u = b := by omega
    have e1 : b + u + 1 - u = b + 1 := by omega
    have e2 : b + u + 2 - u = b + 2 := by omega
    rw [e0, e1, e2]
    generalize prodK st 0 (u + 1) ts = p0 at *
    generalize prodK st 1 (u + 1) ts = p1 at *
    generalize prodK st 2 (u + 1) ts = p2 at *
    have m0 : b * p0 ≤ b * p1 := Int.mul_le_mul_of_nonneg_left a2 (by omega)
    have m1 : b * p1 ≤ b * p2 := Int.mul_le_mul_of_nonneg_left a3 (by omega)
    have m2 : 1 ≤ b * p0 := by
      have := Int.mul_le_mul hb a1 (by decide) (by omega)
      simpa using this
    have x1 : (b + 1) * p1 = b * p1 + p1 := by rw [Int.add_mul, Int.one_mul]
    have x2 : (b + 2) * p2 = b * p2 + 2 * p2 := by rw [Int.add_mul]
    have x3 : 0 ≤ b * (p2 - 2 * p1 + p0) := Int.mul_nonneg (by omega) a4
    have x4 : b * (p2 - 2 * p1 + p0) = b * p2 - 2 * (b * p1) + b * p0 := by
      rw [Int.mul_add, Int.mul_sub, Int.mul_left_comm]
    rw [x1, x2]
    refine ⟨m2, by omega, by omega, by omega, fun z => ?_⟩
    omega
/-! ### bounds -/
/-! ### the counts of a tale -/
theorem rng_succ (n : Nat) : rng (n + 1) = rng n ++ [(n : Int)] := by
  unfold rng
  rw [List.range_succ, List.map_append]
  rfl
section
variable {c s : Nat} {Q E : List Int} {N : List Note}
theorem Tale.town (h : Tale c s Q E N) {k : Nat} {p : Int} (hp : p ∈ townsF (jk c s N k)) : ∃ t : Nat, (t : Int) ∈ timesF (jk c s N k) true ∧ Q[t]? = some p := by
  unfold townsF at hp
  obtain ⟨l, hl, rfl⟩ := List.mem_map.mp hp
  obtain ⟨h1, h2, h3⟩ := h.closed hl
  refine ⟨l.1.toNat, ?_, h3⟩
  have e : ((l.1.toNat : Nat) : Int) = l.1 := by omega
  rw [e]
  exact List.mem_map_of_mem hl
theorem Tale.note_lt (h : Tale c s Q E N) {x : Note} (hx : x ∈ N) : 0 ≤ x.v ∧ x.v < c := by
  obtain ⟨h1, h2, h3, h4⟩ := h.told.tr x hx
  cases hxk : x.k with
  | true => exact h.qr _ (List.mem_of_getElem? (h3 hxk))
  | false => exact h.er _ (List.mem_of_getElem? (h4 hxk))
theorem Tale.span_more (h : Tale c s Q E N) {k : Nat} {p : Int} (hp : (c : Int) ≤ p) : spanF (jk c s N k) p = (0, (s : Int) - 1) :=
  span_free (j := jk c s N k) fun x hx e => by
    have := (h.note_lt hx).2
    omega
theorem Tale.starts_succ (h : Tale c s Q E N) (k : Nat) : startsF (jk c s N (k + 1)) = startsF (jk c s N k) ++ [0] := by
  have e1 : (jk c s N (k + 1)).n.toNat = (jk c s N k).n.toNat + 1 := by
    show ((c : Int) + (k + 1 : Nat)).toNat = ((c : Int) + k).toNat + 1
    omega
  have e2 : (((jk c s N k).n.toNat : Nat) : Int) = (c : Int) + k := by
    show ((((c : Int) + k).toNat : Nat) : Int) = _
    omega
  unfold startsF
  rw [e1, rng_succ, List.filter_append, List.map_append]
  congr 1
  rw [e2]
  have nt : ¬ ((c : Int) + k) ∈ townsF (jk c s N (k + 1)) := fun z => by
    obtain ⟨t, _, ht⟩ := h.town z
    have := (h.qr _ (List.mem_of_getElem? ht)).2
    omega
  rw [List.filter_cons_of_pos (by simp [nt])]
  simp [h.span_more (k := k + 1) (p := (c : Int) + k) (by omega)]
theorem Tale.cnt_more (h : Tale c s Q E N) {t : Int} (ht : 0 ≤ t) : ∀ k : Nat, cntLe (startsF (jk c s N k)) t = cntLe (startsF (jk c s N 0)) t + k
  | 0 => by simp
  | k + 1 => by
    rw [h.starts_succ k]
    have ih := h.cnt_more ht k
    unfold cntLe at ih ⊢
    rw [List.filter_append, List.length_append]
    have : ([(0 : Int)].filter fun x => decide (x ≤ t)) = [0] := by simp [ht]
    rw [this]
    simp only [List.length_cons, List.length_nil]
    omega
/-- the times that no note of a closing holds -/
def frT (s : Nat) (tk : List Int) : List Int := (rng s).filter fun t => !decide (t ∈ tk)
theorem Tale.room (h : Tale c s Q E N) (i : Nat) (t : Int) (ht : (frT s (timesF (jk c s N 0) true))[i]? = some t) : 0 ≤ t ∧ (i : Int) + 1 ≤ cntLe (startsF (jk c s N 0)) t := by
  have hs : ∀ x ∈ frT s (timesF (jk c s N 0) true), 0 ≤ x ∧ x < s ∧ x ∉ timesF (jk c s N 0) true := fun x hx => by
    unfold frT at hx
    obtain ⟨h1, h2⟩ := List.mem_filter.mp hx
    have := mem_rng.mp h1
    exact ⟨this.1, this.2, by simpa using h2⟩
  have inc : (frT s (timesF (jk c s N 0) true)).Pairwise (· < ·) := by
    unfold frT
    refine List.Pairwise.sublist List.filter_sublist ?_
    unfold rng
    rw [List.pairwise_map]
    exact List.pairwise_lt_range.imp fun h => by omega
  have h0 := hs t (List.mem_of_getElem? ht)
  refine ⟨h0.1, ?_⟩
  have hi := (List.getElem?_eq_some_iff.mp ht).1
  generalize hfr : frT s (timesF (jk c s N 0) true) = fr at *
  -- the towns that the order closes at these times
  have qAt : ∀ x ∈ fr, ∃ p, Q[x.toNat]? = some p := fun x hx => by
    have := hs x hx
    exact ⟨_, List.getElem?_eq_getElem (by rw [h.ql]; omega)⟩
  have lenA : ((fr.take (i + 1)).map fun x => Q.getD x.toNat 0).length = i + 1 := by
    rw [List.length_map, List.length_take]
    omega
  have ndA : ((fr.take (i + 1)).map fun x => Q.getD x.toNat 0).Nodup := by
    unfold List.Nodup
    rw [List.pairwise_map]
    have sub : (fr.take (i + 1)).Sublist fr := List.take_sublist _ _
    rw [List.pairwise_iff_forall_sublist]
    intro a b hab
    have lt := List.pairwise_iff_forall_sublist.mp (inc.sublist sub) hab
    have ha := sub.subset (hab.subset (show a ∈ [a, b] by simp))
    have hb := sub.subset (hab.subset (show b ∈ [a, b] by simp))
    obtain ⟨p, hp⟩ := qAt a ha
    obtain ⟨q, hq⟩ := qAt b hb
    have ra := hs a ha
    have rb := hs b hb
    intro e
    rw [List.getD_eq_getElem?_getD, List.getD_eq_getElem?_getD, hp, hq] at e
    have e : p = q := e
    subst e
    obtain ⟨l1, g1⟩ := List.getElem?_eq_some_iff.mp hp
    obtain ⟨l2, g2⟩ := List.getElem?_eq_some_iff.mp hq
    have := (List.getElem_inj h.nd).mp (g1.trans g2.symm)
    omega
  have subB : ∀ p ∈ (fr.take (i + 1)).map fun x => Q.getD x.toNat 0, p ∈ ((rng (jk c s N 0).n.toNat).filter fun p => !decide (p ∈ townsF (jk c s N 0))).filter fun p => decide ((spanF (jk c s N 0) p).1 ≤ t) := fun p hp => by
    obtain ⟨x, hx, rfl⟩ := List.mem_map.mp hp
    obtain ⟨m, hm⟩ := List.mem_iff_getElem?.mp hx
    have hxfr : x ∈ fr := (List.take_sublist _ _).subset hx
    have rx := hs x hxfr
    obtain ⟨p, hp⟩ := qAt x hxfr
    rw [List.getD_eq_getElem?_getD, hp]
    show p ∈ _
    have hpr := h.qr _ (List.mem_of_getElem? hp)
    have sp := h.span (k := 0) hp
    have hxt : x ≤ t := by
      have hml : m < (fr.take (i + 1)).length := (List.getElem?_eq_some_iff.mp hm).1
      rw [List.length_take] at hml
      have hm2 : fr[m]? = some x := by rw [← hm, List.getElem?_take_of_lt (by omega)]
      rcases Nat.lt_or_ge m i with c1 | c1
      · obtain ⟨l1, g1⟩ := List.getElem?_eq_some_iff.mp hm2
        obtain ⟨l2, g2⟩ := List.getElem?_eq_some_iff.mp ht
        have := List.pairwise_iff_getElem.mp inc m i l1 l2 c1
        rw [g1, g2] at this
        omega
      · have : m = i := by omega
        subst this
        rw [hm2] at ht
        cases ht
        exact Int.le_refl _
    refine List.mem_filter.mpr ⟨List.mem_filter.mpr ⟨mem_rng.mpr ⟨hpr.1, ?_⟩, ?_⟩, ?_⟩
    · show p < ((((c : Int) + (0 : Nat)).toNat : Nat) : Int)
      omega
    · simp only [Bool.not_eq_true', decide_eq_false_iff_not]
      intro z
      obtain ⟨t', h1, h2⟩ := h.town z
      obtain ⟨l1, g1⟩ := List.getElem?_eq_some_iff.mp hp
      obtain ⟨l2, g2⟩ := List.getElem?_eq_some_iff.mp h2
      have := (List.getElem_inj h.nd).mp (g1.trans g2.symm)
      have e : (t' : Int) = x := by omega
      rw [e] at h1
      exact rx.2.2 h1
    · simp only [decide_eq_true_eq]
      omega
  have := nodup_sub_len ndA subB
  rw [lenA] at this
  unfold cntLe startsF
  rw [List.filter_map, List.length_map]
  have e : (List.filter ((fun x => decide (x ≤ t)) ∘ fun p => (spanF (jk c s N 0) p).1) ((rng (jk c s N 0).n.toNat).filter fun p => !decide (p ∈ townsF (jk c s N 0)))) = ((rng (jk c s N 0).n.toNat).filter fun p => !decide (p ∈ townsF (jk c s N 0))).filter fun p => decide ((spanF (jk c s N 0) p).1 ≤ t) := rfl
  rw [e]
  omega
/-- the count of a tale's journal with k towns more -/
theorem Tale.count (h : Tale c s Q E N) (k : Nat) : countF (jk c s N k) = prodK (startsF (jk c s N 0)) k 0 (frT s (timesF (jk c s N 0) true)) := by
  unfold countF
  rw [if_pos (h.sound k), fold_prod]
  have e : (jk c s N k).m.toNat = s := by show ((s : Int)).toNat = s; omega
  rw [e]
  show 1 * prodK _ 0 0 (frT s (timesF (jk c s N 0) true)) = _
  rw [Int.one_mul]
  refine prod_shift _ _ fun t ht => ?_
  obtain ⟨i, hi⟩ := List.mem_iff_getElem?.mp ht
  rw [h.cnt_more (h.room i t hi).1 k]
  omega
theorem Tale.counts (h : Tale c s Q E N) : 1 ≤ countF (jk c s N 0) ∧ countF (jk c s N 0) ≤ countF (jk c s N 1) ∧ 0 ≤ countF (jk c s N 2) - 2 * countF (jk c s N 1) + countF (jk c s N 0) ∧ (countF (jk c s N 1) = countF (jk c s N 0) → countF (jk c s N 2) - 2 * countF (jk c s N 1) + countF (jk c s N 0) = 0) := by
  rw [h.count 0, h.count 1, h.count 2]
  obtain ⟨a1, a2, a3, a4, a5⟩ := prod_conv (startsF (jk c s N 0)) (frT s (timesF (jk c s N 0) true)) 0 fun i t e => by
    have := (h.room i t e).2
    omega
  exact ⟨a1, a2, a4, a5⟩
/-! ### the lost ways of a tale -/
theorem lost_mono (tk : List Int) (f g : Int → Int) : ∀ (l : List Int) (a b : Int), 1 ≤ a → a ≤ b → (∀ t ∈ l, 1 ≤ f t ∧ f t ≤ g t) → 1 ≤ l.foldl (fun a t => if t ∈ tk then a else a * f t) a ∧ l.foldl (fun a t => if t ∈ tk then a else a * f t) a ≤ l.foldl (fun a t => if t ∈ tk then a else a * g t) b
  | [], a, b, h1, h2, _ => ⟨h1, h2⟩
  | t :: l, a, b, h1, h2, h => by
    rw [List.foldl_cons, List.foldl_cons]
    have hl : ∀ t ∈ l, 1 ≤ f t ∧ f t ≤ g t := fun x hx => h x (List.mem_cons_of_mem _ hx)
    by_cases c : t ∈ tk
    · rw [if_pos c, if_pos c]
      exact lost_mono tk f g l a b h1 h2 hl
    · rw [if_neg c, if_neg c]
      obtain ⟨f1, f2⟩ := h t List.mem_cons_self
      refine lost_mono tk f g l _ _ ?_ ?_ hl
      · have := Int.mul_le_mul h1 f1 (by decide) (by omega)
        simpa using this
      · exact Int.mul_le_mul h2 f2 (by omega) (by omega)
theorem Tale.lost (h : Tale c s Q E N) : 1 ≤ lostF (jk c s N 0) ∧ lostF (jk c s N 0) ≤ lostF (jk c s N 1) := by
  have sc := h.sc
  refine lost_mono (timesF (jk c s N 0) false) (fun t => (jk c s N 0).n - 1 - t) (fun t => (jk c s N 1).n - 1 - t) (rng (jk c s N 0).m.toNat) 1 1 (by decide) (by decide) fun t ht => ?_
  have := mem_rng.mp ht
  have e : (jk c s N 0).m.toNat = s := by show ((s : Int)).toNat = s; omega
  rw [e] at this
  show 1 ≤ (c : Int) + (0 : Nat) - 1 - t ∧ (c : Int) + (0 : Nat) - 1 - t ≤ (c : Int) + (1 : Nat) - 1 - t
  omega
end
end MP

namespace MP
open PySem PySem.Spec
theorem usort_len {l : List Int} (h : l.Nodup) : (usort l).length = l.length :=
  ((List.perm_ext_iff_of_nodup ((usort_lt l).imp fun h => by omega) h).mpr fun k => mem_usort).length_eq
section
variable {c s : Nat} {Q E : List Int} {N : List Note}
/-- a row that is an order by the notes -/
theorem orderF_of {j : J} {l : List Int} (hl : (l.length : Int) = j.m) (hr : ∀ p ∈ l, 0 ≤ p ∧ p < j.n) (nd : l.Nodup) (hc : ∀ x ∈ notedL j true, l[x.1.toNat]? = some x.2) (he : ∀ x ∈ notedL j false, x.2 ∉ l.take (x.1.toNat + 1)) : orderF j l = true := by
  unfold orderF
  simp only [Bool.and_eq_true, decide_eq_true_eq, List.all_eq_true, Bool.not_eq_true', decide_eq_false_iff_not]
  exact ⟨⟨⟨⟨hl, hr⟩, by rw [usort_len nd]; exact hl⟩, hc⟩, he⟩
theorem Tale.order (h : Tale c s Q E N) (k : Nat) : orderF (jk c s N k) Q = true := by
  refine orderF_of (by rw [h.ql]; rfl) (fun p hp => ?_) h.nd (fun x hx => (h.closed hx).2.2) fun x hx => h.op _ _ (h.ended hx).2.2
  have := h.qr p hp
  exact ⟨this.1, by show p < (c : Int) + k; omega⟩
theorem Tale.evid (h : Tale c s Q E N) (k : Nat) : evidF (jk c s N k) = .non := by
  have e1 : lostT (jk c s N k) = [] := by
    unfold lostT
    have : (notedL (jk c s N k) true).filter (fun x => decide ((spanF (jk c s N k) x.2).2 < (spanF (jk c s N k) x.2).1)) = [] := by
      rw [List.filter_eq_nil_iff]
      intro x hx
      obtain ⟨h1, h2, h3⟩ := h.closed hx
      obtain ⟨a1, a2, a3, _⟩ := h.span (k := k) h3
      simp only [decide_eq_true_eq]
      omega
    rw [this]
    rfl
  have e2 : (rng (jk c s N k).m.toNat).filter (fewF (jk c s N k)) = [] := by
    rw [List.filter_eq_nil_iff]
    intro t ht
    have e : (jk c s N k).m.toNat = s := by show ((s : Int)).toNat = s; omega
    rw [e] at ht
    have ht := mem_rng.mp ht
    unfold fewF
    simp only [decide_eq_true_eq]
    have sub : ∀ p ∈ Q.take (t.toNat + 1), p ∈ (rng (jk c s N k).n.toNat).filter fun p => decide ((spanF (jk c s N k) p).1 ≤ (spanF (jk c s N k) p).2) && decide ((spanF (jk c s N k) p).1 ≤ t) := fun p hp => by
      obtain ⟨i, hi⟩ := List.mem_iff_getElem?.mp hp
      have hil : i < (Q.take (t.toNat + 1)).length := (List.getElem?_eq_some_iff.mp hi).1
      rw [List.length_take] at hil
      rw [List.getElem?_take_of_lt (by omega)] at hi
      obtain ⟨a1, a2, a3, _⟩ := h.span (k := k) hi
      have hpr := h.qr _ (List.mem_of_getElem? hi)
      refine List.mem_filter.mpr ⟨mem_rng.mpr ⟨hpr.1, ?_⟩, ?_⟩
      · show p < ((((c : Int) + k).toNat : Nat) : Int)
        omega
      · simp only [Bool.and_eq_true, decide_eq_true_eq]
        omega
    have := nodup_sub_len (h.nd.sublist (List.take_sublist _ _)) sub
    rw [List.length_take, h.ql] at this
    unfold windF
    rw [List.filter_map, List.length_map]
    have e : (List.filter ((fun x : Lk => decide (x.1 ≤ x.2) && decide (x.1 ≤ t)) ∘ spanF (jk c s N k)) (rng (jk c s N k).n.toNat)) = (rng (jk c s N k).n.toNat).filter fun p => decide ((spanF (jk c s N k) p).1 ≤ (spanF (jk c s N k) p).2) && decide ((spanF (jk c s N k) p).1 ≤ t) := rfl
    rw [e]
    omega
  unfold evidF
  rw [e1, e2]
  rfl
theorem Tale.wind (h : Tale c s Q E N) (k : Nat) : windF (jk c s N (k + 1)) = windF (jk c s N k) ++ [(0, (s : Int) - 1)] := by
  have e1 : (jk c s N (k + 1)).n.toNat = (jk c s N k).n.toNat + 1 := by
    show ((c : Int) + (k + 1 : Nat)).toNat = ((c : Int) + k).toNat + 1
    omega
  have e2 : (((jk c s N k).n.toNat : Nat) : Int) = (c : Int) + k := by
    show ((((c : Int) + k).toNat : Nat) : Int) = _
    omega
  unfold windF
  rw [e1, rng_succ, List.map_append, e2]
  congr 1
  simp [h.span_more (k := k + 1) (p := (c : Int) + k) (by omega)]
/-! ### towns exchanged that no note names -/
/-- where a dict sends a town, itself if it does not hold it -/
def sendF (fr ys : List Int) (p : Int) : Int := (fr.zip ys).lookup p |>.getD p
/-- the towns without a note -/
def freeF (c : Nat) (N : List Note) : List Int := (rng c).filter fun p => !decide (p ∈ N.map (·.v))
end
end MP

namespace MP
open PySem PySem.Spec
/-! ### the box of a script -/
theorem sp_cell {B : Tb} {n : Nat} {S : Sto} {ns : List Int} {k : Nat} (hB : B i__law_cell_at = some q__law_cell_at) : ∃ v : Int, callN B (n + 1) i__law_cell_at [.scr ns, .int k] S = .ok (.v (.int v)) S := by
  rw [callN_eq hB]
  by_cases c : k < ns.length
  · have e : ns[k]? = some ns[k] := List.getElem?_eq_getElem c
    exact ⟨ns[k], by simp [q__law_cell_at, b__law_cell_at, callF, startE, finO, dSeqS, dSet, slOf, dRet, dRetN, dIfS, dSkip, dVar, dBVar, dMv, dC, fz, rv, dOp, dUn, dNil, dCons, dTup, dLst, dB, dAndT, dOrT, dNotT, dAnd, dOr, dNot, dIf, dIfR, dCall, dBlt, dOp2, dSeq, itemsOf, dFrz, frzE, dPar, rCons, rNil, setSls, dAug, dUnp, bindTg, bindTgs, wipeE, dYes, dChain, Res.bind, Res.map, R.val, O.toD, fIx_tup, fIx_lst, fIx_loc, fIx_scr, ixD, fGt_i, fLt_i, fLe_i, fGe_i, fSub_i, fIAdd_i, fMod, fDiv, fAdd, fPow, fEq, fNe, fIsN, fNotN, isNon, bLen, bList, bTuple, bAbs, bInt, bMax2, bMin2, dPutL, listSlot, isL, mutL, fPut, dIxL, dMut1, fApp, List.getElem?_cons_zero, List.getElem?_cons_succ, List.set_cons_zero, List.set_cons_succ, List.map_cons, List.map_nil, List.cons_append, List.nil_append, List.length_cons, List.length_nil, List.replicate, if_true, if_false, ite_true, ite_false, Bool.false_eq_true, reduceIte, decide_true, decide_false, Option.map_some, Option.bind_some, c, e]⟩
  · have c2 : ¬ ((k : Int) < ns.length) := by omega
    exact ⟨0, by simp [q__law_cell_at, b__law_cell_at, callF, startE, finO, dSeqS, dSet, slOf, dRet, dRetN, dIfS, dSkip, dVar, dBVar, dMv, dC, fz, rv, dOp, dUn, dNil, dCons, dTup, dLst, dB, dAndT, dOrT, dNotT, dAnd, dOr, dNot, dIf, dIfR, dCall, dBlt, dOp2, dSeq, itemsOf, dFrz, frzE, dPar, rCons, rNil, setSls, dAug, dUnp, bindTg, bindTgs, wipeE, dYes, dChain, Res.bind, Res.map, R.val, O.toD, fIx_tup, fIx_lst, fIx_loc, fIx_scr, ixD, fGt_i, fLt_i, fLe_i, fGe_i, fSub_i, fIAdd_i, fMod, fDiv, fAdd, fPow, fEq, fNe, fIsN, fNotN, isNon, bLen, bList, bTuple, bAbs, bInt, bMax2, bMin2, dPutL, listSlot, isL, mutL, fPut, dIxL, dMut1, fApp, List.getElem?_cons_zero, List.getElem?_cons_succ, List.set_cons_zero, List.set_cons_succ, List.map_cons, List.map_nil, List.cons_append, List.nil_append, List.length_cons, List.length_nil, List.replicate, if_true, if_false, ite_true, ite_false, Bool.false_eq_true, reduceIte, decide_true, decide_false, Option.map_some, Option.bind_some, c]⟩
theorem sp_box {B : Tb} {n : Nat} {S : Sto} {ns : List Int} {k : Nat} (hB : B i__law_cell_at = some q__law_cell_at) (hX : B i__law_box = some q__law_box) : ∃ x y : Int, 0 ≤ x ∧ callN B (n + 2) i__law_box [.scr ns, .int k] S = .ok (.o (.l [.int x, .int y, .int 0])) S := by
  obtain ⟨v, hv⟩ := sp_cell (B := B) (n := n) (S := S) (ns := ns) (k := k) hB
  have hv : callN B (n + 1) 28 [.scr ns, .int k] S = .ok (.v (.int v)) S := hv
  have m1 : ∀ i : Int, mulOk i 0 = true := fun i => mulOk_small (by decide)
  have m2 : ∀ i : Int, mulOk i 1 = true := fun i => mulOk_small (by decide)
  have m3 : ∀ i : Int, mulOk 39373 i = true := fun i => mulOk_small1 (by decide)
  rw [callN_eq hX]
  by_cases c : (1000000000000000000 : Int) ≤ (if v < 0 then -v else v)
  · refine ⟨_, _, ?_, by simp [q__law_box, b__law_box, callF, startE, finO, dSeqS, dSet, slOf, dRet, dRetN, dIfS, dSkip, dVar, dBVar, dMv, dC, fz, rv, dOp, dUn, dNil, dCons, dTup, dLst, dB, dAndT, dOrT, dNotT, dAnd, dOr, dNot, dIf, dIfR, dCall, dBlt, dOp2, dSeq, itemsOf, dFrz, frzE, dPar, rCons, rNil, setSls, dAug, dUnp, bindTg, bindTgs, wipeE, dYes, dChain, Res.bind, Res.map, R.val, O.toD, fIx_tup, fIx_lst, fIx_loc, fIx_scr, ixD, fGt_i, fLt_i, fLe_i, fGe_i, fSub_i, fIAdd_i, fMod, fDiv, fAdd, fPow, fEq, fNe, fIsN, fNotN, isNon, bLen, bList, bTuple, bAbs, bInt, bMax2, bMin2, dPutL, listSlot, isL, mutL, fPut, dIxL, dMut1, fApp, List.getElem?_cons_zero, List.getElem?_cons_succ, List.set_cons_zero, List.set_cons_succ, List.map_cons, List.map_nil, List.cons_append, List.nil_append, List.length_cons, List.length_nil, List.replicate, if_true, if_false, ite_true, ite_false, Bool.false_eq_true, reduceIte, decide_true, decide_false, Option.map_some, Option.bind_some, hv, fMul, m1, m2, m3, c]; exact ⟨rfl, rfl⟩⟩
    split <;> omega
  · exact ⟨0, _, by decide, by simp [q__law_box, b__law_box, callF, startE, finO, dSeqS, dSet, slOf, dRet, dRetN, dIfS, dSkip, dVar, dBVar, dMv, dC, fz, rv, dOp, dUn, dNil, dCons, dTup, dLst, dB, dAndT, dOrT, dNotT, dAnd, dOr, dNot, dIf, dIfR, dCall, dBlt, dOp2, dSeq, itemsOf, dFrz, frzE, dPar, rCons, rNil, setSls, dAug, dUnp, bindTg, bindTgs, wipeE, dYes, dChain, Res.bind, Res.map, R.val, O.toD, fIx_tup, fIx_lst, fIx_loc, fIx_scr, ixD, fGt_i, fLt_i, fLe_i, fGe_i, fSub_i, fIAdd_i, fMod, fDiv, fAdd, fPow, fEq, fNe, fIsN, fNotN, isNon, bLen, bList, bTuple, bAbs, bInt, bMax2, bMin2, dPutL, listSlot, isL, mutL, fPut, dIxL, dMut1, fApp, List.getElem?_cons_zero, List.getElem?_cons_succ, List.set_cons_zero, List.set_cons_succ, List.map_cons, List.map_nil, List.cons_append, List.nil_append, List.length_cons, List.length_nil, List.replicate, if_true, if_false, ite_true, ite_false, Bool.false_eq_true, reduceIte, decide_true, decide_false, Option.map_some, Option.bind_some, hv, fMul, m1, m2, m3, c]; rfl⟩
/-! ### journals as tuples -/
def jD (j : J) : D := .tup [.int j.n, .int j.m, .tup (j.N.map noteD)]
theorem jr_jD {j : J} (w : JW j) (hl : j.N.length ≤ 10000) : JR (jD j) j := by
  refine ⟨w, hl, .tup (j.N.map noteD), j.N.map noteD, .tup _, .tup _, ?_⟩
  generalize j.N = l
  induction l with
  | nil => exact .nil
  | cons x l ih => exact .cons (.tup _) ih
/-! ### dict(zip()) of ints, and get -/
end MP

namespace MP
open PySem PySem.Spec
/-! ### orders as a proposition -/
structure Ord (j : J) (l : List Int) : Prop where
  len : (l.length : Int) = j.m
  inr : ∀ p ∈ l, 0 ≤ p ∧ p < j.n
  nd : l.Nodup
  cl : ∀ x ∈ notedL j true, l[x.1.toNat]? = some x.2
  en : ∀ x ∈ notedL j false, x.2 ∉ l.take (x.1.toNat + 1)
theorem insU_len (x : Int) : ∀ l : List Int, (insU x l).length ≤ l.length + 1
  | [] => by simp [insU]
  | y :: l => by
    unfold insU
    split
    · simp
    · split
      · simp
      · have := insU_len x l
        simp only [List.length_cons]
        omega
theorem usort_le : ∀ l : List Int, (usort l).length ≤ l.length
  | [] => by simp [usort]
  | x :: l => by
    have := usort_le l
    have := insU_len x (usort l)
    show (insU x (usort l)).length ≤ _
    simp only [List.length_cons]
    omega
theorem usort_nodup {l : List Int} (h : (usort l).length = l.length) : l.Nodup := by
  have nu : (usort l).Nodup := (usort_lt l).imp fun h => by omega
  induction l with
  | nil => exact List.nodup_nil
  | cons x l ih =>
    have e1 := insU_len x (usort l)
    have e2 := usort_le l
    have h' : (insU x (usort l)).length = l.length + 1 := h
    have e3 : (usort l).length = l.length := by omega
    have nu' : (usort l).Nodup := (usort_lt l).imp fun h => by omega
    refine List.nodup_cons.mpr ⟨fun hx => ?_, ih e3 nu'⟩
    have sub : ∀ y ∈ usort (x :: l), y ∈ usort l := fun y hy => by
      rw [mem_usort] at hy ⊢
      rcases List.mem_cons.mp hy with rfl | hy
      · exact hx
      · exact hy
    have := nodup_sub_len nu sub
    rw [h, List.length_cons] at this
    omega
theorem orderF_iff {j : J} {l : List Int} : orderF j l = true ↔ Ord j l := by
  constructor
  · intro h
    unfold orderF at h
    simp only [Bool.and_eq_true, decide_eq_true_eq, List.all_eq_true, Bool.not_eq_true', decide_eq_false_iff_not] at h
    obtain ⟨⟨⟨⟨h1, h2⟩, h3⟩, h4⟩, h5⟩ := h
    exact ⟨h1, h2, usort_nodup (by omega), h4, h5⟩
  · intro h
    exact orderF_of h.len h.inr h.nd h.cl h.en
theorem nd_at {l : List Int} (nd : l.Nodup) {a b : Nat} {p : Int} (h1 : l[a]? = some p) (h2 : l[b]? = some p) : a = b := by
  obtain ⟨l1, g1⟩ := List.getElem?_eq_some_iff.mp h1
  obtain ⟨l2, g2⟩ := List.getElem?_eq_some_iff.mp h2
  exact (List.getElem_inj nd).mp (g1.trans g2.symm)
theorem noted_inr {j : J} (w : JW j) {k : Bool} {x : Lk} (h : x ∈ notedL j k) : 0 ≤ x.1 ∧ x.1 < j.m ∧ 0 ≤ x.2 ∧ x.2 < j.n := by
  obtain ⟨y, hy, _, rfl⟩ := mem_noted.mp h
  exact w.inr y hy
theorem noted_fun {j : J} (w : JW j) {k : Bool} {t p q : Int} (h1 : (t, p) ∈ notedL j k) (h2 : (t, q) ∈ notedL j k) : p = q := by
  have nd := notedL_nodup w k
  obtain ⟨a, ha⟩ := List.mem_iff_getElem?.mp h1
  obtain ⟨b, hb⟩ := List.mem_iff_getElem?.mp h2
  have e : a = b := by
    obtain ⟨l1, g1⟩ := List.getElem?_eq_some_iff.mp ha
    obtain ⟨l2, g2⟩ := List.getElem?_eq_some_iff.mp hb
    refine (List.getElem_inj (h₀ := by rw [List.length_map]; exact l1) (h₁ := by rw [List.length_map]; exact l2) nd).mp ?_
    rw [List.getElem_map, List.getElem_map, g1, g2]
  subst e
  rw [ha] at hb
  cases hb
  rfl
/-- the window of a town by its notes -/
theorem start_le {j : J} {p : Int} {i : Int} (h0 : 0 ≤ i) (h1 : ∀ t, (t, p) ∈ notedL j true → t ≤ i) (h2 : ∀ t, (t, p) ∈ notedL j false → t < i) : (spanF j p).1 ≤ i := by
  show maxO _ 0 ≤ i
  rcases maxO_mem (l := endL j p ++ cameL j p) (z := 0) with ⟨_, e⟩ | ⟨e, _⟩
  · omega
  · rcases List.mem_append.mp e with e | e
    · have := h2 _ (mem_endL.mp e)
      omega
    · exact h1 _ (mem_came.mp e)
theorem le_start {j : J} {p t : Int} : ((t, p) ∈ notedL j true → t ≤ (spanF j p).1) ∧ ((t, p) ∈ notedL j false → t < (spanF j p).1) := by
  have key : ∀ y ∈ endL j p ++ cameL j p, y ≤ (spanF j p).1 := fun y hy => by
    rcases maxO_mem (l := endL j p ++ cameL j p) (z := 0) with ⟨e, _⟩ | ⟨_, e⟩
    · rw [e] at hy; cases hy
    · exact e y hy
  refine ⟨fun h => key _ (List.mem_append_right _ (mem_came.mpr h)), fun h => ?_⟩
  have := key (t + 1) (List.mem_append_left _ (mem_endL.mpr (by rw [Int.add_sub_cancel]; exact h)))
  omega
theorem last_ge {j : J} {p : Int} {i : Int} (h0 : i ≤ j.m - 1) (h1 : ∀ t, (t, p) ∈ notedL j true → i ≤ t) : i ≤ (spanF j p).2 := by
  show i ≤ minO _ (j.m - 1)
  rcases minO_mem (l := cameL j p) (z := j.m - 1) with ⟨_, e⟩ | ⟨e, _⟩
  · omega
  · exact h1 _ (mem_came.mp e)
theorem last_le {j : J} {p t : Int} (h : (t, p) ∈ notedL j true) : (spanF j p).2 ≤ t := by
  show minO _ (j.m - 1) ≤ t
  rcases minO_mem (l := cameL j p) (z := j.m - 1) with ⟨e, _⟩ | ⟨_, e⟩
  · have := mem_came.mpr h
    rw [e] at this; cases this
  · exact e _ (mem_came.mpr h)
theorem start_nn {j : J} (w : JW j) {p : Int} : 0 ≤ (spanF j p).1 := by
  show 0 ≤ maxO _ 0
  rcases maxO_mem (l := endL j p ++ cameL j p) (z := 0) with ⟨_, e⟩ | ⟨e, _⟩
  · omega
  · rcases List.mem_append.mp e with e | e
    · have := (noted_inr w (mem_endL.mp e)).1
      have : (0 : Int) ≤ maxO (endL j p ++ cameL j p) 0 - 1 := this
      omega
    · exact (noted_inr w (mem_came.mp e)).1
/-- an order closes each town within its window -/
theorem Ord.within {j : J} {l : List Int} (w : JW j) (h : Ord j l) {i : Nat} {p : Int} (hp : l[i]? = some p) : (spanF j p).1 ≤ i ∧ (i : Int) ≤ (spanF j p).2 := by
  have hi : i < l.length := (List.getElem?_eq_some_iff.mp hp).1
  have hl := h.len
  have c : ∀ t, (t, p) ∈ notedL j true → t = i := fun t ht => by
    have := nd_at h.nd (h.cl _ ht) hp
    have := (noted_inr w ht).1
    have : (0 : Int) ≤ t := this
    have : t.toNat = i := by assumption
    omega
  refine ⟨start_le (by omega) (fun t ht => by have := c t ht; omega) fun t ht => ?_, last_ge (by omega) fun t ht => by have := c t ht; omega⟩
  have := (noted_inr w ht).1
  have h0 : (0 : Int) ≤ t := this
  have := h.en _ ht
  rcases Nat.lt_or_ge i (t.toNat + 1) with c | c
  · exact absurd (List.mem_of_getElem? (by rw [List.getElem?_take_of_lt c]; exact hp)) this
  · omega
theorem Ord.of {j : J} {l : List Int} (w : JW j) (hl : (l.length : Int) = j.m) (hr : ∀ p ∈ l, 0 ≤ p ∧ p < j.n) (nd : l.Nodup) (hc : ∀ x ∈ notedL j true, l[x.1.toNat]? = some x.2) (hs : ∀ (i : Nat) (p : Int), l[i]? = some p → (spanF j p).1 ≤ i) : Ord j l := by
  refine ⟨hl, hr, nd, hc, fun x hx => ?_⟩
  intro hm
  obtain ⟨i, hi⟩ := List.mem_iff_getElem?.mp hm
  have hil : i < (l.take (x.1.toNat + 1)).length := (List.getElem?_eq_some_iff.mp hi).1
  rw [List.length_take] at hil
  rw [List.getElem?_take_of_lt (by omega)] at hi
  have h1 := hs i _ hi
  have h2 := (le_start (j := j) (p := x.2) (t := x.1)).2 hx
  have := (noted_inr w hx).1
  omega
theorem Ord.sound {j : J} {l : List Int} (w : JW j) (h : Ord j l) : soundF j = true := by
  unfold soundF
  rw [List.all_eq_true]
  intro x hx
  have h1 := h.cl x hx
  obtain ⟨a, b⟩ := h.within w h1
  have c := (le_start (j := j) (p := x.2) (t := x.1)).1 hx
  have d := last_le (j := j) (p := x.2) (t := x.1) hx
  have := (noted_inr w hx).1
  simp only [decide_eq_true_eq]
  ext
  · show (spanF j x.2).1 = x.1
    omega
  · show (spanF j x.2).2 = x.1
    omega
/-! ### all rows that begin so -/
def freeT (n : Nat) (pre : List Int) : List Int := (rng n).filter fun p => !decide (p ∈ pre)
theorem mem_freeT {n : Nat} {pre : List Int} {p : Int} : p ∈ freeT n pre ↔ (0 ≤ p ∧ p < n) ∧ p ∉ pre := by
  unfold freeT
  rw [List.mem_filter, mem_rng]
  simp
def ext (n : Nat) : Nat → List Int → List (List Int)
  | 0, pre => [pre]
  | k + 1, pre => (freeT n pre).flatMap fun p => ext n k (pre ++ [p])
theorem mem_ext {n : Nat} : ∀ {k : Nat} {pre l : List Int}, pre.Nodup → (∀ p ∈ pre, 0 ≤ p ∧ p < (n : Int)) → (l ∈ ext n k pre ↔ pre <+: l ∧ l.length = pre.length + k ∧ l.Nodup ∧ ∀ p ∈ l, 0 ≤ p ∧ p < (n : Int))
  | 0, pre, l, nd, hr => by
    unfold ext
    rw [List.mem_singleton]
    constructor
    · rintro rfl
      exact ⟨List.prefix_refl _, rfl, nd, hr⟩
    · rintro ⟨h1, h2, _, _⟩
      exact (h1.eq_of_length (by omega)).symm
  | k + 1, pre, l, nd, hr => by
    unfold ext
    rw [List.mem_flatMap]
    constructor
    · rintro ⟨p, hp, hl⟩
      have hp := mem_freeT.mp hp
      have nd' : (pre ++ [p]).Nodup := by
        rw [List.nodup_append]
        exact ⟨nd, by simp, fun a ha b hb => by
          have : b = p := by simpa using hb
          intro e
          exact hp.2 (by rw [← this, ← e]; exact ha)⟩
      have hr' : ∀ q ∈ pre ++ [p], 0 ≤ q ∧ q < (n : Int) := fun q hq => by
        rcases List.mem_append.mp hq with hq | hq
        · exact hr q hq
        · have : q = p := by simpa using hq
          rw [this]
          exact hp.1
      obtain ⟨h1, h2, h3, h4⟩ := (mem_ext nd' hr').mp hl
      exact ⟨(List.prefix_append _ _).trans h1, by rw [h2, List.length_append]; simp; omega, h3, h4⟩
    · rintro ⟨⟨t, rfl⟩, h2, h3, h4⟩
      cases t with
      | nil => simp at h2
      | cons p t =>
        have hp : p ∈ freeT n pre := mem_freeT.mpr ⟨h4 p (by simp), fun z => (List.nodup_append.mp h3).2.2 p z p (by simp) rfl⟩
        refine ⟨p, hp, ?_⟩
        have e : pre ++ p :: t = pre ++ [p] ++ t := by simp
        have nd' : (pre ++ [p]).Nodup := (e ▸ h3 : (pre ++ [p] ++ t).Nodup).sublist (List.sublist_append_left _ _)
        have hr' : ∀ q ∈ pre ++ [p], 0 ≤ q ∧ q < (n : Int) := fun q hq => h4 q (by rw [e]; exact List.mem_append_left _ hq)
        refine (mem_ext nd' hr').mpr ⟨⟨t, e.symm⟩, ?_, h3, h4⟩
        rw [h2, List.length_append]
        simp
        omega
/-- the orders that begin so, ascending -/
def blk (j : J) (pre : List Int) : List (List Int) := (ext j.n.toNat (j.m.toNat - pre.length) pre).filter (orderF j)
theorem blk_step {j : J} {pre : List Int} (h : pre.length < j.m.toNat) : blk j pre = (freeT j.n.toNat pre).flatMap fun p => blk j (pre ++ [p]) := by
  unfold blk
  have e : j.m.toNat - pre.length = (j.m.toNat - (pre.length + 1)) + 1 := by omega
  rw [e]
  conv => lhs; unfold ext
  rw [List.filter_flatMap]
  congr 1
  funext p
  rw [List.length_append]
  rfl
theorem mem_blk {j : J} (w : JW j) {pre l : List Int} (nd : pre.Nodup) (hr : ∀ p ∈ pre, 0 ≤ p ∧ p < j.n) (hl : pre.length ≤ j.m.toNat) : l ∈ blk j pre ↔ pre <+: l ∧ Ord j l := by
  have wn := w.n0
  have wm := w.m0
  have e : ((j.n.toNat : Nat) : Int) = j.n := by omega
  unfold blk
  rw [List.mem_filter, mem_ext nd (by rw [e]; exact hr), orderF_iff, e]
  constructor
  · rintro ⟨⟨h1, _⟩, h2⟩
    exact ⟨h1, h2⟩
  · rintro ⟨h1, h2⟩
    have := h2.len
    exact ⟨⟨h1, by omega, h2.nd, h2.inr⟩, h2⟩
/-! ### a fine beginning -/
structure Fine (j : J) (pre : List Int) : Prop where
  len : pre.length ≤ j.m.toNat
  inr : ∀ p ∈ pre, 0 ≤ p ∧ p < j.n
  nd : pre.Nodup
  cl : ∀ x ∈ notedL j true, x.1 < pre.length → pre[x.1.toNat]? = some x.2
  st : ∀ (i : Nat) (p : Int), pre[i]? = some p → (spanF j p).1 ≤ i
theorem pre_at {pre l : List Int} (h : pre <+: l) {i : Nat} (hi : i < pre.length) : l[i]? = pre[i]? := by
  obtain ⟨t, rfl⟩ := h
  rw [List.getElem?_append_left hi]
theorem Ord.fine {j : J} (w : JW j) {pre l : List Int} (h : Ord j l) (hp : pre <+: l) : Fine j pre := by
  have hl := hp.length_le
  have := h.len
  refine ⟨by omega, fun p hm => h.inr p (hp.subset hm), h.nd.sublist hp.sublist, fun x hx hlt => ?_, fun i p hi => ?_⟩
  · have := (noted_inr w hx).1
    rw [← pre_at hp (by omega)]
    exact h.cl x hx
  · have : i < pre.length := (List.getElem?_eq_some_iff.mp hi).1
    rw [← pre_at hp this] at hi
    exact (h.within w hi).1
theorem Fine.ord {j : J} (w : JW j) {l : List Int} (h : Fine j l) (hl : l.length = j.m.toNat) : Ord j l := by
  have := w.m0
  refine Ord.of w (by omega) h.inr h.nd (fun x hx => h.cl x hx ?_) h.st
  have := (noted_inr w hx).2.1
  omega
end MP

namespace MP
open PySem PySem.Spec
theorem sound_at {j : J} (s : soundF j = true) {t p : Int} (h : (t, p) ∈ notedL j true) : spanF j p = (t, t) := by
  unfold soundF at s
  rw [List.all_eq_true] at s
  simpa using s _ h
theorem mem_times {j : J} {k : Bool} {t : Int} : t ∈ timesF j k ↔ ∃ p, (t, p) ∈ notedL j k := by
  unfold timesF
  rw [List.mem_map]
  constructor
  · rintro ⟨x, hx, rfl⟩
    exact ⟨x.2, hx⟩
  · rintro ⟨p, hp⟩
    exact ⟨_, hp, rfl⟩
theorem mem_towns {j : J} {p : Int} : p ∈ townsF j ↔ ∃ t, (t, p) ∈ notedL j true := by
  unfold townsF
  rw [List.mem_map]
  constructor
  · rintro ⟨x, hx, rfl⟩
    exact ⟨x.1, hx⟩
  · rintro ⟨t, ht⟩
    exact ⟨_, ht, rfl⟩
theorem len_part {α : Type} (p : α → Bool) : ∀ l : List α, l.length = (l.filter p).length + (l.filter fun x => !p x).length
  | [] => rfl
  | x :: l => by
    have ih := len_part p l
    cases h : p x with
    | true =>
      rw [List.filter_cons_of_pos h, List.filter_cons_of_neg (by simp [h]), List.length_cons, List.length_cons]
      omega
    | false =>
      rw [List.filter_cons_of_neg (by simp [h]), List.filter_cons_of_pos (by simp [h]), List.length_cons, List.length_cons]
      omega
theorem perm_len {a b : List Int} (ha : a.Nodup) (hb : b.Nodup) (h : ∀ x, x ∈ a ↔ x ∈ b) : a.length = b.length := ((List.perm_ext_iff_of_nodup ha hb).mpr h).length_eq
theorem sum_ind {α : Type} (f : α → Nat) (q : α → Bool) (c : Nat) : ∀ l : List α, (∀ x ∈ l, f x = if q x = true then c else 0) → (l.map f).sum = (l.filter q).length * c
  | [], _ => by simp
  | x :: l, h => by
    have ih := sum_ind f q c l fun y hy => h y (List.mem_cons_of_mem _ hy)
    have hx := h x List.mem_cons_self
    rw [List.map_cons, List.sum_cons, ih, hx]
    cases hq : q x with
    | true => rw [List.filter_cons_of_pos hq, List.length_cons, if_pos rfl, Nat.add_mul, Nat.one_mul, Nat.add_comm]
    | false => rw [List.filter_cons_of_neg (by simp [hq])]; simp
section
variable {j : J}
/-- a town may come next -/
theorem Fine.snoc_iff {pre : List Int} (w : JW j) (s : soundF j = true) (f : Fine j pre) (hl : pre.length < j.m.toNat) {p : Int} (hp : p ∈ freeT j.n.toNat pre) :
    Fine j (pre ++ [p]) ↔ (∀ q, ((pre.length : Int), q) ∈ notedL j true → q = p) ∧ (spanF j p).1 ≤ pre.length := by
  have wn := w.n0
  obtain ⟨hp1, hp2⟩ := mem_freeT.mp hp
  constructor
  · intro h
    refine ⟨fun q hq => ?_, h.st pre.length p (by simp)⟩
    have := h.cl _ hq (by simp; omega)
    simpa using this.symm
  · rintro ⟨h1, h2⟩
    refine ⟨by simp; omega, fun q hq => ?_, ?_, fun x hx hlt => ?_, fun i q hi => ?_⟩
    · rcases List.mem_append.mp hq with hq | hq
      · exact f.inr q hq
      · have : q = p := by simpa using hq
        omega
    · rw [List.nodup_append]
      exact ⟨f.nd, by simp, fun a ha b hb => by
        have : b = p := by simpa using hb
        intro e
        exact hp2 (by rw [← this, ← e]; exact ha)⟩
    · have h0 := (noted_inr w hx).1
      rw [List.length_append] at hlt
      simp at hlt
      rcases Nat.lt_or_ge x.1.toNat pre.length with c | c
      · rw [List.getElem?_append_left c]
        exact f.cl x hx (by omega)
      · have e : x.1.toNat = pre.length := by omega
        rw [e, List.getElem?_append_right (Nat.le_refl _)]
        have e2 : x = ((pre.length : Int), x.2) := by ext <;> simp; omega
        rw [h1 x.2 (e2 ▸ hx)]
        simp
    · rcases Nat.lt_or_ge i pre.length with c | c
      · rw [List.getElem?_append_left c] at hi
        exact f.st i q hi
      · have hil := (List.getElem?_eq_some_iff.mp hi).1
        rw [List.length_append] at hil
        simp at hil
        have e : i = pre.length := by omega
        subst e
        rw [List.getElem?_append_right (Nat.le_refl _)] at hi
        have hi : p = q := by simpa using hi
        rw [← hi]
        exact h2
theorem blk_nil {pre : List Int} (w : JW j) (nd : pre.Nodup) (hr : ∀ p ∈ pre, 0 ≤ p ∧ p < j.n) (hl : pre.length ≤ j.m.toNat) (h : ¬ Fine j pre) : blk j pre = [] := by
  rw [List.eq_nil_iff_forall_not_mem]
  intro l hm
  obtain ⟨h1, h2⟩ := (mem_blk w nd hr hl).mp hm
  exact h (h2.fine w h1)
/-- the free towns that a fine beginning has closed are as many as its free times -/
theorem Fine.used {pre : List Int} (w : JW j) (s : soundF j = true) (f : Fine j pre) : (pre.filter fun p => !decide (p ∈ townsF j)).length = (frT pre.length (timesF j true)).length := by
  have e : pre = (rng pre.length).map fun t => pre.getD t.toNat 0 := by
    refine List.ext_getElem (by rw [List.length_map, rng_len]) fun i h1 h2 => ?_
    rw [List.getElem_map]
    have hi : i < (rng pre.length).length := by rw [rng_len]; exact h1
    obtain ⟨_, e⟩ := rng_succ_get (List.getElem?_eq_getElem hi)
    rw [e]
    simp [List.getD_eq_getElem?_getD, List.getElem?_eq_getElem h1]
  conv => lhs; rw [e]
  rw [List.filter_map, List.length_map]
  unfold frT
  congr 1
  refine List.filter_congr fun t ht => ?_
  have ht := mem_rng.mp ht
  have hp : pre[t.toNat]? = some (pre.getD t.toNat 0) := by
    rw [List.getD_eq_getElem?_getD, List.getElem?_eq_getElem (by omega)]
    rfl
  show (!decide (pre.getD t.toNat 0 ∈ townsF j)) = !decide (t ∈ timesF j true)
  generalize pre.getD t.toNat 0 = p at hp
  have iff : p ∈ townsF j ↔ t ∈ timesF j true := by
    rw [mem_towns, mem_times]
    constructor
    · rintro ⟨t', h⟩
      have h0 := (noted_inr w h).1
      have h0 : (0 : Int) ≤ t' := h0
      rcases Int.lt_or_le t' pre.length with c | c
      · have := nd_at f.nd (f.cl _ h c) hp
        have : t'.toNat = t.toNat := this
        have : t' = t := by omega
        exact ⟨p, this ▸ h⟩
      · have h1 := f.st _ _ hp
        rw [sound_at s h] at h1
        have : t' ≤ (t.toNat : Int) := h1
        omega
    · rintro ⟨q, h⟩
      have := f.cl _ h (by show t < _; omega)
      have : pre[t.toNat]? = some q := this
      rw [hp] at this
      cases this
      exact ⟨t, h⟩
  by_cases c : t ∈ timesF j true
  · rw [decide_eq_true c, decide_eq_true (iff.mpr c)]
  · rw [decide_eq_false c, decide_eq_false fun z => c (iff.mp z)]
theorem frT_succ (n : Nat) (tk : List Int) : frT (n + 1) tk = frT n tk ++ (if (n : Int) ∈ tk then [] else [(n : Int)]) := by
  unfold frT
  rw [rng_succ, List.filter_append]
  congr 1
  by_cases c : (n : Int) ∈ tk
  · simp [c]
  · simp [c]
/-- how many towns may come next -/
theorem Fine.next {pre : List Int} (w : JW j) (s : soundF j = true) (f : Fine j pre) (hl : pre.length < j.m.toNat) [DecidablePred (Fine j)] :
    (((freeT j.n.toNat pre).filter fun p => decide (Fine j (pre ++ [p]))).length : Int) = if (pre.length : Int) ∈ timesF j true then 1 else cntLe (startsF j) pre.length - (frT pre.length (timesF j true)).length := by
  have wn := w.n0
  split
  · rename_i c
    obtain ⟨v, hv⟩ := mem_times.mp c
    have sv := sound_at s hv
    have rv := noted_inr w hv
    have hvp : v ∉ pre := fun z => by
      obtain ⟨i, hi⟩ := List.mem_iff_getElem?.mp z
      have h1 := f.st i v hi
      rw [sv] at h1
      have hi := (List.getElem?_eq_some_iff.mp hi).1
      have : (pre.length : Int) ≤ i := h1
      omega
    have := perm_len (a := (freeT j.n.toNat pre).filter fun p => decide (Fine j (pre ++ [p]))) (b := [v]) (((rng_nodup _).sublist List.filter_sublist).sublist List.filter_sublist) (by simp) fun p => by
      rw [List.mem_filter, List.mem_singleton, decide_eq_true_eq]
      constructor
      · rintro ⟨h1, h2⟩
        exact (((f.snoc_iff w s hl h1).mp h2).1 v hv).symm
      · rintro rfl
        have hm : p ∈ freeT j.n.toNat pre := mem_freeT.mpr ⟨⟨rv.2.2.1, by have := rv.2.2.2; simp at this; omega⟩, hvp⟩
        refine ⟨hm, (f.snoc_iff w s hl hm).mpr ⟨fun q hq => noted_fun w hq hv, ?_⟩⟩
        rw [sv]
        exact Int.le_refl _
    rw [this]
    rfl
  · rename_i c
    have nt : ∀ q, ((pre.length : Int), q) ∉ notedL j true := fun q hq => c (mem_times.mpr ⟨q, hq⟩)
    have e1 : cntLe (startsF j) pre.length = (((rng j.n.toNat).filter fun p => !decide (p ∈ townsF j) && decide ((spanF j p).1 ≤ pre.length)).length : Int) := by
      unfold cntLe startsF
      rw [List.filter_map, List.length_map, List.filter_filter]
      congr 3
      funext p
      exact Bool.and_comm _ _
    have e2 := len_part (fun p => !decide (p ∈ pre)) ((rng j.n.toNat).filter fun p => !decide (p ∈ townsF j) && decide ((spanF j p).1 ≤ pre.length))
    have e3 := perm_len (a := (freeT j.n.toNat pre).filter fun p => decide (Fine j (pre ++ [p]))) (b := ((rng j.n.toNat).filter fun p => !decide (p ∈ townsF j) && decide ((spanF j p).1 ≤ pre.length)).filter fun p => !decide (p ∈ pre)) (((rng_nodup _).sublist List.filter_sublist).sublist List.filter_sublist) (((rng_nodup _).sublist List.filter_sublist).sublist List.filter_sublist) fun p => by
      simp only [List.mem_filter, mem_freeT, mem_rng, decide_eq_true_eq, Bool.and_eq_true, Bool.not_eq_true', decide_eq_false_iff_not]
      constructor
      · rintro ⟨⟨h1, h2⟩, h3⟩
        obtain ⟨h4, h5⟩ := (f.snoc_iff w s hl (mem_freeT.mpr ⟨h1, h2⟩)).mp h3
        refine ⟨⟨h1, fun z => ?_, h5⟩, h2⟩
        obtain ⟨t, ht⟩ := mem_towns.mp z
        have st := sound_at s ht
        have h0 := (noted_inr w ht).1
        have h0 : (0 : Int) ≤ t := h0
        rw [st] at h5
        have h5 : t ≤ pre.length := h5
        rcases Int.lt_or_le t pre.length with k | k
        · exact h2 (List.mem_of_getElem? (f.cl _ ht k))
        · have : t = pre.length := by omega
          exact nt p (this ▸ ht)
      · rintro ⟨⟨h1, h2, h3⟩, h4⟩
        exact ⟨⟨h1, h4⟩, (f.snoc_iff w s hl (mem_freeT.mpr ⟨h1, h4⟩)).mpr ⟨fun q hq => absurd hq (nt q), h3⟩⟩
    have e4 := perm_len (a := ((rng j.n.toNat).filter fun p => !decide (p ∈ townsF j) && decide ((spanF j p).1 ≤ pre.length)).filter fun p => !!decide (p ∈ pre)) (b := pre.filter fun p => !decide (p ∈ townsF j)) (((rng_nodup _).sublist List.filter_sublist).sublist List.filter_sublist) (f.nd.sublist List.filter_sublist) fun p => by
      simp only [List.mem_filter, mem_rng, decide_eq_true_eq, Bool.and_eq_true, Bool.not_eq_true', decide_eq_false_iff_not, Bool.not_not]
      constructor
      · rintro ⟨⟨h1, h2, h3⟩, h4⟩
        exact ⟨h4, h2⟩
      · rintro ⟨h1, h2⟩
        have := f.inr p h1
        obtain ⟨i, hi⟩ := List.mem_iff_getElem?.mp h1
        have h3 := f.st i p hi
        have hi := (List.getElem?_eq_some_iff.mp hi).1
        exact ⟨⟨by omega, h2, by omega⟩, h1⟩
    rw [f.used w s] at e4
    rw [e4] at e2
    rw [e3, e1]
    omega
/-- free times from i on, k of them looked at -/
def frF (tk : List Int) : Nat → Nat → List Int
  | _, 0 => []
  | i, k + 1 => if (i : Int) ∈ tk then frF tk (i + 1) k else (i : Int) :: frF tk (i + 1) k
theorem frF_succ (tk : List Int) (i k : Nat) : frF tk i (k + 1) = if (i : Int) ∈ tk then frF tk (i + 1) k else (i : Int) :: frF tk (i + 1) k := rfl
theorem frF_eq (tk : List Int) : ∀ (k i : Nat), frT (i + k) tk = frT i tk ++ frF tk i k
  | 0, i => by simp [frF]
  | k + 1, i => by
    have := frF_eq tk k (i + 1)
    rw [show i + (k + 1) = i + 1 + k by omega, this, frT_succ, List.append_assoc]
    congr 1
    rw [frF_succ]
    split <;> simp
open Classical in
theorem count_fine (w : JW j) (s : soundF j = true) : ∀ (k : Nat) (pre : List Int), Fine j pre → pre.length + k = j.m.toNat → ((blk j pre).length : Int) = prodK (startsF j) 0 ((frT pre.length (timesF j true)).length : Int) (frF (timesF j true) pre.length k)
  | 0, pre, f, hl => by
    have : blk j pre = [pre] := by
      unfold blk
      rw [show j.m.toNat - pre.length = 0 by omega]
      unfold ext
      rw [List.filter_cons_of_pos (orderF_iff.mpr (f.ord w (by omega)))]
      rfl
    rw [this]
    rfl
  | k + 1, pre, f, hl => by
    have wn := w.n0
    rw [blk_step (by omega), List.length_flatMap]
    have key : ∀ p ∈ freeT j.n.toNat pre, (blk j (pre ++ [p])).length = if decide (Fine j (pre ++ [p])) = true then (prodK (startsF j) 0 ((frT (pre.length + 1) (timesF j true)).length : Int) (frF (timesF j true) (pre.length + 1) k)).toNat else 0 := fun p hp => by
      obtain ⟨hp1, hp2⟩ := mem_freeT.mp hp
      by_cases c : Fine j (pre ++ [p])
      · rw [if_pos (by simpa using c)]
        have := count_fine w s k (pre ++ [p]) c (by simp; omega)
        rw [List.length_append] at this
        have this : ((blk j (pre ++ [p])).length : Int) = prodK (startsF j) 0 ((frT (pre.length + 1) (timesF j true)).length : Int) (frF (timesF j true) (pre.length + 1) k) := this
        omega
      · rw [if_neg (by simpa using c), blk_nil w ?_ ?_ (by simp; omega) c]
        · rfl
        · rw [List.nodup_append]
          exact ⟨f.nd, by simp, fun a ha b hb => by
            have : b = p := by simpa using hb
            intro e
            exact hp2 (by rw [← this, ← e]; exact ha)⟩
        · intro q hq
          rcases List.mem_append.mp hq with hq | hq
          · exact f.inr q hq
          · have : q = p := by simpa using hq
            omega
    rw [sum_ind _ _ _ _ key]
    have nx := f.next w s (by omega)
    generalize hfl : (List.filter (fun p => decide (Fine j (pre ++ [p]))) (freeT j.n.toNat pre)) = fl at nx ⊢
    have hpos : 0 ≤ prodK (startsF j) 0 ((frT (pre.length + 1) (timesF j true)).length : Int) (frF (timesF j true) (pre.length + 1) k) ∨ fl = [] := by
      cases fl with
      | nil => exact .inr rfl
      | cons p t =>
        left
        have hm : p ∈ List.filter (fun p => decide (Fine j (pre ++ [p]))) (freeT j.n.toNat pre) := by rw [hfl]; exact List.mem_cons_self
        obtain ⟨h1, h2⟩ := List.mem_filter.mp hm
        have h2 : Fine j (pre ++ [p]) := by simpa using h2
        have := count_fine w s k (pre ++ [p]) h2 (by simp; omega)
        rw [List.length_append] at this
        have this : ((blk j (pre ++ [p])).length : Int) = prodK (startsF j) 0 ((frT (pre.length + 1) (timesF j true)).length : Int) (frF (timesF j true) (pre.length + 1) k) := this
        omega
    have eq : ((fl.length * (prodK (startsF j) 0 ((frT (pre.length + 1) (timesF j true)).length : Int) (frF (timesF j true) (pre.length + 1) k)).toNat : Nat) : Int) = (fl.length : Int) * prodK (startsF j) 0 ((frT (pre.length + 1) (timesF j true)).length : Int) (frF (timesF j true) (pre.length + 1) k) := by
      rcases hpos with h | h
      · rw [Int.natCast_mul]
        congr 1
        omega
      · rw [h]
        simp
    rw [eq, nx, frF_succ, frT_succ]
    split
    · rw [List.append_nil, Int.one_mul]
    · rename_i c
      rw [List.length_append]
      show _ = pos0 (cntLe (startsF j) pre.length + 0 - (frT pre.length (timesF j true)).length) * prodK (startsF j) 0 ((frT pre.length (timesF j true)).length + 1) _
      rw [if_neg c] at nx
      congr 1
      unfold pos0
      split <;> omega
theorem count_eq (w : JW j) : countF j = ((blk j []).length : Int) := by
  have wm := w.m0
  unfold countF
  split
  · rename_i s
    have f0 : Fine j [] := ⟨by simp, fun p hp => (by cases hp), List.nodup_nil, fun x hx hlt => by have := (noted_inr w hx).1; simp at hlt; omega, fun i p hi => by simp at hi⟩
    rw [count_fine w s j.m.toNat [] f0 (by simp), fold_prod]
    show 1 * prodK _ 0 0 (frT j.m.toNat (timesF j true)) = _
    rw [Int.one_mul]
    have := frF_eq (timesF j true) j.m.toNat 0
    rw [Nat.zero_add] at this
    rw [this]
    rfl
  · rename_i s
    have : blk j [] = [] := by
      rw [List.eq_nil_iff_forall_not_mem]
      intro l hm
      obtain ⟨_, h2⟩ := (mem_blk w List.nodup_nil (fun p hp => by cases hp) (by simp)).mp hm
      exact s (h2.sound w)
    rw [this]
    rfl
end
end MP

namespace MP
open PySem PySem.Spec
/-! ### rows ascend -/
def lexLt : List Int → List Int → Bool
  | [], [] => false
  | [], _ :: _ => true
  | _ :: _, [] => false
  | a :: as, b :: bs => if a = b then lexLt as bs else decide (a < b)
theorem lexLt_irr : ∀ l : List Int, lexLt l l = false
  | [] => rfl
  | a :: l => by simp [lexLt, lexLt_irr l]
theorem lexLt_app {a b : Int} (h : a < b) : ∀ (pre x y : List Int), lexLt (pre ++ a :: x) (pre ++ b :: y) = true
  | [], x, y => by simp [lexLt, Int.ne_of_lt h, h]
  | c :: pre, x, y => by simp [lexLt, lexLt_app h pre x y]
theorem ext_pre {n : Nat} : ∀ {k : Nat} {pre l : List Int}, l ∈ ext n k pre → pre <+: l
  | 0, pre, l, h => by
    unfold ext at h
    rw [List.mem_singleton] at h
    rw [h]
    exact List.prefix_refl _
  | k + 1, pre, l, h => by
    unfold ext at h
    obtain ⟨p, _, hl⟩ := List.mem_flatMap.mp h
    exact (List.prefix_append _ _).trans (ext_pre hl)
theorem rng_lt (n : Nat) : (rng n).Pairwise (· < ·) := by
  unfold rng
  rw [List.pairwise_map]
  exact List.pairwise_lt_range.imp fun h => by omega
theorem ext_lt {n : Nat} : ∀ (k : Nat) (pre : List Int), (ext n k pre).Pairwise fun a b => lexLt a b = true
  | 0, pre => by unfold ext; simp
  | k + 1, pre => by
    unfold ext
    rw [List.pairwise_flatMap]
    refine ⟨fun p _ => ext_lt k _, ?_⟩
    refine ((rng_lt n).sublist List.filter_sublist).imp fun {a b} hab x hx y hy => ?_
    obtain ⟨t, rfl⟩ := ext_pre hx
    obtain ⟨u, rfl⟩ := ext_pre hy
    rw [List.append_assoc, List.append_assoc]
    exact lexLt_app hab pre t u
theorem blk_lt (j : J) (pre : List Int) : (blk j pre).Pairwise fun a b => lexLt a b = true := (ext_lt _ _).sublist List.filter_sublist
theorem blk_nodup (j : J) (pre : List Int) : (blk j pre).Nodup := (blk_lt j pre).imp fun {a b} h e => by
  rw [e, lexLt_irr] at h
  cases h
theorem perm_lenL {α : Type} [DecidableEq α] {a b : List α} (ha : a.Nodup) (hb : b.Nodup) (h : ∀ x, x ∈ a ↔ x ∈ b) : a.length = b.length := ((List.perm_ext_iff_of_nodup ha hb).mpr h).length_eq
/-! ### other journals with the same notes -/
/-- a journal whose orders are told -/
theorem count_of {j : J} (w : JW j) {ls : List (List Int)} (nd : ls.Nodup) (h : ∀ l, l ∈ ls ↔ Ord j l) : countF j = (ls.length : Int) := by
  rw [count_eq w, perm_lenL (blk_nodup j []) nd fun l => by
    rw [h, mem_blk w List.nodup_nil (fun p hp => by cases hp) (by simp)]
    exact ⟨fun z => z.2, fun z => ⟨List.nil_prefix, z⟩⟩]
/-! ### notes of a beginning -/
def enumN : Nat → List Int → List Note
  | _, [] => []
  | i, p :: l => ⟨i, true, p⟩ :: enumN (i + 1) l
theorem mem_enumN : ∀ {l : List Int} {i : Nat} {x : Note}, x ∈ enumN i l ↔ x.k = true ∧ (i : Int) ≤ x.t ∧ l[(x.t - i).toNat]? = some x.v
  | [], i, x => by simp [enumN]
  | p :: l, i, x => by
    unfold enumN
    rw [List.mem_cons, mem_enumN (l := l) (i := i + 1) (x := x)]
    constructor
    · rintro (rfl | ⟨h1, h2, h3⟩)
      · simp
      · refine ⟨h1, by omega, ?_⟩
        rw [show (x.t - i).toNat = (x.t - (i + 1 : Nat)).toNat + 1 by omega]
        exact h3
    · rintro ⟨h1, h2, h3⟩
      by_cases c : x.t = i
      · left
        rw [c] at h3
        simp at h3
        cases x
        simp_all
      · right
        refine ⟨h1, by omega, ?_⟩
        rw [show (x.t - i).toNat = (x.t - (i + 1 : Nat)).toNat + 1 by omega] at h3
        exact h3
theorem enumN_so : ∀ (l : List Int) (i : Nat), (enumN i l).Pairwise fun x y => x.t < y.t
  | [], i => .nil
  | p :: l, i => by
    refine .cons (fun y hy => ?_) (enumN_so l (i + 1))
    have := (mem_enumN.mp hy).2.1
    show (i : Int) < y.t
    omega
/-- the journal that also notes a beginning -/
structure Begun (j : J) (pre : List Int) (b : J) : Prop where
  n : b.n = j.n
  m : b.m = j.m
  N : b.N.Perm ((j.N.filter fun x => x.k == false || decide ((pre.length : Int) ≤ x.t)) ++ enumN 0 pre)
theorem Begun.mem {j b : J} {pre : List Int} (h : Begun j pre b) {x : Note} : x ∈ b.N ↔ (x ∈ j.N ∧ (x.k = false ∨ (pre.length : Int) ≤ x.t)) ∨ (x.k = true ∧ 0 ≤ x.t ∧ pre[x.t.toNat]? = some x.v) := by
  rw [h.N.mem_iff, List.mem_append, List.mem_filter, mem_enumN]
  simp
theorem Begun.jw {j b : J} {pre : List Int} (h : Begun j pre b) (w : JW j) (hr : ∀ p ∈ pre, 0 ≤ p ∧ p < j.n) (hl : pre.length ≤ j.m.toNat) : JW b := by
  have := w.m0
  refine ⟨by rw [h.n]; exact w.n0, by rw [h.n]; exact w.n1, by rw [h.m]; exact w.m0, by rw [h.m]; exact w.m1, fun x hx => ?_, ?_⟩
  · rw [h.n, h.m]
    rcases h.mem.mp hx with ⟨h1, _⟩ | ⟨h1, h2, h3⟩
    · exact w.inr x h1
    · have := (List.getElem?_eq_some_iff.mp h3).1
      have := hr _ (List.mem_of_getElem? h3)
      exact ⟨h2, by omega, this.1, this.2⟩
  · refine (h.N.pairwise_iff fun {x y} z => ?_).mpr ?_
    · rintro ⟨e1, e2⟩
      exact z ⟨e1.symm, e2.symm⟩
    · rw [List.pairwise_append]
      refine ⟨w.so.sublist List.filter_sublist, (enumN_so pre 0).imp fun {x y} z e => by omega, fun x hx y hy => ?_⟩
      rintro ⟨e1, e2⟩
      obtain ⟨h1, h2, h3⟩ := mem_enumN.mp hy
      have h4 := (List.mem_filter.mp hx).2
      rw [e2, h1] at h4
      simp at h4
      have := (List.getElem?_eq_some_iff.mp h3).1
      simp at this
      omega
theorem Begun.ord {j b : J} {pre l : List Int} (h : Begun j pre b) (w : JW j) (ag : ∀ x ∈ notedL j true, x.1 < pre.length → pre[x.1.toNat]? = some x.2) : Ord b l ↔ pre.length ≤ l.length ∧ pre <+: l ∧ Ord j l := by
  have cn : ∀ x : Lk, x ∈ notedL b true ↔ (x ∈ notedL j true ∧ (pre.length : Int) ≤ x.1) ∨ (0 ≤ x.1 ∧ pre[x.1.toNat]? = some x.2) := fun x => by
    rw [mem_noted, mem_noted]
    constructor
    · rintro ⟨y, h1, h2, rfl⟩
      rcases h.mem.mp h1 with ⟨h3, h4⟩ | ⟨_, h4, h5⟩
      · rcases h4 with h4 | h4
        · rw [h2] at h4; cases h4
        · exact .inl ⟨⟨y, h3, h2, rfl⟩, h4⟩
      · exact .inr ⟨h4, h5⟩
    · rintro (⟨⟨y, h1, h2, rfl⟩, h3⟩ | ⟨h1, h2⟩)
      · exact ⟨y, h.mem.mpr (.inl ⟨h1, .inr h3⟩), h2, rfl⟩
      · exact ⟨⟨x.1, true, x.2⟩, h.mem.mpr (.inr ⟨rfl, h1, h2⟩), rfl, rfl⟩
  have en : ∀ x : Lk, x ∈ notedL b false ↔ x ∈ notedL j false := fun x => by
    rw [mem_noted, mem_noted]
    constructor
    · rintro ⟨y, h1, h2, rfl⟩
      rcases h.mem.mp h1 with ⟨h3, h4⟩ | ⟨h3, _⟩
      · exact ⟨y, h3, h2, rfl⟩
      · rw [h2] at h3; cases h3
    · rintro ⟨y, h1, h2, rfl⟩
      exact ⟨y, h.mem.mpr (.inl ⟨h1, .inl h2⟩), h2, rfl⟩
  constructor
  · intro o
    have hp : ∀ (i : Nat) (p : Int), pre[i]? = some p → l[i]? = some p := fun i p hi => by
      have := o.cl ((i : Int), p) ((cn _).mpr (.inr ⟨by simp, by simpa using hi⟩))
      simpa using this
    have hpl : pre.length ≤ l.length := by
      rcases Nat.lt_or_ge l.length pre.length with c | c
      · have := hp l.length pre[l.length] (List.getElem?_eq_getElem c)
        rw [List.getElem?_eq_none (Nat.le_refl _)] at this
        cases this
      · exact c
    have hpre : pre <+: l := by
      refine ⟨l.drop pre.length, ?_⟩
      have : pre = l.take pre.length := by
        refine List.ext_getElem? fun i => ?_
        rcases Nat.lt_or_ge i pre.length with c | c
        · rw [List.getElem?_take_of_lt c, hp i pre[i] (List.getElem?_eq_getElem c)]
          exact List.getElem?_eq_getElem c
        · rw [List.getElem?_eq_none c, List.getElem?_eq_none (by rw [List.length_take]; omega)]
      conv => lhs; lhs; rw [this]
      exact List.take_append_drop _ _
    refine ⟨hpl, hpre, ⟨by rw [← h.m]; exact o.len, by rw [← h.n]; exact o.inr, o.nd, fun x hx => ?_, fun x hx => o.en x ((en x).mpr hx)⟩⟩
    rcases Int.lt_or_le x.1 pre.length with c | c
    · exact hp _ _ (ag x hx c)
    · exact o.cl x ((cn x).mpr (.inl ⟨hx, c⟩))
  · rintro ⟨_, hpre, o⟩
    refine ⟨by rw [h.m]; exact o.len, by rw [h.n]; exact o.inr, o.nd, fun x hx => ?_, fun x hx => o.en x ((en x).mp hx)⟩
    rcases (cn x).mp hx with ⟨h1, _⟩ | ⟨h1, h2⟩
    · exact o.cl x h1
    · rw [pre_at hpre (List.getElem?_eq_some_iff.mp h2).1]
      exact h2
def agreeF (j : J) (pre : List Int) : Bool := (notedL j true).all fun x => decide ((pre.length : Int) ≤ x.1) || decide (pre[x.1.toNat]? = some x.2)
def cntA (j : J) (pre : List Int) : Int := ((blk j pre).length : Int)
/-! ### the next towns -/
def nextF (j : J) (pre : List Int) : List Lk := ((freeT j.n.toNat pre).map fun p => (p, cntA j (pre ++ [p]))).filter fun x => decide (0 < x.2)
def pick : List Lk → Int → Option Lk
  | [], _ => none
  | (p, c) :: t, r => if r < c then some (p, r) else pick t (r - c)
/-! ### numbers -/
def belowF (j : J) (pre : List Int) (p : Int) : Int := (((nextF j pre).filter fun x => decide (x.1 < p)).map (·.2)).sum
/-- the number of a row, up to a time -/
def numTo (j : J) (l : List Int) : Nat → Int
  | 0 => 0
  | i + 1 => numTo j l i + belowF j (l.take i) (l.getD i 0)
end MP

namespace MP
open PySem PySem.Spec
/-! ### begun -/
def noteLe (a b : Note) : Bool := dle (noteD a) (noteD b)
def sortN (l : List Note) : List Note := l.mergeSort noteLe
theorem sortN_perm (l : List Note) : (sortN l).Perm l := List.mergeSort_perm _ _
def begunF (j : J) (pre : List Int) : J := ⟨j.n, j.m, sortN ((j.N.filter fun x => x.k == false || decide ((pre.length : Int) ≤ x.t)) ++ enumN 0 pre)⟩
/-! ### count_after -/
structure Lb (B : Tb) : Prop where
  noted : B i_noted = some q_noted
  span : B i_span = some q_span
  sound : B i_is_sound = some q_is_sound
  count : B i_count_orders = some q_count_orders
  plain : B i_plain = some q_plain
  begun : B i_begun = some q_begun
  after : B i_count_after = some q_count_after
  next : B i_next_counts = some q_next_counts
/-- the same without next_counts -/
structure Lz (B : Tb) : Prop where
  noted : B i_noted = some q_noted
  span : B i_span = some q_span
  sound : B i_is_sound = some q_is_sound
  count : B i_count_orders = some q_count_orders
  plain : B i_plain = some q_plain
  begun : B i_begun = some q_begun
  after : B i_count_after = some q_count_after
theorem Lb.z {B : Tb} (L : Lb B) : Lz B := ⟨L.noted, L.span, L.sound, L.count, L.plain, L.begun, L.after⟩
instance lbz {B : Tb} : Coe (Lb B) (Lz B) := ⟨Lb.z⟩
/-- a journal that the numbers' defs can take -/
structure JK (d : D) (j : J) : Prop where
  r : JR d j
  s : j.N.length ≤ 5000
/-! ### next_counts -/
theorem freeT_len (n : Nat) (pre : List Int) : (freeT n pre).length ≤ n := by
  have := List.length_filter_le (fun p => !decide (p ∈ pre)) (rng n)
  rw [rng_len] at this
  exact this
end MP

namespace MP
open PySem PySem.Spec
/-! ### misfit, look_order -/
theorem Ord.after {j : J} (w : JW j) {l : List Int} (h : Ord j l) (i : Nat) : (l.take i).Nodup ∧ (∀ p ∈ l.take i, 0 ≤ p ∧ p < j.n) ∧ (l.take i).length ≤ j.m.toNat ∧ 0 < cntA j (l.take i) := by
  have hl := h.len
  have a1 : (l.take i).Nodup := h.nd.sublist (List.take_sublist _ _)
  have a2 : ∀ p ∈ l.take i, 0 ≤ p ∧ p < j.n := fun p hp => h.inr p ((List.take_sublist _ _).subset hp)
  have a3 : (l.take i).length ≤ j.m.toNat := by rw [List.length_take]; omega
  refine ⟨a1, a2, a3, ?_⟩
  have := List.length_pos_of_mem ((mem_blk w a1 a2 a3).mpr ⟨List.take_prefix i l, h⟩)
  unfold cntA
  omega
/-! ### number_of -/
def enumL (l : List Int) : List Lk := (enumN 0 l).map fun x => (x.t, x.v)
/-! ### first_order -/
end MP

namespace MP
open PySem PySem.Spec
/-! ### orders by their notes -/
def truB (l : List Int) (x : Note) : Bool := if x.k = true then decide (l[x.t.toNat]? = some x.v) else !decide (x.v ∈ l.take (x.t.toNat + 1))
structure Row (n m : Int) (l : List Int) : Prop where
  len : (l.length : Int) = m
  inr : ∀ p ∈ l, 0 ≤ p ∧ p < n
  nd : l.Nodup
theorem ord_iff {j : J} {l : List Int} : Ord j l ↔ Row j.n j.m l ∧ ∀ x ∈ j.N, truB l x = true := by
  constructor
  · intro h
    refine ⟨⟨h.len, h.inr, h.nd⟩, fun x hx => ?_⟩
    unfold truB
    by_cases c : x.k = true
    · rw [if_pos c]
      exact decide_eq_true (h.cl (x.t, x.v) (mem_noted.mpr ⟨x, hx, c, rfl⟩))
    · rw [if_neg c]
      have := h.en (x.t, x.v) (mem_noted.mpr ⟨x, hx, by simpa using c, rfl⟩)
      simpa using this
  · rintro ⟨r, h⟩
    refine ⟨r.len, r.inr, r.nd, fun y hy => ?_, fun y hy => ?_⟩
    · obtain ⟨x, hx, hk, rfl⟩ := mem_noted.mp hy
      have := h x hx
      unfold truB at this
      rw [if_pos hk] at this
      simpa using this
    · obtain ⟨x, hx, hk, rfl⟩ := mem_noted.mp hy
      have := h x hx
      unfold truB at this
      rw [if_neg (by simp [hk])] at this
      simpa using this
/-- all rows of so many different towns, ascending -/
def rowsL (n m : Int) : List (List Int) := ext n.toNat m.toNat []
theorem mem_rows {n m : Int} (h0 : 0 ≤ n) (hm : 0 ≤ m) {l : List Int} : l ∈ rowsL n m ↔ Row n m l := by
  unfold rowsL
  rw [mem_ext List.nodup_nil (fun p hp => (nomatch hp))]
  constructor
  · rintro ⟨_, h2, h3, h4⟩
    simp at h2
    exact ⟨by omega, fun p hp => by have := h4 p hp; omega, h3⟩
  · rintro ⟨h1, h2, h3⟩
    exact ⟨List.nil_prefix, by simp; omega, h3, fun p hp => by have := h2 p hp; omega⟩
theorem rows_lt (n m : Int) : (rowsL n m).Pairwise fun a b => lexLt a b = true := ext_lt _ _
theorem rows_nodup (n m : Int) : (rowsL n m).Nodup := (rows_lt n m).imp fun {a b} h e => by
  subst e
  rw [lexLt_irr] at h
  cases h
def ordsL (j : J) : List (List Int) := (rowsL j.n j.m).filter fun l => j.N.all (truB l)
theorem mem_ords {j : J} (w : JW j) {l : List Int} : l ∈ ordsL j ↔ Ord j l := by
  unfold ordsL
  rw [List.mem_filter, mem_rows w.n0 w.m0, ord_iff, List.all_eq_true]
theorem ords_nodup (j : J) : (ordsL j).Nodup := (rows_nodup _ _).sublist List.filter_sublist
theorem count_ords {j : J} (w : JW j) : countF j = ((ordsL j).length : Int) := count_of w (ords_nodup j) fun _ => mem_ords w
theorem filter_congr' {α : Type} {p q : α → Bool} : ∀ {l : List α}, (∀ x ∈ l, p x = q x) → l.filter p = l.filter q
  | [], _ => rfl
  | x :: l, h => by
    rw [List.filter_cons, List.filter_cons, h x List.mem_cons_self, filter_congr' fun y hy => h y (List.mem_cons_of_mem _ hy)]
theorem bool_iff {a b : Bool} (h : a = true ↔ b = true) : a = b := by
  cases a <;> cases b <;> simp_all
/-! ### sums -/
/-! ### one note more -/
structure Add (j : J) (x : Note) (j' : J) : Prop where
  n : j'.n = j.n
  m : j'.m = j.m
  N : j'.N.Perm (x :: j.N)
theorem Add.mem {j j' : J} {x : Note} (a : Add j x j') {y : Note} : y ∈ j'.N ↔ y = x ∨ y ∈ j.N := by rw [a.N.mem_iff, List.mem_cons]
theorem Add.ords {j j' : J} {x : Note} (a : Add j x j') : ordsL j' = (ordsL j).filter fun l => truB l x := by
  unfold ordsL
  rw [a.n, a.m, List.filter_filter]
  refine filter_congr' fun l _ => bool_iff ?_
  rw [List.all_eq_true, Bool.and_eq_true, List.all_eq_true]
  constructor
  · intro h
    exact ⟨h x (a.mem.mpr (.inl rfl)), fun y hy => h y (a.mem.mpr (.inr hy))⟩
  · rintro ⟨h1, h2⟩ y hy
    rcases a.mem.mp hy with rfl | hy
    · exact h1
    · exact h2 y hy
/-- room for a note -/
structure Fits (j : J) (x : Note) : Prop where
  t0 : 0 ≤ x.t
  t1 : x.t < j.m
  v0 : 0 ≤ x.v
  v1 : x.v < j.n
  no : ∀ y ∈ j.N, ¬ (y.t = x.t ∧ y.k = x.k)
theorem Add.jw {j j' : J} {x : Note} (a : Add j x j') (w : JW j) (f : Fits j x) : JW j' := by
  refine ⟨by rw [a.n]; exact w.n0, by rw [a.n]; exact w.n1, by rw [a.m]; exact w.m0, by rw [a.m]; exact w.m1, fun y hy => ?_, ?_⟩
  · rw [a.n, a.m]
    rcases a.mem.mp hy with rfl | hy
    · exact ⟨f.t0, f.t1, f.v0, f.v1⟩
    · exact w.inr y hy
  · refine (a.N.pairwise_iff fun {x y} z => ?_).mpr ?_
    · rintro ⟨e1, e2⟩
      exact z ⟨e1.symm, e2.symm⟩
    · refine List.pairwise_cons.mpr ⟨fun y hy e => f.no y hy ⟨e.1.symm, e.2.symm⟩, w.so⟩
theorem Add.jw' {j j' : J} {x : Note} (a : Add j x j') (w : JW j') : JW j ∧ Fits j x := by
  have so := (a.N.pairwise_iff (R := fun x y : Note => ¬ (x.t = y.t ∧ x.k = y.k)) fun {x y} z => by
    rintro ⟨e1, e2⟩
    exact z ⟨e1.symm, e2.symm⟩).mp w.so
  have so := List.pairwise_cons.mp so
  have := w.inr x (a.mem.mpr (.inl rfl))
  rw [a.n, a.m] at this
  refine ⟨⟨by rw [← a.n]; exact w.n0, by rw [← a.n]; exact w.n1, by rw [← a.m]; exact w.m0, by rw [← a.m]; exact w.m1, fun y hy => ?_, so.2⟩, ⟨this.1, this.2.1, this.2.2.1, this.2.2.2, fun y hy e => so.1 y hy ⟨e.1.symm, e.2.symm⟩⟩⟩
  have := w.inr y (a.mem.mpr (.inr hy))
  rw [a.n, a.m] at this
  exact this
theorem Add.ord {j j' : J} {x : Note} (a : Add j x j') {l : List Int} : Ord j' l ↔ Ord j l ∧ truB l x = true := by
  rw [ord_iff, ord_iff, a.n, a.m]
  constructor
  · rintro ⟨h1, h2⟩
    exact ⟨⟨h1, fun y hy => h2 y (a.mem.mpr (.inr hy))⟩, h2 x (a.mem.mpr (.inl rfl))⟩
  · rintro ⟨⟨h1, h2⟩, h3⟩
    refine ⟨h1, fun y hy => ?_⟩
    rcases a.mem.mp hy with rfl | hy
    · exact h3
    · exact h2 y hy
theorem Add.count {j j' : J} {x : Note} (a : Add j x j') (w : JW j') : countF j' = (((ordsL j).filter fun l => truB l x).length : Int) := by rw [count_ords w, a.ords]
theorem Add.count_le {j j' : J} {x : Note} (a : Add j x j') (w : JW j') : countF j' ≤ countF j := by
  rw [a.count w, count_ords (a.jw' w).1]
  have := List.length_filter_le (fun l => truB l x) (ordsL j)
  omega
/-! ### lost ends -/
theorem Add.times {j j' : J} {x : Note} (a : Add j x j') (k : Bool) (s : Int) : s ∈ timesF j' k ↔ (x.k = k ∧ s = x.t) ∨ s ∈ timesF j k := by
  rw [mem_times, mem_times]
  constructor
  · rintro ⟨p, hp⟩
    obtain ⟨y, hy, hk, e⟩ := mem_noted.mp hp
    cases e
    rcases a.mem.mp hy with rfl | hy
    · exact .inl ⟨hk, rfl⟩
    · exact .inr ⟨y.v, mem_noted.mpr ⟨y, hy, hk, rfl⟩⟩
  · rintro (⟨h1, rfl⟩ | ⟨p, hp⟩)
    · exact ⟨x.v, mem_noted.mpr ⟨x, a.mem.mpr (.inl rfl), h1, rfl⟩⟩
    · obtain ⟨y, hy, hk, e⟩ := mem_noted.mp hp
      exact ⟨p, mem_noted.mpr ⟨y, a.mem.mpr (.inr hy), hk, e⟩⟩
end MP

namespace MP
open PySem PySem.Spec
/-! ### an order, or evidence -/
/-! ### windows with one note more -/
theorem Add.noted {j j' : J} {x : Note} (a : Add j x j') (k : Bool) (y : Lk) : y ∈ notedL j' k ↔ (x.k = k ∧ y = (x.t, x.v)) ∨ y ∈ notedL j k := by
  rw [mem_noted, mem_noted]
  constructor
  · rintro ⟨z, hz, hk, e⟩
    rcases a.mem.mp hz with rfl | hz
    · exact .inl ⟨hk, e⟩
    · exact .inr ⟨z, hz, hk, e⟩
  · rintro (⟨h1, h2⟩ | ⟨z, hz, hk, e⟩)
    · exact ⟨x, a.mem.mpr (.inl rfl), h1, h2⟩
    · exact ⟨z, a.mem.mpr (.inr hz), hk, e⟩
theorem Add.span {j j' : J} {x : Note} (a : Add j x j') (w : JW j') (p : Int) : (spanF j p).1 ≤ (spanF j' p).1 ∧ (spanF j' p).2 ≤ (spanF j p).2 := by
  obtain ⟨w0, f⟩ := a.jw' w
  constructor
  · refine start_le (start_nn w) (fun t ht => le_start.1 ((a.noted true _).mpr (.inr ht))) fun t ht => le_start.2 ((a.noted false _).mpr (.inr ht))
  · refine last_ge ?_ fun t ht => last_le ((a.noted true _).mpr (.inr ht))
    rw [← a.m]
    show minO _ _ ≤ _
    rcases minO_mem (l := cameL j' p) (z := j'.m - 1) with ⟨_, e⟩ | ⟨e, _⟩
    · omega
    · have := (noted_inr w (mem_came.mp e)).2.1
      have : minO (cameL j' p) (j'.m - 1) < j'.m := this
      omega
end MP

namespace MP
open PySem PySem.Spec
/-- _law_take, of larger numbers -/
theorem sp_takeB {B : Tb} {b : Nat} (hB : B i__law_take = some q__law_take) : ∀ (d n k : Nat) (S : Sto) (m : Int), Bx S b (k + d + 1) → 0 < m → m ≤ 9000000 ^ (d + 1) → d ≤ 20 →
    ∃ (r : Int) (S' : Sto), callN B (n + d + 1) i__law_take [.loc b, .int m] S = .ok (.v (.int r)) S' ∧ 0 ≤ r ∧ r < m ∧ Bx S' b k
  := by
  intro d
  induction d with
  | zero =>
    intro n k S m hb h0 h1 _
    have e : (9000000 : Int) ^ (0 + 1) = 9000000 := by decide
    exact sp_take hB hb h0 (by omega)
  | succ d ih =>
    intro n k S m hb h0 h1 hd
    by_cases cm : m ≤ 10000000
    · exact sp_take (n := n + (d + 1)) hB (hb.mono (by omega)) h0 cm
    have hmb : m.natAbs < big := by
      have h2 : (9000000 : Int) ^ (d + 1 + 1) = ((9000000 ^ (d + 1 + 1) : Nat) : Int) := by simp
      have h3 : 9000000 ^ (d + 1 + 1) ≤ 9000000 ^ 22 := Nat.pow_le_pow_right (by decide) (by omega)
      have h4 : 9000000 ^ 22 < big := by unfold big; decide +kernel
      rw [h2] at h1
      omega
    obtain ⟨x, y, z, g1, g2, g3, g4⟩ := hb.ex
    have hbl : b < S.length := (List.getElem?_eq_some_iff.mp g1).1
    by_cases c : 0 < x
    · refine ⟨x % m, S.set b (.l [.int (x / m), .int y, .int z]), ?_, Int.emod_nonneg _ (by omega), Int.emod_lt_of_pos _ h0, ⟨x / m, y, z, ?_, Int.ediv_nonneg g2 (by omega), g3, by omega⟩⟩
      · rw [show n + (d + 1) + 1 = (n + d + 1) + 1 by omega, callN_eq hB]
        simp [q__law_take, b__law_take, callF, startE, finO, dSeqS, dSet, slOf, dRet, dRetN, dIfS, dSkip, dVar, dBVar, dMv, dC, fz, rv, dOp, dUn, dNil, dCons, dTup, dLst, dB, dAndT, dOrT, dNotT, dAnd, dOr, dNot, dIf, dIfR, dCall, dBlt, dOp2, dSeq, itemsOf, dFrz, frzE, dPar, rCons, rNil, setSls, dAug, dUnp, bindTg, bindTgs, wipeE, dYes, dChain, Res.bind, Res.map, R.val, O.toD, fIx_tup, fIx_lst, fIx_loc, fIx_scr, ixD, fGt_i, fLt_i, fLe_i, fGe_i, fSub_i, fIAdd_i, fMod, fDiv, fAdd, fPow, fEq, fNe, fIsN, fNotN, isNon, bLen, bList, bTuple, bAbs, bInt, bMax2, bMin2, dPutL, listSlot, isL, mutL, fPut, dIxL, dMut1, fApp, List.getElem?_cons_zero, List.getElem?_cons_succ, List.set_cons_zero, List.set_cons_succ, List.map_cons, List.map_nil, List.cons_append, List.nil_append, List.length_cons, List.length_nil, List.replicate, if_true, if_false, ite_true, ite_false, Bool.false_eq_true, reduceIte, decide_true, decide_false, Option.map_some, Option.bind_some, g1, c, h0, hmb]
      · rw [List.getElem?_set_self hbl]
    · have c0 : x = 0 := by omega
      subst c0
      obtain ⟨r1, S1, a1, a2, a3, a4⟩ := sp_take (n := n + d) (m := 10000000) (k := k + d + 1) hB (hb.mono (by omega)) (by decide) (by decide)
      have p9 : (9000000 : Int) ^ (d + 1 + 1) = 9000000 ^ (d + 1) * 9000000 := Int.pow_succ ..
      have pn : (0 : Int) < 9000000 ^ d := Int.pow_pos (by decide)
      have p8 : (9000000 : Int) ^ (d + 1) = 9000000 ^ d * 9000000 := Int.pow_succ ..
      obtain ⟨r2, S2, b1, b2, b3, b4⟩ := ih n k S1 (m / 10000000 + 1) (a4.mono (by omega)) (by omega) (by omega) (by omega)
      have a1 : callN B (n + d + 1) 238 [.loc b, .int 10000000] S = .ok (.v (.int r1)) S1 := a1
      have b1 : callN B (n + d + 1) 238 [.loc b, .int (m / 10000000 + 1)] S1 = .ok (.v (.int r2)) S2 := b1
      refine ⟨(r1 + 10000000 * r2) % m, S2, ?_, Int.emod_nonneg _ (by omega), Int.emod_lt_of_pos _ h0, b4⟩
      rw [show n + (d + 1) + 1 = (n + d + 1) + 1 by omega, callN_eq hB]
      have m1 : mulOk 10000000 r2 = true := mulOk_small1 (by decide)
      have bb : (10000000 : Nat) < big := Nat.lt_trans (by decide) big_gt
      have cm' : 10000000 < m := by omega
      simp [q__law_take, b__law_take, callF, startE, finO, dSeqS, dSet, slOf, dRet, dRetN, dIfS, dSkip, dVar, dBVar, dMv, dC, fz, rv, dOp, dUn, dNil, dCons, dTup, dLst, dB, dAndT, dOrT, dNotT, dAnd, dOr, dNot, dIf, dIfR, dCall, dBlt, dOp2, dSeq, itemsOf, dFrz, frzE, dPar, rCons, rNil, setSls, dAug, dUnp, bindTg, bindTgs, wipeE, dYes, dChain, Res.bind, Res.map, R.val, O.toD, fIx_tup, fIx_lst, fIx_loc, fIx_scr, ixD, fGt_i, fLt_i, fLe_i, fGe_i, fSub_i, fIAdd_i, fMod, fDiv, fAdd, fPow, fEq, fNe, fIsN, fNotN, isNon, bLen, bList, bTuple, bAbs, bInt, bMax2, bMin2, dPutL, listSlot, isL, mutL, fPut, dIxL, dMut1, fApp, List.getElem?_cons_zero, List.getElem?_cons_succ, List.set_cons_zero, List.set_cons_succ, List.map_cons, List.map_nil, List.cons_append, List.nil_append, List.length_cons, List.length_nil, List.replicate, if_true, if_false, ite_true, ite_false, Bool.false_eq_true, reduceIte, decide_true, decide_false, Option.map_some, Option.bind_some, g1, a1, b1, m1, bb, cm', h0, fMul]
/-! ### evaluation, more -/
section
variable (env : Envm) (S : Sto)
theorem ev_isB (a b : Bool) : fIsN (.bl a) (.bl b) S = .ok (.v (.bl (decide (a = b)))) S := rfl
theorem ev_notB (a b : Bool) : fNotN (.bl a) (.bl b) S = .ok (.v (.bl (!decide (a = b)))) S := rfl
def lenSetR : D → Sto → Res R := fun d S1 => match seqInts d with
  | some ns => if ns.length ≤ 1000 then .ok (.v (.int (usort ns).length)) S1 else .bad
  | none => .bad
theorem ev_dLenSet (de : DE) : dLenSet de env S = (de env S).bind lenSetR := rfl
end
end MP

namespace MP
open PySem PySem.Spec
/-! ### tuples of numbers compared -/
section
variable (a b : List Int) (S : Sto)
end
/-! ### all ends noted -/
def endN : Nat → List Int → List Note
  | _, [] => []
  | i, e :: l => ⟨i, false, e⟩ :: endN (i + 1) l
def jE (c : Nat) (E : List Int) : J := ⟨c, E.length, endN 0 E⟩
section
variable {c : Nat} {E : List Int}
/-- the open towns less those still to come -/
def facE (c : Nat) (E : List Int) (t : Nat) : Int := (c : Int) - t - ((usort (E.drop t)).length : Int)
def dueTo (c : Nat) (E : List Int) : Nat → Int
  | 0 => 1
  | i + 1 => dueTo c E i * facE c E i
end
end MP

namespace MP
open PySem PySem.Spec
/-! ### the two shapes of a law -/
def shR (i : Nat) (N : PN) (env : Envm) : R → Sto → Prop := fun r S1 => match r with
  | .o x => N (env.set i (.va (.loc S1.length))) (S1 ++ [x])
  | .v (.loc n) => N (env.set i (.va (.loc n))) S1
  | _ => False
theorem ok_dSh (env : Envm) (S : Sto) (i : Nat) (N : PN) (T : PT) (K C : PN) (dr : DR) : okO (dSh i dr env S) N T K C = okE (dr env S) (shR i N env) := by
  unfold dSh
  cases dr env S with
  | ok r S1 =>
    rw [okE_ok]
    cases r with
    | o x => rfl
    | v d => cases d <;> rfl
  | xn c x S1 => exact propext ⟨fun h => False.elim h, fun ⟨_, _, h, _⟩ => (nomatch h)⟩
  | bad => rw [okE_bad]; rfl
theorem shR_o (i : Nat) (N : PN) (env : Envm) (x : O) (S1 : Sto) : shR i N env (.o x) S1 = N (env.set i (.va (.loc S1.length))) (S1 ++ [x]) := rfl
def shE1 : R → Sto → Res D := fun r S1 => match r with
  | .o x => .ok (.loc S1.length) (S1 ++ [x])
  | .v d => .ok d S1
theorem ev_shE (env : Envm) (S : Sto) (dr : DR) : shE dr env S = (dr env S).bind shE1 := by
  unfold shE
  cases dr env S with
  | ok r S1 => cases r <;> rfl
  | xn c x S1 => rfl
  | bad => rfl
theorem shE1_o (x : O) (S1 : Sto) : shE1 (.o x) S1 = .ok (.loc S1.length) (S1 ++ [x]) := rfl
theorem bAll_true {ys : List D} (h : ∀ y ∈ ys, y = .bl true) (S : Sto) : bAll [.lst ys] S = .ok (.v (.bl true)) S := by
  have e : ys = ys.map fun _ => D.bl true := by
    clear S
    induction ys with
    | nil => rfl
    | cons y ys ih =>
      rw [List.map_cons, ← ih fun z hz => h z (List.mem_cons_of_mem _ hz), h y List.mem_cons_self]
  rw [e, bAll_map ys (fun _ => true)]
  simp
end MP

namespace MP
open PySem PySem.Spec
/-! ### runs that end by an exception -/
def exE {α : Type} (r : Res α) (P : D → Sto → Prop) : Prop := ∃ c x S, r = .xn c x S ∧ P x S
def exO (o : Out) (P : D → Sto → Prop) : Prop := ∃ c x S, o = .xn c x S ∧ P x S
section
variable {α : Type} {env : Envm} {S : Sto} {P : D → Sto → Prop}
theorem exE.imp {r : Res α} {Q : D → Sto → Prop} (h : exE r P) (i : ∀ x S, P x S → Q x S) : exE r Q := by
  obtain ⟨c, x, S, h1, h2⟩ := h
  exact ⟨c, x, S, h1, i x S h2⟩
/-- what a handler does -/
def catchB (tab : List (Str × String)) (ns : List Str) (x : D) : Bool := match exName x with
  | some n => inTab tab n && ns.contains n
  | none => false
end
section
variable (env : Envm) (S : Sto)
def xfR (tab : List (Str × String)) (f : Str) : D → Sto → Res D := fun d S => match d with
  | .ex n g x => if (g == f && (inTab tab n && xFields.contains f)) = true then .ok x S else .bad
  | _ => .bad
theorem okE_dXf (tab : List (Str × String)) (f : Str) (de : DE) (Q : D → Sto → Prop) : okE (dXf tab f de env S) Q = okE (de env S) fun d S1 => okE (xfR tab f d S1) Q := by
  unfold dXf
  cases de env S with
  | ok d S1 =>
    rw [okE_ok]
    cases d <;> rfl
  | xn c x S1 => rw [show (okE (Res.xn c x S1) fun d S1 => okE (xfR tab f d S1) Q) = False from propext ⟨fun ⟨_, _, h, _⟩ => (nomatch h), fun h => h.elim⟩]; exact okE_bad _
  | bad => rw [okE_bad]; exact (okE_bad _).symm
theorem isNon_ex (n f : Str) (x : D) : isNon (.ex n f x) = false := rfl
theorem isNon_ex0 (n : Str) : isNon (.ex0 n) = false := rfl
end
/-! ### order_at beyond the last number -/
/-! ### the helper that tells an error by its name -/
abbrev tab5 : List (Str × String) := [("Impossible", "ValueError"), ("Misfit", "ValueError"), ("NoTown", "LookupError"), ("NoTime", "LookupError"), ("NoNumber", "LookupError")]
end MP

namespace MP
open PySem PySem.Spec
/-! ### notes ascend -/
def ntLt (a b : Note) : Bool := decide (a.t < b.t) || (decide (a.t = b.t) && ((a.k && !b.k) || (a.k == b.k && decide (a.v < b.v))))
def kcp (k : Bool) : List Nat := (kd k).cps.toList
theorem ntLt_iff {a b : Note} : ntLt a b = true ↔ a.t < b.t ∨ (a.t = b.t ∧ ((a.k = true ∧ b.k = false) ∨ (a.k = b.k ∧ a.v < b.v))) := by
  unfold ntLt
  cases a.k <;> cases b.k <;> simp
theorem ntLt_asym {a b : Note} (h : ntLt a b = true) : ntLt b a = false := by
  cases hb : ntLt b a with
  | false => rfl
  | true =>
    rw [ntLt_iff] at h hb
    exfalso
    rcases h with h | ⟨h1, h2⟩
    · rcases hb with hb | ⟨h3, _⟩ <;> omega
    · rcases hb with hb | ⟨_, h4⟩
      · omega
      · rcases h2 with ⟨h5, h6⟩ | ⟨h5, h6⟩ <;> rcases h4 with ⟨h7, h8⟩ | ⟨h7, h8⟩ <;> first | (rw [h5] at h8; cases h8) | (rw [h5] at h7; rw [h7] at h6; cases h6) | (rw [h7] at h5; rw [h5] at h8; cases h8) | omega | simp_all
theorem ntLt_tot {a b : Note} (h1 : ntLt a b = false) (h2 : ntLt b a = false) : a = b := by
  have n1 := mt ntLt_iff.mpr (by rw [h1]; simp)
  have n2 := mt ntLt_iff.mpr (by rw [h2]; simp)
  have et : a.t = b.t := by omega
  have ek : a.k = b.k := by
    cases ha : a.k <;> cases hb : b.k <;> first | rfl | (exfalso; exact n1 (.inr ⟨et, .inl ⟨ha, hb⟩⟩)) | (exfalso; exact n2 (.inr ⟨et.symm, .inl ⟨hb, ha⟩⟩))
  have ev : a.v = b.v := by
    by_cases c : a.v < b.v
    · exact absurd (.inr ⟨et, .inr ⟨ek, c⟩⟩) n1
    · by_cases d : b.v < a.v
      · exact absurd (.inr ⟨et.symm, .inr ⟨ek.symm, d⟩⟩) n2
      · omega
  cases a; cases b
  simp_all
def NS (l : List Note) : Prop := l.Pairwise fun a b => ntLt a b = true
theorem NS.of {l : List Note} (h1 : l.Pairwise fun a b => ntLt b a = false) (h2 : l.Nodup) : NS l := by
  unfold NS
  induction l with
  | nil => exact .nil
  | cons a l ih =>
    obtain ⟨g1, g2⟩ := List.pairwise_cons.mp h1
    obtain ⟨g3, g4⟩ := List.nodup_cons.mp h2
    refine List.pairwise_cons.mpr ⟨fun b hb => ?_, ih g2 g4⟩
    cases h : ntLt a b with
    | true => rfl
    | false =>
      have := ntLt_tot h (g1 b hb)
      subst this
      exact absurd hb g3
theorem NS.uniq : ∀ {l m : List Note}, NS l → NS m → l.Perm m → l = m
  | [], m, _, _, p => (List.nil_perm.mp p).symm
  | a :: l, [], _, _, p => by cases (List.perm_nil.mp p)
  | a :: l, b :: m, h1, h2, p => by
    obtain ⟨g1, g2⟩ := List.pairwise_cons.mp h1
    obtain ⟨g3, g4⟩ := List.pairwise_cons.mp h2
    have e : a = b := by
      rcases List.mem_cons.mp (p.subset List.mem_cons_self) with e | e
      · exact e
      · rcases List.mem_cons.mp (p.symm.subset List.mem_cons_self) with e2 | e2
        · exact e2.symm
        · have := ntLt_asym (g1 b e2)
          rw [g3 a e] at this; cases this
    subst e
    rw [NS.uniq g2 g4 (List.perm_cons a |>.mp p)]
theorem NS.nodup {l : List Note} (h : NS l) : l.Nodup := h.imp fun {a b} h e => by
  subst e
  have := ntLt_asym h
  rw [h] at this; cases this
/-! ### with_note, without_note -/
def addF (j : J) (x : Note) : J := ⟨j.n, j.m, sortN (j.N ++ [x])⟩
def remF (j : J) (x : Note) : J := ⟨j.n, j.m, j.N.filter fun y => !decide (y = x)⟩
instance decJ : DecidableEq J := fun a b => if h : a.n = b.n ∧ a.m = b.m ∧ a.N = b.N then isTrue (by cases a; cases b; simp_all) else isFalse (by rintro rfl; exact h ⟨rfl, rfl, rfl⟩)
end MP

namespace MP
open PySem PySem.Spec
/-! ### d[k] = v -/
def okP (o : Option O) (P : O → Prop) : Prop := match o with
  | some x => P x
  | none => False
theorem okP_some (x : O) (P : O → Prop) : okP (some x) P = P x := rfl
def putR (k v : D) (P : O → Prop) : Option Sl → Prop := fun o => match o with
  | some (.ow x) => okP (putO k v x) P
  | _ => False
theorem putR_ow (k v : D) (P : O → Prop) (x : O) : putR k v P (some (.ow x)) = okP (putO k v x) P := rfl
theorem ok_dPutD (env : Envm) (S : Sto) (i : Nat) (N : PN) (T : PT) (K C : PN) (dk dv : DE) : okO (dPutD i dk dv env S) N T K C = okE (dv env S) fun v S1 => okE (dk env S1) fun k S2 => putR k v (fun o => N (env.set i (.ow o)) S2) env[i]? := by
  unfold dPutD
  cases dv env S with
  | xn c x S1 => exact propext ⟨fun h => False.elim h, fun ⟨_, _, h, _⟩ => (nomatch h)⟩
  | bad => rw [okE_bad]; rfl
  | ok v S1 =>
    rw [okE_ok]
    show okO (match dk env S1 with
      | .ok k S2 => (match env[i]? with
        | some (.ow o) => (match putO k v o with
          | some o' => .nx (env.set i (.ow o')) S2
          | none => .bad)
        | _ => .bad)
      | .xn _ _ _ => .bad
      | .bad => .bad) N T K C = _
    cases dk env S1 with
    | xn c x S2 => exact propext ⟨fun h => False.elim h, fun ⟨_, _, h, _⟩ => (nomatch h)⟩
    | bad => rw [okE_bad]; rfl
    | ok k S2 =>
      rw [okE_ok]
      cases env[i]? with
      | none => rfl
      | some s =>
        cases s with
        | no => rfl
        | va d => rfl
        | ow o =>
          show okO (match putO k v o with
            | some o' => .nx (env.set i (.ow o')) S2
            | none => .bad) N T K C = okP (putO k v o) _
          cases putO k v o <;> rfl
/-! ### a dict of notes -/
def keyT (x : Note) : List L2.Key := [.inl x.t, .inr (kd x.k)]
def same (y x : Note) : Bool := decide (y.t = x.t) && (y.k == x.k)
def setN (M : List Note) (x : Note) : List Note := if M.any (same · x) = true then M.map (fun y => if same y x = true then x else y) else M ++ [x]
def dicN (M : List Note) : O := .t (M.map keyT) (M.map fun x => .int x.v)
theorem same_iff {y x : Note} : same y x = true ↔ y.t = x.t ∧ y.k = x.k := by
  unfold same
  rw [Bool.and_eq_true, decide_eq_true_eq, beq_iff_eq]
structure DN (n m : Int) (M : List Note) : Prop where
  inr : ∀ x ∈ M, 0 ≤ x.t ∧ x.t < m ∧ 0 ≤ x.v ∧ x.v < n
  so : M.Pairwise fun x y => ¬ (x.t = y.t ∧ x.k = y.k)
theorem DN.set {n m : Int} {M : List Note} {x : Note} (h : DN n m M) (hx : 0 ≤ x.t ∧ x.t < m ∧ 0 ≤ x.v ∧ x.v < n) : DN n m (setN M x) := by
  unfold setN
  split
  · refine ⟨fun y hy => ?_, ?_⟩
    · obtain ⟨z, hz, rfl⟩ := List.mem_map.mp hy
      split
      · exact hx
      · exact h.inr z hz
    · refine List.pairwise_map.mpr (h.so.imp fun {a b} g => ?_)
      have f : ∀ y : Note, (if same y x = true then x else y).t = y.t ∧ (if same y x = true then x else y).k = y.k := fun y => by
        split
        · rename_i e
          have := same_iff.mp e
          exact ⟨this.1.symm, this.2.symm⟩
        · exact ⟨rfl, rfl⟩
      rw [(f a).1, (f a).2, (f b).1, (f b).2]
      exact g
  · rename_i c
    refine ⟨fun y hy => ?_, ?_⟩
    · rcases List.mem_append.mp hy with hy | hy
      · exact h.inr y hy
      · rw [List.mem_singleton.mp hy]; exact hx
    · refine List.pairwise_append.mpr ⟨h.so, by simp, fun a ha b hb => ?_⟩
      rw [List.mem_singleton.mp hb]
      intro e
      exact c (List.any_eq_true.mpr ⟨a, ha, same_iff.mpr e⟩)
/-- what a journal of the law's is -/
structure Book (j : J) (m : Nat) : Prop where
  w : JW j
  s : NS j.N
  n1 : 1 ≤ j.n
  n2 : j.n ≤ m
  m1 : j.m < j.n
  l : j.N.length ≤ 200
theorem Book.jr {j : J} {m : Nat} (h : Book j m) : JR (jD j) j := jr_jD h.w (by have := h.l; omega)
theorem Book.jk {j : J} {m : Nat} (h : Book j m) : JK (jD j) j := ⟨h.jr, by have := h.l; omega⟩
end MP

namespace MP
open PySem PySem.Spec
abbrev rowD (l : List Int) : D := .tup (l.map D.int)
/-! ### isinstance -/
section
variable (S : Sto)
theorem isi_tt (x : List D) : bIsi [.tup x, .ty "tuple"] S = .ok (.v (.bl true)) S := rfl
theorem isi_nt : bIsi [.non, .ty "tuple"] S = .ok (.v (.bl false)) S := rfl
theorem isi_ss (x : Str) : bIsi [.str x, .ty "str"] S = .ok (.v (.bl true)) S := rfl
end
/-! ### is_open, is_story -/
def openB (Q E : List Int) : Bool := (enumL E).all fun x => !decide (x.2 ∈ Q.take (x.1.toNat + 1))
def storyF (j : J) (Q E : List Int) : Bool := (decide ((Q.length : Int) = j.m) && Q.all fun p => decide (0 ≤ p) && decide (p < j.n)) && (decide ((E.length : Int) = j.m) && E.all fun p => decide (0 ≤ p) && decide (p < j.n)) && decide (((usort Q).length : Int) = j.m) && openB Q E && j.N.all fun x => decide ((if x.k = true then Q else E)[x.t.toNat]? = some x.v)
/-! ### shows_evidence -/
theorem fEq_str {x y : Str} (hx : PyData.strOk x = true) (hy : PyData.strOk y = true) (S : Sto) : fEq (.str x) (.str y) S = .ok (.v (.bl (x == y))) S := by
  rw [ev_eq S (show fitN 20 (.str x) = true from hx) (show fitN 20 (.str y) = true from hy)]
  rfl
/-! ### windows decide -/
end MP

namespace MP
open PySem PySem.Spec
/-! ### all rows, by their lengths -/
def bfs (n : Nat) : Nat → List (List Int)
  | 0 => [[]]
  | i + 1 => (bfs n i).flatMap fun l => (freeT n l).map fun p => l ++ [p]
theorem bfs_ext (n : Nat) : ∀ (i k : Nat), (bfs n i).flatMap (ext n k) = ext n (i + k) []
  | 0, k => by
    rw [Nat.zero_add]
    show [[]].flatMap (ext n k) = _
    simp
  | i + 1, k => by
    show ((bfs n i).flatMap fun l => (freeT n l).map fun p => l ++ [p]).flatMap (ext n k) = _
    rw [List.flatMap_assoc, show i + 1 + k = i + (k + 1) by omega, ← bfs_ext n i (k + 1)]
    congr 1
    funext l
    show ((freeT n l).map fun p => l ++ [p]).flatMap (ext n k) = (freeT n l).flatMap fun p => ext n k (l ++ [p])
    rw [List.flatMap_map]
theorem bfs_rows (n m : Nat) : bfs n m = rowsL n m := by
  have := bfs_ext n m 0
  rw [Nat.add_zero] at this
  unfold rowsL
  rw [Int.toNat_natCast, Int.toNat_natCast, ← this]
  show _ = (bfs n m).flatMap fun l => [l]
  simp
theorem bfs_len (n : Nat) : ∀ i : Nat, (bfs n i).length ≤ n ^ i
  | 0 => by simp [bfs]
  | i + 1 => by
    show ((bfs n i).flatMap fun l => (freeT n l).map fun p => l ++ [p]).length ≤ _
    rw [List.length_flatMap, Nat.pow_succ]
    have h : ∀ L : List (List Int), (L.map fun l => ((freeT n l).map fun p => l ++ [p]).length).sum ≤ L.length * n := by
      intro L
      induction L with
      | nil => simp
      | cons l L ih =>
        rw [List.map_cons, List.sum_cons, List.length_map, List.length_cons, Nat.succ_mul]
        have := freeT_len n l
        omega
    exact Nat.le_trans (h _) (Nat.mul_le_mul_right n (bfs_len n i))
/-- what _law_rows gives: its own list at once, or one that was laid before -/
def rowsR (c s : Nat) : R := if s = 0 then .o (.l ((rowsL c s).map rowD)) else .v (.lst ((rowsL c s).map rowD))
/-! ### _law_fits -/
end MP

namespace MP
open PySem PySem.Spec
theorem zipD_map {α : Type} (f g : α → D) : ∀ xs : List α, zipD (xs.map f) (xs.map g) = xs.map fun x => D.tup [f x, g x]
  | [] => rfl
  | x :: xs => by
    show D.tup [f x, g x] :: zipD (xs.map f) (xs.map g) = _
    rw [zipD_map f g xs]
    rfl
theorem fNe_bb (a b : Bool) (S : Sto) : fNe (.bl a) (.bl b) S = .ok (.v (.bl (!decide (a = b)))) S := by
  rw [ev_ne S rfl rfl]
  have : deq (.bl a) (.bl b) = decide (a = b) := by cases a <;> cases b <;> rfl
  rw [this]
theorem fEq_bb (a b : Bool) (S : Sto) : fEq (.bl a) (.bl b) S = .ok (.v (.bl (decide (a = b)))) S := by
  rw [ev_eq S rfl rfl]
  have : deq (.bl a) (.bl b) = decide (a = b) := by cases a <;> cases b <;> rfl
  rw [this]
/-- a town within its window -/
def wB (j : J) (x : Lk) : Bool := decide ((spanF j x.2).1 ≤ x.1) && decide (x.1 ≤ (spanF j x.2).2)
end MP

namespace MP
open PySem PySem.Spec
/-! ### evaluation: x[i] = v, chains of three, min, max -/
section
variable (env : Envm) (S : Sto) (i : Nat) (N : PN) (T : PT) (K C : PN)
theorem ok_dPutL (di dv : DE) (h : isOwnL env[i]?) : okO (dPutL i di dv env S) N T K C = okE (dv env S) fun v S1 => okE (di env S1) fun k S2 => mutE env[i]? (fPut k v) fun ds => N (env.set i (.ow (.l ds))) S2 := by
  obtain ⟨ds, h⟩ := h
  unfold dPutL
  cases dv env S with
  | xn c x S1 => exact propext ⟨fun h => False.elim h, fun ⟨_, _, h, _⟩ => (nomatch h)⟩
  | bad => rw [okE_bad]; rfl
  | ok v S1 =>
    rw [okE_ok]
    have hl : listSlot i env S1 = true := by unfold listSlot; rw [h]
    show okO (if listSlot i env S1 = true then _ else _) N T K C = _
    rw [if_pos hl]
    cases di env S1 with
    | xn c x S2 => exact propext ⟨fun h => False.elim h, fun ⟨_, _, h, _⟩ => (nomatch h)⟩
    | bad => rw [okE_bad]; rfl
    | ok k S2 =>
      rw [okE_ok]
      show okO (mutL i (fPut k v) env S2) N T K C = _
      unfold mutL
      rw [h]
      show okO (match fPut k v ds with
        | some ds' => .nx (env.set i (.ow (.l ds'))) S2
        | none => .bad) N T K C = _
      cases hf : fPut k v ds <;> simp only [mutE, hf] <;> rfl
theorem ok_dPut2 (da db du dv : DE) : okO (dPut2 i da db du dv env S) N T K C = okE (du env S) fun u S1 => okE (dv env S1) fun v S2 => okO (dPutL i da (dC u) env S2) (fun e S3 => okO (dPutL i db (dC v) e S3) N T K C) T K C := by
  unfold dPut2
  cases du env S with
  | xn c x S1 => exact propext ⟨fun h => False.elim h, fun ⟨_, _, h, _⟩ => (nomatch h)⟩
  | bad => rw [okE_bad]; rfl
  | ok u S1 =>
    rw [okE_ok]
    show okO (match dv env S1 with
      | .ok v S2 => dSeqS (dPutL i da (dC u)) (dPutL i db (dC v)) env S2
      | .xn _ _ _ => .bad
      | .bad => .bad) N T K C = _
    cases dv env S1 with
    | xn c x S2 => exact propext ⟨fun h => False.elim h, fun ⟨_, _, h, _⟩ => (nomatch h)⟩
    | bad => rw [okE_bad]; rfl
    | ok v S2 =>
      rw [okE_ok]
      exact ok_dSeqS _ _ _ _ _ _ _ _
theorem ev_dChain3 (f f1 f2 : D → D → Sto → Res R) (da db dc dd : DE) : dChain3 f f1 f2 da db dc dd env S = (da env S).bind fun x S1 => (db env S1).bind fun y S2 => (f x y S2).bind fun r S3 => (asBR r S3).bind fun c S3 => if c = true then (dc env S3).bind fun z S4 => (f1 y z S4).bind fun r1 S5 => (asBR r1 S5).bind fun c1 S5 => if c1 = true then (dd env S5).bind fun t S6 => (f2 z t S6).bind fun r2 S7 => (asBR r2 S7).map D.bl else .ok (.bl false) S5 else .ok (.bl false) S3 := by
  unfold dChain3
  congr 1; funext x S1
  congr 1; funext y S2
  congr 1; funext r S3
  cases r with
  | o _ => rfl
  | v d =>
    cases d <;> first | rfl | skip
    rename_i b
    cases b with
    | false => rfl
    | true =>
      show (dc env S3).bind _ = (dc env S3).bind _
      congr 1; funext z S4
      congr 1; funext r1 S5
      cases r1 with
      | o _ => rfl
      | v d1 =>
        cases d1 <;> first | rfl | skip
        rename_i b1
        cases b1 with
        | false => rfl
        | true =>
          show (dd env S5).bind _ = (dd env S5).bind _
          congr 1; funext t S6
          congr 1; funext r2 S7
          cases r2 with
          | o _ => rfl
          | v d2 => cases d2 <;> rfl
end
/-! ### window -/
/-! ### two towns exchanged -/
def swapL (l : List Int) (i j : Nat) : List Int := (l.set i (l.getD j 0)).set j (l.getD i 0)
theorem swapL_len (l : List Int) (i j : Nat) : (swapL l i j).length = l.length := by simp [swapL]
theorem swapL_at {l : List Int} {i j : Nat} (hi : i < l.length) (hj : j < l.length) (q : Nat) : (swapL l i j)[q]? = if q = j then l[i]? else if q = i then l[j]? else l[q]? := by
  unfold swapL
  by_cases c1 : q = j
  · subst c1
    rw [if_pos rfl, List.getElem?_set_self (by simp; exact hj), List.getD_eq_getElem?_getD, List.getElem?_eq_getElem hi]
    rfl
  · rw [if_neg c1, List.getElem?_set_ne fun e => c1 e.symm]
    by_cases c2 : q = i
    · subst c2
      rw [if_pos rfl, List.getElem?_set_self hi, List.getD_eq_getElem?_getD, List.getElem?_eq_getElem hj]
      rfl
    · rw [if_neg c2, List.getElem?_set_ne fun e => c2 e.symm]
theorem swapL_mem {l : List Int} {i j : Nat} (hi : i < l.length) (hj : j < l.length) {p : Int} : p ∈ swapL l i j ↔ p ∈ l := by
  rw [List.mem_iff_getElem?, List.mem_iff_getElem?]
  constructor
  · rintro ⟨q, hq⟩
    rw [swapL_at hi hj] at hq
    split at hq
    · exact ⟨_, hq⟩
    · split at hq
      · exact ⟨_, hq⟩
      · exact ⟨_, hq⟩
  · rintro ⟨q, hq⟩
    by_cases c1 : q = i
    · refine ⟨j, ?_⟩
      rw [swapL_at hi hj, if_pos rfl, ← c1]
      exact hq
    · by_cases c2 : q = j
      · refine ⟨i, ?_⟩
        rw [swapL_at hi hj]
        by_cases c3 : i = j
        · exact absurd (c2.trans c3.symm) c1
        · rw [if_neg c3, if_pos rfl, ← c2]
          exact hq
      · exact ⟨q, by rw [swapL_at hi hj, if_neg c2, if_neg c1]; exact hq⟩
theorem swapL_nd {l : List Int} {i j : Nat} (hi : i < l.length) (hj : j < l.length) (nd : l.Nodup) : (swapL l i j).Nodup := by
  refine List.pairwise_iff_getElem.mpr fun a b ha hb hab e => ?_
  rw [swapL_len] at ha hb
  have e : (swapL l i j)[a]? = (swapL l i j)[b]? := by
    rw [List.getElem?_eq_getElem (by rw [swapL_len]; exact ha), List.getElem?_eq_getElem (by rw [swapL_len]; exact hb), e]
  rw [swapL_at hi hj, swapL_at hi hj] at e
  have key : ∀ x y : Nat, x < l.length → y < l.length → l[x]? = l[y]? → x = y := fun x y hx hy e => by
    have e1 : l[x]? = some l[x] := List.getElem?_eq_getElem hx
    rw [e1] at e
    exact nd_at nd e1 e.symm
  split at e
  · split at e
    · omega
    · split at e
      · have := key _ _ hi hj e; omega
      · have := key _ _ hi hb e; omega
  · split at e
    · split at e
      · have := key _ _ hj hi e; omega
      · split at e
        · omega
        · have := key _ _ hj hb e; omega
    · split at e
      · have := key _ _ ha hi e; omega
      · split at e
        · have := key _ _ ha hj e; omega
        · have := key _ _ ha hb e; omega
theorem Row.swap {n m : Int} {l : List Int} (r : Row n m l) {i j : Nat} (hi : i < l.length) (hj : j < l.length) : Row n m (swapL l i j) := ⟨by rw [swapL_len]; exact r.len, fun p hp => r.inr p ((swapL_mem hi hj).mp hp), swapL_nd hi hj r.nd⟩
end MP

namespace MP
open PySem PySem.Spec
/-! ### _law_same -/
section
variable (S : Sto)
theorem isi_it (i : Int) : bIsi [.int i, .ty "tuple"] S = .ok (.v (.bl false)) S := rfl
theorem isi_il (i : Int) : bIsi [.int i, .ty "list"] S = .ok (.v (.bl false)) S := rfl
theorem isi_ii (i : Int) : bIsi [.int i, .ty "int"] S = .ok (.v (.bl true)) S := rfl
theorem isi_ib (i : Int) : bIsi [.int i, .ty "bool"] S = .ok (.v (.bl false)) S := rfl
theorem isi_i2 (i : Int) : bIsi [.int i, .tup [.ty "list", .ty "tuple"]] S = .ok (.v (.bl false)) S := rfl
theorem isi_i3 (i : Int) : bIsi [.int i, .tup [.ty "bool", .ty "str"]] S = .ok (.v (.bl false)) S := rfl
theorem isi_bt (i : Bool) : bIsi [.bl i, .ty "tuple"] S = .ok (.v (.bl false)) S := rfl
theorem isi_bl (i : Bool) : bIsi [.bl i, .ty "list"] S = .ok (.v (.bl false)) S := rfl
theorem isi_bi (i : Bool) : bIsi [.bl i, .ty "int"] S = .ok (.v (.bl true)) S := rfl
theorem isi_bb (i : Bool) : bIsi [.bl i, .ty "bool"] S = .ok (.v (.bl true)) S := rfl
theorem isi_b2 (i : Bool) : bIsi [.bl i, .tup [.ty "list", .ty "tuple"]] S = .ok (.v (.bl false)) S := rfl
theorem isi_b3 (i : Bool) : bIsi [.bl i, .tup [.ty "bool", .ty "str"]] S = .ok (.v (.bl true)) S := rfl
theorem isi_st (i : Str) : bIsi [.str i, .ty "tuple"] S = .ok (.v (.bl false)) S := rfl
theorem isi_sl (i : Str) : bIsi [.str i, .ty "list"] S = .ok (.v (.bl false)) S := rfl
theorem isi_si (i : Str) : bIsi [.str i, .ty "int"] S = .ok (.v (.bl false)) S := rfl
theorem isi_sb (i : Str) : bIsi [.str i, .ty "bool"] S = .ok (.v (.bl false)) S := rfl
theorem isi_s2 (i : Str) : bIsi [.str i, .tup [.ty "list", .ty "tuple"]] S = .ok (.v (.bl false)) S := rfl
theorem isi_s3 (i : Str) : bIsi [.str i, .tup [.ty "bool", .ty "str"]] S = .ok (.v (.bl true)) S := rfl
theorem isi_nl : bIsi [.non, .ty "list"] S = .ok (.v (.bl false)) S := rfl
theorem isi_nb : bIsi [.non, .ty "bool"] S = .ok (.v (.bl false)) S := rfl
theorem isi_n2 : bIsi [.non, .tup [.ty "list", .ty "tuple"]] S = .ok (.v (.bl false)) S := rfl
theorem isi_n3 : bIsi [.non, .tup [.ty "bool", .ty "str"]] S = .ok (.v (.bl false)) S := rfl
theorem isi_tl (x : List D) : bIsi [.tup x, .ty "list"] S = .ok (.v (.bl false)) S := rfl
theorem isi_t2 (x : List D) : bIsi [.tup x, .tup [.ty "list", .ty "tuple"]] S = .ok (.v (.bl true)) S := rfl
theorem isi_ll (x : List D) : bIsi [.lst x, .ty "list"] S = .ok (.v (.bl true)) S := rfl
theorem isi_lt (x : List D) : bIsi [.lst x, .ty "tuple"] S = .ok (.v (.bl false)) S := rfl
theorem isi_l2 (x : List D) : bIsi [.lst x, .tup [.ty "list", .ty "tuple"]] S = .ok (.v (.bl true)) S := rfl
theorem isNon_bl (b : Bool) : isNon (.bl b) = false := rfl
theorem isNon_lst (b : List D) : isNon (.lst b) = false := rfl
end
/-- what _law_same takes, to a depth -/
def samOk : Nat → D → Bool
  | _, .non => true
  | _, .bl _ => true
  | _, .int _ => true
  | _, .str x => PyData.strOk x
  | k + 1, .tup ds => decide (ds.length ≤ 100000) && ds.all (samOk k)
  | k + 1, .lst ds => decide (ds.length ≤ 100000) && ds.all (samOk k)
  | _, _ => false
def atomD : D → Bool
  | .tup _ => false
  | .lst _ => false
  | _ => true
def bun_0 := And.intro @okE_ok (And.intro @okE_bad (And.intro @okE_bind (And.intro @okE_map (And.intro @okB_some (And.intro @okB_none (And.intro @okO_nx (And.intro @okO_rt (And.intro @okO_bk (And.intro @okO_ct (And.intro @okO_bad (And.intro @sz_nil (And.intro @sz_cons (And.intro @sz_map (And.intro @at_zero (And.intro @at_succ (And.intro @st_zero (And.intro @st_succ (And.intro @ev_dVar (And.intro @ev_dBVar (And.intro @ev_dMv (And.intro @slV_va (And.intro @slB_va (And.intro @slB_l (And.intro @slB_k (And.intro @slB_t (And.intro @slM_va (And.intro @slM_ow (And.intro @ev_dC (And.intro @ev_fz (And.intro @ev_rv (And.intro @val_v (And.intro @val_l (And.intro @val_k (And.intro @val_t (And.intro @ev_toDl (And.intro @ev_toDk (And.intro @ev_toDt (And.intro @ev_dOp (And.intro @ev_dOp2 (And.intro @ev_dUn (And.intro @ev_dNil (And.intro @ev_dCons (And.intro @ev_dTup (And.intro @ev_dLst (And.intro @asB_bl (And.intro @ev_dB (And.intro @ev_dAndT (And.intro @ev_dOrT (And.intro @ev_dNotT (And.intro @ev_dAnd (And.intro @ev_dOr (And.intro @ev_dNot (And.intro @ev_dIf (And.intro @ev_dIfR (And.intro @ev_dCall (And.intro @ev_dBlt (And.intro @ev_dYes (And.intro @ev_dNewK (@ev_dNewT)))))))))))))))))))))))))))))))))))))))))))))))))))))))))))
def bun_1 := And.intro @asBR_bl (And.intro @ev_dChain (And.intro @ev_oNone (And.intro @asI_int (And.intro @ev_oSome (And.intro @slR_lst (And.intro @slR_tup (And.intro @ev_dSl (And.intro @itR_tup (And.intro @itR_lst (And.intro @ev_dSeq (And.intro @ev_dEnum (And.intro @zpR_lst (And.intro @zpR_tup (And.intro @ev_dZip (And.intro @ev_dRange1 (And.intro @ev_dRange2 (And.intro @ev_dMkL (And.intro @ev_dMkT (And.intro @ev_add (And.intro @ev_iadd (And.intro @ev_sub (And.intro @ev_lt (And.intro @ev_le (And.intro @ev_gt (And.intro @ev_ge (And.intro @ev_neg (And.intro @ev_eqI (And.intro @ev_neI (And.intro @ev_isN (And.intro @ev_notN (And.intro @isNon_non (And.intro @isNon_int (And.intro @isNon_tup (And.intro @isNon_str (And.intro @ixR_some (And.intro @ev_ixT (And.intro @ev_ixL (And.intro @ixD_0 (And.intro @ixD_1 (And.intro @ixD_2 (And.intro @ev_lenT (And.intro @ev_lenL (And.intro @ev_lenS (And.intro @ev_lenK (And.intro @ev_listT (And.intro @ev_listL (And.intro @ev_tupleT (And.intro @ev_tupleL (And.intro @ev_abs (And.intro @ev_intI (And.intro @ev_intB (And.intro @ev_max2 (And.intro @ev_min2 (And.intro @ok_dSeqS (And.intro @slOf_v (And.intro @slOf_o (And.intro @ok_dSet (And.intro @ok_dSkip (@ok_dBreak)))))))))))))))))))))))))))))))))))))))))))))))))))))))))))
def bun_2 := And.intro @ok_dCont (And.intro @ok_dRetN (And.intro @ok_dNever (And.intro @ok_dRet (And.intro @ok_dDrop (And.intro @ok_dIfS (And.intro @ok_dFrz (And.intro @ev_frzE (And.intro @frz1_o (And.intro @frz1_v (And.intro @frz1_n (And.intro @ok_dUnp (And.intro @bd_nm (And.intro @bd_tup (And.intro @bd_lst (And.intro @bds_nil (And.intro @bdC_some (And.intro @bds_cons (And.intro @ok_dFor (And.intro @ev_rNil (And.intro @ev_rCons (And.intro @ss_nil (And.intro @ss_cons (And.intro @ok_dPar (And.intro @ok_dAug (And.intro @isOwnL_l (And.intro @ok_dMut1 (And.intro @mutE_l (And.intro @okL_some (And.intro @ev_only (And.intro @onlyR_o (And.intro @okE_only (And.intro @ok_dDropX (And.intro @ok_dSetX (And.intro @ok_dRetX (And.intro @start_c (And.intro @start_n (And.intro @start_0 (And.intro @setL_c (And.intro @setL_n (And.intro @wipe_c (And.intro @wipe_n (And.intro @ev_dLk (And.intro @lkR_k (And.intro @lkR_t (And.intro @ev_dKeys (And.intro @kyR_k (And.intro @kyR_t (And.intro @slB_fk (And.intro @slB_ft (And.intro @ev_isB (And.intro @ev_notB (And.intro @ev_dLenSet (And.intro @ok_dSh (And.intro @shR_o (And.intro @ev_shE (And.intro @shE1_o (And.intro @okE_dXf (And.intro @isNon_ex (@isNon_ex0)))))))))))))))))))))))))))))))))))))))))))))))))))))))))))
def bun_3 := And.intro @okP_some (And.intro @putR_ow (And.intro @ok_dPutD (And.intro @isi_tt (And.intro @isi_nt (And.intro @isi_ss (And.intro @ok_dPutL (And.intro @ok_dPut2 (And.intro @ev_dChain3 (And.intro @isi_it (And.intro @isi_il (And.intro @isi_ii (And.intro @isi_ib (And.intro @isi_i2 (And.intro @isi_i3 (And.intro @isi_bt (And.intro @isi_bl (And.intro @isi_bi (And.intro @isi_bb (And.intro @isi_b2 (And.intro @isi_b3 (And.intro @isi_st (And.intro @isi_sl (And.intro @isi_si (And.intro @isi_sb (And.intro @isi_s2 (And.intro @isi_s3 (And.intro @isi_nl (And.intro @isi_nb (And.intro @isi_n2 (And.intro @isi_n3 (And.intro @isi_tl (And.intro @isi_t2 (And.intro @isi_ll (And.intro @isi_lt (And.intro @isi_l2 (And.intro @isNon_bl (@isNon_lst)))))))))))))))))))))))))))))))))))))
local macro_rules | `(tactic| simp! only [$xs,*] $[$l:location]?) => `(tactic| simp only [bun_0, bun_1, bun_2, bun_3, sv_at, sv_ta, sv_it, sv_ti, sv_dt, sv_df, sv_ft, sv_nt, sv_nn, sv_tt, sv_fn, sv_c0, sv_c1, sv_c2, sv_c3, sv_c4, sv_c5, sv_c6, sv_dT, sv_dF, sv_nT, sv_nF, sv_ifT, sv_ifF, sv_iP, sv_iQ, reduceDIte, reduceIte, reduceCtorEq, Nat.reduceEqDiff, Nat.reduceGT, Nat.reduceSubDiff, Nat.reduceMod, Nat.reduceAdd, Nat.reduceBNe, Nat.reduceLeDiff, Nat.reduceSub, Nat.reduceDiv, Nat.reduceMul, Nat.reduceBEq, Nat.reduceSucc, Nat.reduceLT, Nat.reducePow, Int.reduceGE, Int.reduceToNat, Int.reduceEq, Int.reduceOfNat, Int.reduceGT, Int.reducePow, Int.reduceDiv, Int.reduceMul, Int.reduceBEq, Int.reduceNe, Int.reduceSub, Int.reduceLT, Int.reduceNeg, Int.reduceBNe, Int.reduceAdd, Int.reduceLE, Int.reduceMod, Int.reduceNegSucc, $xs,*] $[$l:location]?)
theorem sp_same {B : Tb} {n : Nat} (hB : B i__law_same_v0 = some q__law_same_v0) : ∀ (k : Nat) (d : D) (S : Sto), samOk k d = true → callN B (n + k + 1) i__law_same_v0 [d, d] S = .ok (.v (.bl true)) S := by
  intro k
  have atom : ∀ (k : Nat) (d : D) (S : Sto), atomD d = true → samOk k d = true → callN B (n + k + 1) i__law_same_v0 [d, d] S = .ok (.v (.bl true)) S := by
    intro k d S h1 h2
    refine eq_of_ok (ok_call (hB.trans rfl) rfl ?_)
    unfold b__law_same_v0
    cases d <;> first | (cases h1; done) | (simp [samOk] at h2; done) | skip
    · have e : ∀ S, fEq .non .non S = .ok (.v (.bl true)) S := fun S => rfl
      simp! only [e, fEq_bb]
    · simp! only [fEq_bb, decide_true]
    · simp! only []
    · rename_i x
      have hx : PyData.strOk x = true := by cases k <;> simpa [samOk] using h2
      have e : (x == x) = true := by simp
      simp! only [fEq_str hx hx, e, fEq_bb, decide_true]
  induction k with
  | zero =>
    intro d S h
    refine atom 0 d S ?_ h
    cases d <;> first | rfl | (simp [samOk] at h)
  | succ k ih =>
    intro d S h
    have seq : ∀ (ds : List D) (S : Sto), (decide (ds.length ≤ 100000) && ds.all (samOk k)) = true → okE (dComp (dZip (dVar 0) (dVar 1)) [2, 3] (.tp [(.nm 2), (.nm 3)]) dYes (fz (dCall (callN B (n + (k + 1))) 213 (dCons (dVar 2) (dCons (dVar 3) dNil)))) [.va (.tup ds), .va (.tup ds), .no, .no] S) (fun r S1 => r = .o (.l (ds.map fun _ => .bl true)) ∧ S1 = S) ∧ okE (dComp (dZip (dVar 0) (dVar 1)) [2, 3] (.tp [(.nm 2), (.nm 3)]) dYes (fz (dCall (callN B (n + (k + 1))) 213 (dCons (dVar 2) (dCons (dVar 3) dNil)))) [.va (.lst ds), .va (.lst ds), .no, .no] S) (fun r S1 => r = .o (.l (ds.map fun _ => .bl true)) ∧ S1 = S) := by
      intro ds S hd
      rw [Bool.and_eq_true, decide_eq_true_eq, List.all_eq_true] at hd
      have z : zipD ds ds = ds.map fun x => D.tup [x, x] := by
        have := zipD_map (fun x : D => x) (fun x => x) ds
        simpa using this
      constructor
      · refine ok_compA ds (fun x => D.tup [x, x]) (fun _ => .bl true) (by simp! only [z]) hd.1 (fun x hx => ?_) ⟨rfl, rfl⟩
        have : callN B (n + (k + 1)) 213 [x, x] S = .ok (.v (.bl true)) S := ih x S (hd.2 x hx)
        simp! only [this]
      · refine ok_compA ds (fun x => D.tup [x, x]) (fun _ => .bl true) (by simp! only [z]) hd.1 (fun x hx => ?_) ⟨rfl, rfl⟩
        have : callN B (n + (k + 1)) 213 [x, x] S = .ok (.v (.bl true)) S := ih x S (hd.2 x hx)
        simp! only [this]
    by_cases ht : atomD d = true
    · exact atom (k + 1) d S ht h
    · refine eq_of_ok (ok_call (hB.trans rfl) rfl ?_)
      unfold b__law_same_v0
      have all1 : ∀ (ds : List D) S, bAll [.lst (ds.map fun _ => .bl true)] S = .ok (.v (.bl true)) S := fun ds S => by
        rw [bAll_map ds (fun _ => true)]
        simp
      cases d <;> first | (exact absurd rfl ht) | skip
      · rename_i ds
        obtain ⟨⟨r, S1, g1, rfl, rfl⟩, _⟩ := seq ds S h
        simp! only [fNe_bb, g1, all1, decide_true]
      · rename_i ds
        obtain ⟨_, ⟨r, S1, g1, rfl, rfl⟩⟩ := seq ds S h
        simp! only [fNe_bb, g1, all1, decide_true]
/-! ### lists of numbers compared -/
/-! ### how many orders there are at most -/
theorem count_le {j : J} (w : JW j) {c s : Nat} (ec : j.n = c) (es : j.m = s) : countF j ≤ (c : Int) ^ s := by
  rw [count_ords w]
  have h1 : (ordsL j).length ≤ (rowsL j.n j.m).length := List.length_filter_le _ _
  rw [ec, es, ← bfs_rows] at h1
  have h2 := bfs_len c s
  have h3 : ((ordsL j).length : Int) ≤ ((c ^ s : Nat) : Int) := Int.ofNat_le.mpr (Nat.le_trans h1 h2)
  rw [Int.natCast_pow] at h3
  exact h3
end MP

namespace MP
open PySem PySem.Spec
/-! ### d.get(k, x) -/
def getR : Option (Option D) → D → Sto → Res D := fun o z S => match o with
  | some (some v) => .ok v S
  | some none => .ok z S
  | none => .bad
theorem ev_dDget (env : Envm) (S : Sto) (dd dk dx : DE) : dDget dd dk dx env S = (dd env S).bind fun d S1 => (dk env S1).bind fun k S2 => (dx env S2).bind fun z S3 => getR (dlook d k) z S3 := rfl
theorem getR_s (v z : D) (S : Sto) : getR (some (some v)) z S = .ok v S := rfl
theorem getR_n (z : D) (S : Sto) : getR (some none) z S = .ok z S := rfl
end MP

namespace MP
open PySem PySem.Spec
/-! ### a dict of numbers -/
def dicK (K : List Lk) : O := .k (keysI (K.map (·.1))) (K.map fun x => .int x.2)
/-! ### placed -/
structure La (B : Tb) : Prop where
  noted : B i_noted = some q_noted
  span : B i_span = some q_span
  sound : B i_is_sound = some q_is_sound
  count : B i_count_orders = some q_count_orders
  plain : B i_plain = some q_plain
def plF (j : J) (ps : List Lk) : Int := (((ordsL j).filter fun l => ps.all fun x => decide (l[x.1.toNat]? = some x.2)).length : Int)
def cloN (x : Lk) : Note := ⟨x.1, true, x.2⟩
def plJ (j : J) (K : List Lk) : J := ⟨j.n, j.m, sortN ((j.N.filter fun x => x.k == false) ++ K.map cloN)⟩
structure PK (j : J) (qs K : List Lk) : Prop where
  nd : (K.map (·.1)).Nodup
  inr : ∀ x ∈ K, 0 ≤ x.1 ∧ x.1 < j.m ∧ 0 ≤ x.2 ∧ x.2 < j.n
  eqv : ∀ l : List Int, (∀ x ∈ K, l[x.1.toNat]? = some x.2) ↔ (∀ x ∈ notedL j true, l[x.1.toNat]? = some x.2) ∧ ∀ x ∈ qs, l[x.1.toNat]? = some x.2
theorem PK.start {j : J} (w : JW j) : PK j [] (notedL j true) := ⟨notedL_nodup w true, fun x hx => noted_inr w hx, fun l => ⟨fun h => ⟨h, fun x hx => (nomatch hx)⟩, fun h => h.1⟩⟩
theorem PK.old {j : J} {qs K : List Lk} (h : PK j qs K) {x : Lk} (hx : x ∈ K) : PK j (qs ++ [x]) K := ⟨h.nd, h.inr, fun l => by
  rw [h.eqv l]
  constructor
  · rintro ⟨h1, h2⟩
    refine ⟨h1, fun y hy => ?_⟩
    rcases List.mem_append.mp hy with hy | hy
    · exact h2 y hy
    · rw [List.mem_singleton.mp hy]
      exact (h.eqv l).mpr ⟨h1, h2⟩ x hx
  · rintro ⟨h1, h2⟩
    exact ⟨h1, fun y hy => h2 y (List.mem_append_left _ hy)⟩⟩
theorem PK.new {j : J} {qs K : List Lk} (h : PK j qs K) {x : Lk} (hx : x.1 ∉ K.map (·.1)) (hr : 0 ≤ x.1 ∧ x.1 < j.m ∧ 0 ≤ x.2 ∧ x.2 < j.n) : PK j (qs ++ [x]) (K ++ [x]) := by
  refine ⟨?_, fun y hy => ?_, fun l => ?_⟩
  · rw [List.map_append, List.nodup_append]
    refine ⟨h.nd, by simp, fun a ha b hb e => ?_⟩
    have : b = x.1 := by simpa using hb
    exact hx (by rw [← this, ← e]; exact ha)
  · rcases List.mem_append.mp hy with hy | hy
    · exact h.inr y hy
    · rw [List.mem_singleton.mp hy]; exact hr
  · have e := h.eqv l
    constructor
    · intro z
      obtain ⟨z1, z2⟩ := e.mp fun y hy => z y (List.mem_append_left _ hy)
      refine ⟨z1, fun y hy => ?_⟩
      rcases List.mem_append.mp hy with hy | hy
      · exact z2 y hy
      · exact z y (List.mem_append_right _ hy)
    · rintro ⟨z1, z2⟩ y hy
      rcases List.mem_append.mp hy with hy | hy
      · exact e.mpr ⟨z1, fun u hu => z2 u (List.mem_append_left _ hu)⟩ y hy
      · exact z2 y (List.mem_append_right _ hy)
theorem PK.jw {j : J} {qs K : List Lk} (h : PK j qs K) (w : JW j) : JW (plJ j K) := by
  have p := sortN_perm ((j.N.filter fun x => x.k == false) ++ K.map cloN)
  refine ⟨w.n0, w.n1, w.m0, w.m1, fun x hx => ?_, ?_⟩
  · rcases List.mem_append.mp (p.mem_iff.mp hx) with hx | hx
    · exact w.inr x (List.mem_filter.mp hx).1
    · obtain ⟨y, hy, rfl⟩ := List.mem_map.mp hx
      exact h.inr y hy
  · refine (p.pairwise_iff fun {x y} z => by rintro ⟨e1, e2⟩; exact z ⟨e1.symm, e2.symm⟩).mpr ?_
    rw [List.pairwise_append]
    refine ⟨w.so.sublist List.filter_sublist, ?_, fun x hx y hy => ?_⟩
    · refine List.pairwise_map.mpr ?_
      have := List.pairwise_map.mp h.nd
      exact this.imp fun {a b} hne e => hne e.1
    · obtain ⟨z, _, rfl⟩ := List.mem_map.mp hy
      have := (List.mem_filter.mp hx).2
      rintro ⟨_, e⟩
      rw [e] at this
      simp [cloN] at this
theorem PK.count {j : J} {qs K : List Lk} (h : PK j qs K) (w : JW j) : countF (plJ j K) = plF j qs := by
  rw [count_ords (h.jw w)]
  unfold plF ordsL
  rw [List.filter_filter]
  congr 2
  show List.filter _ (rowsL j.n j.m) = _
  refine filter_congr' fun l _ => bool_iff ?_
  rw [Bool.and_eq_true, List.all_eq_true, List.all_eq_true, List.all_eq_true]
  have p := sortN_perm ((j.N.filter fun x => x.k == false) ++ K.map cloN)
  have nt : (∀ x ∈ j.N, truB l x = true) ↔ (∀ x ∈ j.N, x.k = false → truB l x = true) ∧ ∀ x ∈ notedL j true, l[x.1.toNat]? = some x.2 := by
    constructor
    · intro z
      refine ⟨fun x hx _ => z x hx, fun y hy => ?_⟩
      obtain ⟨x, hx, hk, rfl⟩ := mem_noted.mp hy
      have := z x hx
      unfold truB at this
      rw [if_pos hk] at this
      simpa using this
    · rintro ⟨z1, z2⟩ x hx
      cases hk : x.k with
      | false => exact z1 x hx hk
      | true =>
        unfold truB
        rw [if_pos hk]
        exact decide_eq_true (z2 (x.t, x.v) (mem_noted.mpr ⟨x, hx, hk, rfl⟩))
  rw [nt]
  constructor
  · intro z
    have zK : ∀ x ∈ K, l[x.1.toNat]? = some x.2 := fun x hx => by
      have := z (cloN x) (p.mem_iff.mpr (List.mem_append_right _ (List.mem_map.mpr ⟨x, hx, rfl⟩)))
      unfold truB cloN at this
      simpa using this
    obtain ⟨y1, y2⟩ := (h.eqv l).mp zK
    exact ⟨fun x hx => decide_eq_true (y2 x hx), fun x hx hk => z x (p.mem_iff.mpr (List.mem_append_left _ (List.mem_filter.mpr ⟨hx, by simp [hk]⟩))), y1⟩
  · rintro ⟨y2, z1, y1⟩ x hx
    have zK := (h.eqv l).mpr ⟨y1, fun x hx => of_decide_eq_true (y2 x hx)⟩
    rcases List.mem_append.mp (p.mem_iff.mp hx) with hx | hx
    · obtain ⟨g1, g2⟩ := List.mem_filter.mp hx
      exact z1 x g1 (by simpa using g2)
    · obtain ⟨y, hy, rfl⟩ := List.mem_map.mp hx
      unfold truB cloN
      simp [zK y hy]
end MP

namespace MP
open PySem PySem.Spec
structure Lt (B : Tb) : Prop where
  poss : B i_is_possible = some q_is_possible
  lookP : B i_look_possible = some q_look_possible
  lookT : B i_look_town = some q_look_town
  look : B i_look = some q_look
  placed : B i_placed = some q_placed
  ways : B i_ways_at = some q_ways_at
def waysF (j : J) (p : Int) : List Int := (rng j.m.toNat).map fun t => plF j [(t, p)]
/-! ### gcd, reduced -/
def euI (m a b : Nat) : Prop := (b ≤ a ∧ a * b < 2 ^ m) ∨ (1 ≤ m ∧ a * b < 2 ^ (m - 1))
def redF (a b : Nat) : Lk := ((a / Nat.gcd a b : Nat), (b / Nat.gcd a b : Nat))
end MP

namespace MP
open PySem PySem.Spec
def cntN (j : J) : Nat := (ordsL j).length
def plN (j : J) (ps : List Lk) : Nat := ((ordsL j).filter fun l => ps.all fun x => decide (l[x.1.toNat]? = some x.2)).length
def befT (j : J) (p q t : Int) : Nat := ((ordsL j).filter fun l => decide (l[t.toNat]? = some p) && !decide (q ∈ l.take t.toNat)).length
def befF (j : J) (p q : Int) : Nat := ((rng j.m.toNat).map (befT j p q)).sum
structure Lc (B : Tb) : Prop where
  gcd : B i_gcd = some q_gcd
  red : B i_reduced = some q_reduced
  chances : B i_chances_of = some q_chances_of
end MP

namespace MP
open PySem PySem.Spec
/-! ### reduced fractions -/
def rx (a b : Nat) : Nat := a / Nat.gcd a b
def ry (a b : Nat) : Nat := b / Nat.gcd a b
theorem ry_pos {a b : Nat} (hb : 0 < b) : 0 < ry a b := Nat.div_pos (Nat.gcd_le_right _ hb) (Nat.gcd_pos_of_pos_right _ hb)
theorem rx_g (a b : Nat) : a = rx a b * Nat.gcd a b := (Nat.div_mul_cancel (Nat.gcd_dvd_left a b)).symm
theorem ry_g (a b : Nat) : b = ry a b * Nat.gcd a b := (Nat.div_mul_cancel (Nat.gcd_dvd_right a b)).symm
theorem red_cross (a b : Nat) : rx a b * b = a * ry a b := by
  have h1 := rx_g a b
  have h2 := ry_g a b
  generalize rx a b = x at *
  generalize ry a b = y at *
  generalize Nat.gcd a b = g at *
  subst h1 h2
  rw [Nat.mul_assoc, Nat.mul_comm g y]
theorem rx_le (a b : Nat) : rx a b ≤ a := Nat.div_le_self _ _
theorem ry_le (a b : Nat) : ry a b ≤ b := Nat.div_le_self _ _
/-! ### sum_of -/
structure Fr (F M : Nat) (x : Lk) (a : Nat) : Prop where
  p : ∃ u v : Nat, x = ((u : Int), (v : Int)) ∧ 0 < v ∧ u ≤ M ∧ v ≤ M ∧ u * F = a * v
theorem Fr.red {a F M : Nat} (hF : 0 < F) (ha : a ≤ M) (hM : F ≤ M) : Fr F M (redF a F) a := ⟨rx a F, ry a F, rfl, ry_pos hF, Nat.le_trans (rx_le _ _) ha, Nat.le_trans (ry_le _ _) hM, red_cross a F⟩
/-! ### before: which orders -/
def bB (l : List Int) (p q : Int) : Nat → Bool
  | 0 => false
  | k + 1 => bB l p q k || (decide (l[k]? = some p) && !decide (q ∈ l.take k))
def befB (j : J) (p q : Int) (l : List Int) : Bool := bB l p q j.m.toNat
structure Pos (l : List Int) (p : Int) (t : Nat) : Prop where
  at_ : l[t]? = some p
end MP

namespace MP
open PySem PySem.Spec
/-! ### index, any -/
theorem ev_dIndex (env : Envm) (S : Sto) (dc dd : DE) : dIndex dc dd env S = (dc env S).bind fun c S1 => (dd env S1).bind fun d S2 => fIndex c d S2 := rfl
end MP

namespace MP
open PySem PySem.Spec
/-! ### rows that are no orders -/
def wayL (j : J) (l : List Int) : List Int := (rng l.length).map fun i => cntA j (l.take (i.toNat + 1))
/-- a row of towns, each once -/
structure Tw (j : J) (l : List Int) : Prop where
  nd : l.Nodup
  inr : ∀ p ∈ l, 0 ≤ p ∧ p < j.n
  len : l.length ≤ j.m.toNat
theorem Tw.take {j : J} {l : List Int} (h : Tw j l) (i : Nat) : Tw j (l.take i) := ⟨h.nd.sublist (List.take_sublist _ _), fun p hp => h.inr p ((List.take_sublist _ _).subset hp), by rw [List.length_take]; have := h.len; omega⟩
theorem Ord.tw {j : J} {l : List Int} (h : Ord j l) : Tw j l := ⟨h.nd, h.inr, by have := h.len; omega⟩
theorem Row.tw {j : J} {l : List Int} (h : Row j.n j.m l) : Tw j l := ⟨h.nd, h.inr, by have := h.len; omega⟩
def misD (j : J) (l : List Int) : D := if 0 ∈ wayL j l then .int ((wayL j l).idxOf 0 : Nat) else .non
/-! ### a journal as lists -/
def noteLD (x : Note) : D := .lst [.int x.t, .str (kd x.k), .int x.v]
def jLD (j : J) : D := .lst [.int j.n, .int j.m, .lst (j.N.map noteLD)]
def gL (j : J) : D → D := fun d => match d with
  | .int x => .int x
  | _ => .lst (j.N.map noteLD)
end MP

namespace MP
open PySem PySem.Spec
/-! ### calls by keywords -/
theorem okE_dPerm {env : Envm} {S : Sto} (pm : List Nat) (da : DA) (Q : List D → Sto → Prop) : okE (dPerm pm da env S) Q = okE (da env S) fun ds S1 => Q (permD pm ds) S1 := okE_map _ _ _
theorem permD_nil (ds : List D) : permD [] ds = [] := rfl
theorem permD_cons (i : Nat) (pm : List Nat) (ds : List D) : permD (i :: pm) ds = ds.getD i .non :: permD pm ds := rfl
theorem getD_z (d : D) (ds : List D) : (d :: ds).getD 0 .non = d := rfl
theorem getD_s (d : D) (ds : List D) (i : Nat) : (d :: ds).getD (i + 1) .non = ds.getD i .non := rfl
end MP

namespace MP
open PySem PySem.Spec
/-! ### the laws' own windows -/
/-! ### all evidence -/
def shutL (j : J) : List Int := (j.N.filter fun x => x.k == true).map (·.v)
def nevF (j : J) (p : Int) : Bool := decide (p ∈ shutL j) && decide ((spanF j p).2 < (spanF j p).1)
def prfL (j : J) : List D := ((rng j.n.toNat).filter (nevF j)).map (fun p => D.tup [.str "never", .int p]) ++ ((rng j.m.toNat).filter (fewF j)).map fun t => D.tup [.str "few", .int t]
/-! ### Impossible -/
/-- what the defs about evidence lean on -/
structure Lv (B : Tb) : Prop where
  noted : B i_noted = some q_noted
  span : B i_span = some q_span
  wind : B i_windows = some q_windows
  few : B i_are_few = some q_are_few
  lost : B i_lost_towns = some q_lost_towns
  evid : B i_evidence = some q_evidence
end MP

namespace MP
open PySem PySem.Spec
/-! ### data is equal to itself -/
/-! ### what _law_same takes fits -/
/-! ### the third shape of a law -/
def bun_4 := And.intro @ev_dDget (And.intro @getR_s (And.intro @getR_n (And.intro @ev_dIndex (And.intro @okE_dPerm (And.intro @permD_nil (And.intro @permD_cons (And.intro @getD_z (@getD_s))))))))
local macro_rules | `(tactic| simp! only [$xs,*] $[$l:location]?) => `(tactic| simp only [bun_0, bun_1, bun_2, bun_3, bun_4, sv_at, sv_ta, sv_it, sv_ti, sv_dt, sv_df, sv_ft, sv_nt, sv_nn, sv_tt, sv_fn, sv_c0, sv_c1, sv_c2, sv_c3, sv_c4, sv_c5, sv_c6, sv_dT, sv_dF, sv_nT, sv_nF, sv_ifT, sv_ifF, sv_iP, sv_iQ, reduceDIte, reduceIte, reduceCtorEq, Nat.reduceEqDiff, Nat.reduceGT, Nat.reduceSubDiff, Nat.reduceMod, Nat.reduceAdd, Nat.reduceBNe, Nat.reduceLeDiff, Nat.reduceSub, Nat.reduceDiv, Nat.reduceMul, Nat.reduceBEq, Nat.reduceSucc, Nat.reduceLT, Nat.reducePow, Int.reduceGE, Int.reduceToNat, Int.reduceEq, Int.reduceOfNat, Int.reduceGT, Int.reducePow, Int.reduceDiv, Int.reduceMul, Int.reduceBEq, Int.reduceNe, Int.reduceSub, Int.reduceLT, Int.reduceNeg, Int.reduceBNe, Int.reduceAdd, Int.reduceLE, Int.reduceMod, Int.reduceNegSucc, $xs,*] $[$l:location]?)
theorem lawC {B : Tb} {ns : List Int} {rid lid T u : Nat} {t r : Int} {x : Str} (h0 : 0 ≤ r) (h1 : r ≤ 100) (hl : ns.length ≤ 63) (ht : t = T) (hT : T ≤ 100) (hC : B i__law_cell_at = some q__law_cell_at) (hX : B i__law_box = some q__law_box)
    (hL : B lid = some ⟨x, 1, 4, fun C => (dSeqS
  (dFor (dRange1 (fz (dOp fAdd (dC (.int 1)) (fz (dBlt bMin2 (dCons (dC (.int r)) (dCons (fz (dBlt bLen (dCons (dBVar 0) dNil))) dNil))))))) (.nm 1) (dSeqS
  (dSh 2 (dCall C 24 (dCons (dVar 0) (dCons (dVar 1) dNil))))
  (dIfS (dNotT (dB (fz (dBlt bAll (dCons (fz (dComp (dRange1 (dC (.int t))) [3] (.nm 3) dYes (fz (dCall C rid (dCons (dVar 2) dNil))))) dNil))))) (dRet (rv (dC (.bl false)))) dSkip)))
  (dRet (rv (dC (.bl true)))))⟩)
    (hu : u ≤ 10000000000) (hR : ∀ S b k, Bx S b (k + u) → ∃ S', callN B 59 rid [.loc b] S = .ok (.v (.bl true)) S' ∧ Bx S' b k) : ∃ S', callN B 60 lid [.scr ns] [] = .ok (.v (.bl true)) S' := by
  suffices h : okE (callN B 60 lid [.scr ns] []) fun x _ => x = .v (.bl true) by
    obtain ⟨x, S1, g1, rfl⟩ := h
    exact ⟨_, g1⟩
  refine ok_call hL rfl ?_
  simp! only []
  obtain ⟨q, eq⟩ : ∃ q : Nat, 1 + (if (ns.length : Int) < r then (ns.length : Int) else r) = q := ⟨(1 + (if (ns.length : Int) < r then (ns.length : Int) else r)).toNat, by split <;> omega⟩
  have hq : q ≤ 101 := by
    split at eq <;> omega
  rw [eq, rg1_i [] (by omega)]
  simp! only []
  rw [rangeD_rng]
  refine ok_for0 [1, 2] (rng q) D.int (fun i vs S => ∃ a c, vs = [a, c]) [.no, .no] rfl ⟨.no, .no, rfl⟩ ?_ ?_
  · rintro N1 K1 T1 hK hT' j p vs S hp ⟨a, c, rfl⟩ hN
    obtain ⟨hj, rfl⟩ := rng_succ_get hp
    obtain ⟨x, y, hx, bx⟩ := sp_box (B := B) (n := 57) (S := S) (ns := ns) (k := j) hC hX
    have bx : callN B 59 24 [.scr ns, .int j] S = .ok (.o (.l [.int x, .int y, .int 0])) S := bx
    simp! only [bx]
    refine ok_compI (rng T) D.int (fun i ys S' => i ≤ T → (∀ y ∈ ys, y = .bl true) ∧ Bx S' S.length ((T - i) * u)) ?_ (by rw [rng_len]; omega) (fun _ => ⟨fun y hy => (nomatch hy), ?_⟩) ?_ ?_
    · simp! only [ht]
      rw [rg1_i _ (by omega)]
      simp! only [rangeD_rng]
    · refine ⟨x, y, 0, by simp, hx, by decide, ?_⟩
      have h1 : (T - 0) * u ≤ 100 * 10000000000 := Nat.mul_le_mul (by omega) hu
      omega
    · rintro i q ys S1 hq hI
      obtain ⟨hi, rfl⟩ := rng_succ_get hq
      obtain ⟨m1, m2⟩ := hI (by omega)
      obtain ⟨S2, r1, r2⟩ := hR S1 S.length ((T - (i + 1)) * u) (m2.mono (by rw [show T - i = (T - (i + 1)) + 1 by omega, Nat.succ_mul]; omega))
      simp! only [r1]
      refine fun _ => ⟨fun y hy => ?_, r2⟩
      rcases List.mem_append.mp hy with hy | hy
      · exact m1 y hy
      · exact List.mem_singleton.mp hy
    · intro ys S1 hI
      rw [rng_len] at hI
      simp! only [bAll_true (hI (Nat.le_refl _)).1]
      exact hN [_, _] _ ⟨_, _, rfl⟩
  · rintro vs S ⟨a, c, rfl⟩
    simp! only []
end MP

namespace MP
open PySem PySem.Spec
/-! ### number_of, the row a list or a tuple -/
/-! ### all orders of a small journal -/
theorem ev_dIndexD (env : Envm) (S : Sto) (dc dd : DE) : dIndexD dc dd env S = (dc env S).bind fun c S1 => (dd env S1).bind fun d S2 => fIndexD c d S2 := rfl
/-! ### the worst place of a row -/
/-! ### repr -/
end MP

namespace MP
open PySem PySem.Spec
/-! ### how long a repr is -/
mutual
def wD : D → Nat
  | .int _ => 1921
  | .str x => 10 * x.length + 2
  | .tup l => 3 + wDs l
  | .lst l => 3 + wDs l
  | _ => 5
def wDs : List D → Nat
  | [] => 0
  | d :: ds => wD d + 2 + wDs ds
end
/-- what can be shown -/
def shN : Nat → D → Bool
  | _, .non => true
  | _, .bl _ => true
  | _, .int i => decide (i.natAbs.log2 < 1920)
  | _, .str x => PyData.strOk x
  | n + 1, .tup ds => ds.all (shN n)
  | n + 1, .lst ds => ds.all (shN n)
  | _, _ => false
end MP

namespace MP
open PySem PySem.Spec
/-! ### a loop that ends by an exception -/
section
variable {env : Envm} {S : Sto} {P : D → Sto → Prop}
end
end MP

namespace MP
open PySem PySem.Spec
/-! ### notes that are there, notes that are not -/
end MP

namespace MP
open PySem PySem.Spec
/-! ### lists that are lent -/
theorem okE_dLend {env : Envm} {S : Sto} (de : DE) (Q : D → Sto → Prop) : okE (dLend de env S) Q = okE (de (env.map (lendSl S)) []) fun d _ => okE (scR d S) Q := by
  unfold dLend
  cases de (env.map (lendSl S)) [] with
  | ok d S1 => rw [okE_ok]
  | xn c x S1 => rw [show (okE (Res.xn c x S1) fun d _ => okE (scR d S) Q) = False from propext ⟨fun ⟨_, _, h, _⟩ => (nomatch h), fun h => h.elim⟩]; exact okE_bad _
  | bad => rw [okE_bad]; exact (okE_bad _).symm
theorem scR_bl (b : Bool) (S : Sto) : scR (.bl b) S = .ok (.bl b) S := rfl
theorem lmap_n (S : Sto) : ([] : Envm).map (lendSl S) = [] := rfl
theorem lmap_c (S : Sto) (s : Sl) (e : Envm) : (s :: e).map (lendSl S) = lendSl S s :: e.map (lendSl S) := rfl
theorem lend_no (S : Sto) : lendSl S .no = .no := rfl
theorem lend_int (S : Sto) (i : Int) : lendSl S (.va (.int i)) = .va (.int i) := lendSl_id rfl
theorem lend_bl (S : Sto) (i : Bool) : lendSl S (.va (.bl i)) = .va (.bl i) := lendSl_id rfl
theorem lend_str (S : Sto) (x : Str) : lendSl S (.va (.str x)) = .va (.str x) := lendSl_id rfl
theorem Bx.lt {S : Sto} {b k : Nat} (h : Bx S b k) : b < S.length := by
  obtain ⟨u, v, w, h1, _⟩ := h.ex
  exact (List.getElem?_eq_some_iff.mp h1).1
theorem Bx.put {S : Sto} {b k n : Nat} (h : Bx S b k) (ne : n ≠ b) (x : O) : Bx (S.set n x) b k := by
  obtain ⟨u, v, w, h1, h2, h3, h4⟩ := h.ex
  exact ⟨u, v, w, by rw [List.getElem?_set_ne ne]; exact h1, h2, h3, h4⟩
end MP

namespace K15
open PySem PySem.Spec PyProof.Rows L2 MP
def top (i : Nat) : Stmt := PySem.Challenge.pw_lastroads_k15_errors_by_hand.main.body.getD i (.Pass ⟨0, 0, 0, 0⟩)

def b__law_flags (C : Calls) : DS :=
  (dSeqS
  (dSet 1 (dLst (dCons (fz (dBlt (bIsiX [("BadText", "ValueError"), ("BadLine", "ValueError"), ("Impossible", "ValueError"), ("Misfit", "ValueError"), ("Noted", "ValueError"), ("OtherTowns", "ValueError"), ("NoTown", "LookupError"), ("NoTime", "LookupError"), ("NoNote", "LookupError"), ("NoNumber", "LookupError"), ("NoOperation", "LookupError"), ("Blocked", "RuntimeError"), ("Closed", "RuntimeError"), ("NoLeaf", "RuntimeError"), ("TooMany", "OverflowError")]) (dCons (dBVar 0) (dCons (dC (.cl "BadLine")) dNil)))) (dCons (fz (dBlt (bIsiX [("BadText", "ValueError"), ("BadLine", "ValueError"), ("Impossible", "ValueError"), ("Misfit", "ValueError"), ("Noted", "ValueError"), ("OtherTowns", "ValueError"), ("NoTown", "LookupError"), ("NoTime", "LookupError"), ("NoNote", "LookupError"), ("NoNumber", "LookupError"), ("NoOperation", "LookupError"), ("Blocked", "RuntimeError"), ("Closed", "RuntimeError"), ("NoLeaf", "RuntimeError"), ("TooMany", "OverflowError")]) (dCons (dBVar 0) (dCons (dC (.cl "BadText")) dNil)))) (dCons (fz (dBlt (bIsiX [("BadText", "ValueError"), ("BadLine", "ValueError"), ("Impossible", "ValueError"), ("Misfit", "ValueError"), ("Noted", "ValueError"), ("OtherTowns", "ValueError"), ("NoTown", "LookupError"), ("NoTime", "LookupError"), ("NoNote", "LookupError"), ("NoNumber", "LookupError"), ("NoOperation", "LookupError"), ("Blocked", "RuntimeError"), ("Closed", "RuntimeError"), ("NoLeaf", "RuntimeError"), ("TooMany", "OverflowError")]) (dCons (dBVar 0) (dCons (dC (.cl "Blocked")) dNil)))) (dCons (fz (dBlt (bIsiX [("BadText", "ValueError"), ("BadLine", "ValueError"), ("Impossible", "ValueError"), ("Misfit", "ValueError"), ("Noted", "ValueError"), ("OtherTowns", "ValueError"), ("NoTown", "LookupError"), ("NoTime", "LookupError"), ("NoNote", "LookupError"), ("NoNumber", "LookupError"), ("NoOperation", "LookupError"), ("Blocked", "RuntimeError"), ("Closed", "RuntimeError"), ("NoLeaf", "RuntimeError"), ("TooMany", "OverflowError")]) (dCons (dBVar 0) (dCons (dC (.cl "Closed")) dNil)))) dNil))))))
  (dSeqS
  (dSet 1 (dOp fAdd (dBVar 1) (fz (dLst (dCons (fz (dBlt (bIsiX [("BadText", "ValueError"), ("BadLine", "ValueError"), ("Impossible", "ValueError"), ("Misfit", "ValueError"), ("Noted", "ValueError"), ("OtherTowns", "ValueError"), ("NoTown", "LookupError"), ("NoTime", "LookupError"), ("NoNote", "LookupError"), ("NoNumber", "LookupError"), ("NoOperation", "LookupError"), ("Blocked", "RuntimeError"), ("Closed", "RuntimeError"), ("NoLeaf", "RuntimeError"), ("TooMany", "OverflowError")]) (dCons (dBVar 0) (dCons (dC (.cl "Impossible")) dNil)))) (dCons (fz (dBlt (bIsiX [("BadText", "ValueError"), ("BadLine", "ValueError"), ("Impossible", "ValueError"), ("Misfit", "ValueError"), ("Noted", "ValueError"), ("OtherTowns", "ValueError"), ("NoTown", "LookupError"), ("NoTime", "LookupError"), ("NoNote", "LookupError"), ("NoNumber", "LookupError"), ("NoOperation", "LookupError"), ("Blocked", "RuntimeError"), ("Closed", "RuntimeError"), ("NoLeaf", "RuntimeError"), ("TooMany", "OverflowError")]) (dCons (dBVar 0) (dCons (dC (.cl "Misfit")) dNil)))) (dCons (fz (dBlt (bIsiX [("BadText", "ValueError"), ("BadLine", "ValueError"), ("Impossible", "ValueError"), ("Misfit", "ValueError"), ("Noted", "ValueError"), ("OtherTowns", "ValueError"), ("NoTown", "LookupError"), ("NoTime", "LookupError"), ("NoNote", "LookupError"), ("NoNumber", "LookupError"), ("NoOperation", "LookupError"), ("Blocked", "RuntimeError"), ("Closed", "RuntimeError"), ("NoLeaf", "RuntimeError"), ("TooMany", "OverflowError")]) (dCons (dBVar 0) (dCons (dC (.cl "NoLeaf")) dNil)))) dNil)))))))
  (dSeqS
  (dSet 1 (dOp fAdd (dBVar 1) (fz (dLst (dCons (fz (dBlt (bIsiX [("BadText", "ValueError"), ("BadLine", "ValueError"), ("Impossible", "ValueError"), ("Misfit", "ValueError"), ("Noted", "ValueError"), ("OtherTowns", "ValueError"), ("NoTown", "LookupError"), ("NoTime", "LookupError"), ("NoNote", "LookupError"), ("NoNumber", "LookupError"), ("NoOperation", "LookupError"), ("Blocked", "RuntimeError"), ("Closed", "RuntimeError"), ("NoLeaf", "RuntimeError"), ("TooMany", "OverflowError")]) (dCons (dBVar 0) (dCons (dC (.cl "NoNote")) dNil)))) (dCons (fz (dBlt (bIsiX [("BadText", "ValueError"), ("BadLine", "ValueError"), ("Impossible", "ValueError"), ("Misfit", "ValueError"), ("Noted", "ValueError"), ("OtherTowns", "ValueError"), ("NoTown", "LookupError"), ("NoTime", "LookupError"), ("NoNote", "LookupError"), ("NoNumber", "LookupError"), ("NoOperation", "LookupError"), ("Blocked", "RuntimeError"), ("Closed", "RuntimeError"), ("NoLeaf", "RuntimeError"), ("TooMany", "OverflowError")]) (dCons (dBVar 0) (dCons (dC (.cl "NoNumber")) dNil)))) (dCons (fz (dBlt (bIsiX [("BadText", "ValueError"), ("BadLine", "ValueError"), ("Impossible", "ValueError"), ("Misfit", "ValueError"), ("Noted", "ValueError"), ("OtherTowns", "ValueError"), ("NoTown", "LookupError"), ("NoTime", "LookupError"), ("NoNote", "LookupError"), ("NoNumber", "LookupError"), ("NoOperation", "LookupError"), ("Blocked", "RuntimeError"), ("Closed", "RuntimeError"), ("NoLeaf", "RuntimeError"), ("TooMany", "OverflowError")]) (dCons (dBVar 0) (dCons (dC (.cl "NoOperation")) dNil)))) dNil)))))))
  (dSeqS
  (dSet 1 (dOp fAdd (dBVar 1) (fz (dLst (dCons (fz (dBlt (bIsiX [("BadText", "ValueError"), ("BadLine", "ValueError"), ("Impossible", "ValueError"), ("Misfit", "ValueError"), ("Noted", "ValueError"), ("OtherTowns", "ValueError"), ("NoTown", "LookupError"), ("NoTime", "LookupError"), ("NoNote", "LookupError"), ("NoNumber", "LookupError"), ("NoOperation", "LookupError"), ("Blocked", "RuntimeError"), ("Closed", "RuntimeError"), ("NoLeaf", "RuntimeError"), ("TooMany", "OverflowError")]) (dCons (dBVar 0) (dCons (dC (.cl "NoTime")) dNil)))) (dCons (fz (dBlt (bIsiX [("BadText", "ValueError"), ("BadLine", "ValueError"), ("Impossible", "ValueError"), ("Misfit", "ValueError"), ("Noted", "ValueError"), ("OtherTowns", "ValueError"), ("NoTown", "LookupError"), ("NoTime", "LookupError"), ("NoNote", "LookupError"), ("NoNumber", "LookupError"), ("NoOperation", "LookupError"), ("Blocked", "RuntimeError"), ("Closed", "RuntimeError"), ("NoLeaf", "RuntimeError"), ("TooMany", "OverflowError")]) (dCons (dBVar 0) (dCons (dC (.cl "NoTown")) dNil)))) (dCons (fz (dBlt (bIsiX [("BadText", "ValueError"), ("BadLine", "ValueError"), ("Impossible", "ValueError"), ("Misfit", "ValueError"), ("Noted", "ValueError"), ("OtherTowns", "ValueError"), ("NoTown", "LookupError"), ("NoTime", "LookupError"), ("NoNote", "LookupError"), ("NoNumber", "LookupError"), ("NoOperation", "LookupError"), ("Blocked", "RuntimeError"), ("Closed", "RuntimeError"), ("NoLeaf", "RuntimeError"), ("TooMany", "OverflowError")]) (dCons (dBVar 0) (dCons (dC (.cl "Noted")) dNil)))) dNil)))))))
  (dRet (dOp fAdd (dBVar 1) (fz (dLst (dCons (fz (dBlt (bIsiX [("BadText", "ValueError"), ("BadLine", "ValueError"), ("Impossible", "ValueError"), ("Misfit", "ValueError"), ("Noted", "ValueError"), ("OtherTowns", "ValueError"), ("NoTown", "LookupError"), ("NoTime", "LookupError"), ("NoNote", "LookupError"), ("NoNumber", "LookupError"), ("NoOperation", "LookupError"), ("Blocked", "RuntimeError"), ("Closed", "RuntimeError"), ("NoLeaf", "RuntimeError"), ("TooMany", "OverflowError")]) (dCons (dBVar 0) (dCons (dC (.cl "OtherTowns")) dNil)))) (dCons (fz (dBlt (bIsiX [("BadText", "ValueError"), ("BadLine", "ValueError"), ("Impossible", "ValueError"), ("Misfit", "ValueError"), ("Noted", "ValueError"), ("OtherTowns", "ValueError"), ("NoTown", "LookupError"), ("NoTime", "LookupError"), ("NoNote", "LookupError"), ("NoNumber", "LookupError"), ("NoOperation", "LookupError"), ("Blocked", "RuntimeError"), ("Closed", "RuntimeError"), ("NoLeaf", "RuntimeError"), ("TooMany", "OverflowError")]) (dCons (dBVar 0) (dCons (dC (.cl "TooMany")) dNil)))) dNil))))))))))
def q__law_flags : FD := ⟨"_law_flags", 1, 2, b__law_flags⟩

def b__law_one_right_k15 (C : Calls) : DS :=
  (dSeqS
  (dIfS (dB (fz (dOp fNe (dCount (fz (dCall C 64 (dCons (dVar 0) dNil))) (dC (.bl true))) (dC (.int 1))))) (dRet (rv (dC (.bl false)))) dSkip)
  (dSeqS
  (dSet 2 (dLst (dCons (fz (dBlt (bIsiX [("BadText", "ValueError"), ("BadLine", "ValueError"), ("Impossible", "ValueError"), ("Misfit", "ValueError"), ("Noted", "ValueError"), ("OtherTowns", "ValueError"), ("NoTown", "LookupError"), ("NoTime", "LookupError"), ("NoNote", "LookupError"), ("NoNumber", "LookupError"), ("NoOperation", "LookupError"), ("Blocked", "RuntimeError"), ("Closed", "RuntimeError"), ("NoLeaf", "RuntimeError"), ("TooMany", "OverflowError")]) (dCons (dBVar 0) (dCons (dC (.ty "ValueError")) dNil)))) (dCons (fz (dBlt (bIsiX [("BadText", "ValueError"), ("BadLine", "ValueError"), ("Impossible", "ValueError"), ("Misfit", "ValueError"), ("Noted", "ValueError"), ("OtherTowns", "ValueError"), ("NoTown", "LookupError"), ("NoTime", "LookupError"), ("NoNote", "LookupError"), ("NoNumber", "LookupError"), ("NoOperation", "LookupError"), ("Blocked", "RuntimeError"), ("Closed", "RuntimeError"), ("NoLeaf", "RuntimeError"), ("TooMany", "OverflowError")]) (dCons (dBVar 0) (dCons (dC (.ty "LookupError")) dNil)))) (dCons (fz (dBlt (bIsiX [("BadText", "ValueError"), ("BadLine", "ValueError"), ("Impossible", "ValueError"), ("Misfit", "ValueError"), ("Noted", "ValueError"), ("OtherTowns", "ValueError"), ("NoTown", "LookupError"), ("NoTime", "LookupError"), ("NoNote", "LookupError"), ("NoNumber", "LookupError"), ("NoOperation", "LookupError"), ("Blocked", "RuntimeError"), ("Closed", "RuntimeError"), ("NoLeaf", "RuntimeError"), ("TooMany", "OverflowError")]) (dCons (dBVar 0) (dCons (dC (.ty "RuntimeError")) dNil)))) dNil)))))
  (dSeqS
  (dMut1 2 fApp (fz (dBlt (bIsiX [("BadText", "ValueError"), ("BadLine", "ValueError"), ("Impossible", "ValueError"), ("Misfit", "ValueError"), ("Noted", "ValueError"), ("OtherTowns", "ValueError"), ("NoTown", "LookupError"), ("NoTime", "LookupError"), ("NoNote", "LookupError"), ("NoNumber", "LookupError"), ("NoOperation", "LookupError"), ("Blocked", "RuntimeError"), ("Closed", "RuntimeError"), ("NoLeaf", "RuntimeError"), ("TooMany", "OverflowError")]) (dCons (dBVar 0) (dCons (dC (.ty "OverflowError")) dNil)))))
  (dSeqS
  (dSet 3 (dOp fMul (fz (dLst (dCons (dC (.bl false)) dNil))) (dC (.int 4))))
  (dSeqS
  (dPutL 3 (dVar 1) (dC (.bl true)))
  (dRet (rv (dAnd (fz (dOp fEq (dBVar 2) (dBVar 3))) (dNot (fz (dBlt (bIsiM [("BadText", "ValueError"), ("BadLine", "ValueError"), ("Impossible", "ValueError"), ("Misfit", "ValueError"), ("Noted", "ValueError"), ("OtherTowns", "ValueError"), ("NoTown", "LookupError"), ("NoTime", "LookupError"), ("NoNote", "LookupError"), ("NoNumber", "LookupError"), ("NoOperation", "LookupError"), ("Blocked", "RuntimeError"), ("Closed", "RuntimeError"), ("NoLeaf", "RuntimeError"), ("TooMany", "OverflowError")]) (dCons (dBVar 0) (dCons (dTup (dCons (dC (.ty "IndexError")) (dCons (dC (.ty "KeyError")) (dCons (dC (.ty "NotImplementedError")) dNil)))) dNil)))))))))))))
def q__law_one_right_k15 : FD := ⟨"_law_one_right", 2, 4, b__law_one_right_k15⟩

def b__law_right_k15 (C : Calls) : DS :=
  (dSeqS
  (dPar [5, 6] (rCons (dCall C 238 (dCons (dVar 0) (dCons (dC (.int 13)) dNil))) (rCons (dCall C 238 (dCons (dVar 0) (dCons (fz (dOp fPow (dC (.int 10)) (dC (.int 9)))) dNil))) rNil)))
  (dSeqS
  (dSet 1 (dLst (dCons (dC (.str "x")) (dCons (dVar 5) (dCons (dTup (dCons (dC (.str "never")) (dCons (dVar 5) dNil))) (dCons (dVar 5) (dCons (dTup (dCons (dVar 5) (dCons (dC (.str "end")) (dCons (fz (dOp fAdd (dBVar 5) (dC (.int 1)))) dNil)))) (dCons (fz (dOp fSub (dBVar 6) (dC (.int 500)))) (dCons (fz (dOp fSub (dBVar 6) (dC (.int 7)))) dNil)))))))))
  (dSeqS
  (dSet 1 (dOp fAdd (dBVar 1) (fz (dLst (dCons (dTup (dCons (dVar 5) (dCons (dC (.str "closed")) (dCons (dVar 5) dNil)))) (dCons (dVar 6) dNil))))))
  (dSeqS
  (dSet 1 (dOp fAdd (dBVar 1) (fz (dLst (dCons (fz (dOp fAdd (dC (.int 61)) (dBVar 5))) (dCons (dTup (dCons (dVar 5) (dCons (fz (dOp fAdd (dBVar 5) (dC (.int 1)))) dNil))) (dCons (dVar 5) (dCons (dVar 5) (dCons (fz (dOp fAdd (dC (.int 301)) (dBVar 6))) dNil)))))))))
  (dSeqS
  (dSet 2 (dLst (dCons (dNewX "BadText" "text" fmtRD (fz (dOp fIx (dBVar 1) (dC (.int 0))))) (dCons (dNewX "BadLine" "number" fmtD (fz (dOp fIx (dBVar 1) (dC (.int 1))))) (dCons (dNewX "Impossible" "evidence" fmtD (fz (dOp fIx (dBVar 1) (dC (.int 2))))) (dCons (dNewX "Misfit" "time" fmtD (fz (dOp fIx (dBVar 1) (dC (.int 3))))) (dCons (dNewX "Noted" "note" fmtD (fz (dOp fIx (dBVar 1) (dC (.int 4))))) dNil)))))))
  (dSeqS
  (dSet 2 (dOp fAdd (dBVar 2) (fz (dLst (dCons (dNewX "NoTown" "town" fmtD (fz (dOp fIx (dBVar 1) (dC (.int 5))))) (dCons (dNewX "NoTime" "time" fmtD (fz (dOp fIx (dBVar 1) (dC (.int 6))))) (dCons (dNewX "NoNote" "note" fmtD (fz (dOp fIx (dBVar 1) (dC (.int 7))))) (dCons (dNewX "NoNumber" "number" fmtD (fz (dOp fIx (dBVar 1) (dC (.int 8))))) dNil))))))))
  (dSeqS
  (dSet 2 (dOp fAdd (dBVar 2) (fz (dLst (dCons (dNewX "NoOperation" "many" fmtD (fz (dOp fIx (dBVar 1) (dC (.int 9))))) (dCons (dNewX "Blocked" "pair" fmtD (fz (dOp fIx (dBVar 1) (dC (.int 10))))) (dCons (dNewX "Closed" "town" fmtD (fz (dOp fIx (dBVar 1) (dC (.int 11))))) (dCons (dNewX "NoLeaf" "town" fmtD (fz (dOp fIx (dBVar 1) (dC (.int 12))))) dNil))))))))
  (dSeqS
  (dMut1 2 fApp (dNewX "TooMany" "many" fmtD (fz (dOp fIx (dBVar 1) (dC (.int 13))))))
  (dSeqS
  (dSet 3 (dLst (dCons (dNewX "BadText" "text" fmtRD (fz (dOp fIx (dBVar 1) (dC (.int 0))))) (dCons (dNewX "BadLine" "number" fmtD (fz (dOp fIx (dBVar 1) (dC (.int 1))))) (dCons (dNewX "Impossible" "evidence" fmtD (fz (dOp fIx (dBVar 1) (dC (.int 2))))) dNil)))))
  (dSeqS
  (dSet 3 (dOp fAdd (dBVar 3) (fz (dLst (dCons (dNewX "Misfit" "time" fmtD (fz (dOp fIx (dBVar 1) (dC (.int 3))))) (dCons (dNewX "Noted" "note" fmtD (fz (dOp fIx (dBVar 1) (dC (.int 4))))) (dCons (dNewX "NoTown" "town" fmtD (fz (dOp fIx (dBVar 1) (dC (.int 5))))) dNil)))))))
  (dSeqS
  (dSet 3 (dOp fAdd (dBVar 3) (fz (dLst (dCons (dNewX "NoTime" "time" fmtD (fz (dOp fIx (dBVar 1) (dC (.int 6))))) (dCons (dNewX "NoNote" "note" fmtD (fz (dOp fIx (dBVar 1) (dC (.int 7))))) (dCons (dNewX "NoNumber" "number" fmtD (fz (dOp fIx (dBVar 1) (dC (.int 8))))) dNil)))))))
  (dSeqS
  (dSet 3 (dOp fAdd (dBVar 3) (fz (dLst (dCons (dNewX "NoOperation" "many" fmtD (fz (dOp fIx (dBVar 1) (dC (.int 9))))) (dCons (dNewX "Blocked" "pair" fmtD (fz (dOp fIx (dBVar 1) (dC (.int 10))))) (dCons (dNewX "Closed" "town" fmtD (fz (dOp fIx (dBVar 1) (dC (.int 11))))) dNil)))))))
  (dSeqS
  (dSet 3 (dOp fAdd (dBVar 3) (fz (dLst (dCons (dNewX "NoLeaf" "town" fmtD (fz (dOp fIx (dBVar 1) (dC (.int 12))))) (dCons (dNewX "TooMany" "many" fmtD (fz (dOp fIx (dBVar 1) (dC (.int 13))))) dNil))))))
  (dSeqS
  (dFrz 3 (dFrz 2 (dFor (dSeq (dTup (dCons (dVar 2) (dCons (dVar 3) dNil)))) (.nm 4) (dSeqS
  (dSet 7 (dLst (dCons (dXf [("BadText", "ValueError"), ("BadLine", "ValueError"), ("Impossible", "ValueError"), ("Misfit", "ValueError"), ("Noted", "ValueError"), ("OtherTowns", "ValueError"), ("NoTown", "LookupError"), ("NoTime", "LookupError"), ("NoNote", "LookupError"), ("NoNumber", "LookupError"), ("NoOperation", "LookupError"), ("Blocked", "RuntimeError"), ("Closed", "RuntimeError"), ("NoLeaf", "RuntimeError"), ("TooMany", "OverflowError")] "text" (fz (dOp fIx (dBVar 4) (dC (.int 0))))) (dCons (dXf [("BadText", "ValueError"), ("BadLine", "ValueError"), ("Impossible", "ValueError"), ("Misfit", "ValueError"), ("Noted", "ValueError"), ("OtherTowns", "ValueError"), ("NoTown", "LookupError"), ("NoTime", "LookupError"), ("NoNote", "LookupError"), ("NoNumber", "LookupError"), ("NoOperation", "LookupError"), ("Blocked", "RuntimeError"), ("Closed", "RuntimeError"), ("NoLeaf", "RuntimeError"), ("TooMany", "OverflowError")] "number" (fz (dOp fIx (dBVar 4) (dC (.int 1))))) (dCons (dXf [("BadText", "ValueError"), ("BadLine", "ValueError"), ("Impossible", "ValueError"), ("Misfit", "ValueError"), ("Noted", "ValueError"), ("OtherTowns", "ValueError"), ("NoTown", "LookupError"), ("NoTime", "LookupError"), ("NoNote", "LookupError"), ("NoNumber", "LookupError"), ("NoOperation", "LookupError"), ("Blocked", "RuntimeError"), ("Closed", "RuntimeError"), ("NoLeaf", "RuntimeError"), ("TooMany", "OverflowError")] "evidence" (fz (dOp fIx (dBVar 4) (dC (.int 2))))) (dCons (dXf [("BadText", "ValueError"), ("BadLine", "ValueError"), ("Impossible", "ValueError"), ("Misfit", "ValueError"), ("Noted", "ValueError"), ("OtherTowns", "ValueError"), ("NoTown", "LookupError"), ("NoTime", "LookupError"), ("NoNote", "LookupError"), ("NoNumber", "LookupError"), ("NoOperation", "LookupError"), ("Blocked", "RuntimeError"), ("Closed", "RuntimeError"), ("NoLeaf", "RuntimeError"), ("TooMany", "OverflowError")] "time" (fz (dOp fIx (dBVar 4) (dC (.int 3))))) (dCons (dXf [("BadText", "ValueError"), ("BadLine", "ValueError"), ("Impossible", "ValueError"), ("Misfit", "ValueError"), ("Noted", "ValueError"), ("OtherTowns", "ValueError"), ("NoTown", "LookupError"), ("NoTime", "LookupError"), ("NoNote", "LookupError"), ("NoNumber", "LookupError"), ("NoOperation", "LookupError"), ("Blocked", "RuntimeError"), ("Closed", "RuntimeError"), ("NoLeaf", "RuntimeError"), ("TooMany", "OverflowError")] "note" (fz (dOp fIx (dBVar 4) (dC (.int 4))))) (dCons (dXf [("BadText", "ValueError"), ("BadLine", "ValueError"), ("Impossible", "ValueError"), ("Misfit", "ValueError"), ("Noted", "ValueError"), ("OtherTowns", "ValueError"), ("NoTown", "LookupError"), ("NoTime", "LookupError"), ("NoNote", "LookupError"), ("NoNumber", "LookupError"), ("NoOperation", "LookupError"), ("Blocked", "RuntimeError"), ("Closed", "RuntimeError"), ("NoLeaf", "RuntimeError"), ("TooMany", "OverflowError")] "town" (fz (dOp fIx (dBVar 4) (dC (.int 5))))) dNil))))))))
  (dSeqS
  (dSet 7 (dOp fAdd (dBVar 7) (fz (dLst (dCons (dXf [("BadText", "ValueError"), ("BadLine", "ValueError"), ("Impossible", "ValueError"), ("Misfit", "ValueError"), ("Noted", "ValueError"), ("OtherTowns", "ValueError"), ("NoTown", "LookupError"), ("NoTime", "LookupError"), ("NoNote", "LookupError"), ("NoNumber", "LookupError"), ("NoOperation", "LookupError"), ("Blocked", "RuntimeError"), ("Closed", "RuntimeError"), ("NoLeaf", "RuntimeError"), ("TooMany", "OverflowError")] "time" (fz (dOp fIx (dBVar 4) (dC (.int 6))))) (dCons (dXf [("BadText", "ValueError"), ("BadLine", "ValueError"), ("Impossible", "ValueError"), ("Misfit", "ValueError"), ("Noted", "ValueError"), ("OtherTowns", "ValueError"), ("NoTown", "LookupError"), ("NoTime", "LookupError"), ("NoNote", "LookupError"), ("NoNumber", "LookupError"), ("NoOperation", "LookupError"), ("Blocked", "RuntimeError"), ("Closed", "RuntimeError"), ("NoLeaf", "RuntimeError"), ("TooMany", "OverflowError")] "note" (fz (dOp fIx (dBVar 4) (dC (.int 7))))) (dCons (dXf [("BadText", "ValueError"), ("BadLine", "ValueError"), ("Impossible", "ValueError"), ("Misfit", "ValueError"), ("Noted", "ValueError"), ("OtherTowns", "ValueError"), ("NoTown", "LookupError"), ("NoTime", "LookupError"), ("NoNote", "LookupError"), ("NoNumber", "LookupError"), ("NoOperation", "LookupError"), ("Blocked", "RuntimeError"), ("Closed", "RuntimeError"), ("NoLeaf", "RuntimeError"), ("TooMany", "OverflowError")] "number" (fz (dOp fIx (dBVar 4) (dC (.int 8))))) (dCons (dXf [("BadText", "ValueError"), ("BadLine", "ValueError"), ("Impossible", "ValueError"), ("Misfit", "ValueError"), ("Noted", "ValueError"), ("OtherTowns", "ValueError"), ("NoTown", "LookupError"), ("NoTime", "LookupError"), ("NoNote", "LookupError"), ("NoNumber", "LookupError"), ("NoOperation", "LookupError"), ("Blocked", "RuntimeError"), ("Closed", "RuntimeError"), ("NoLeaf", "RuntimeError"), ("TooMany", "OverflowError")] "many" (fz (dOp fIx (dBVar 4) (dC (.int 9))))) (dCons (dXf [("BadText", "ValueError"), ("BadLine", "ValueError"), ("Impossible", "ValueError"), ("Misfit", "ValueError"), ("Noted", "ValueError"), ("OtherTowns", "ValueError"), ("NoTown", "LookupError"), ("NoTime", "LookupError"), ("NoNote", "LookupError"), ("NoNumber", "LookupError"), ("NoOperation", "LookupError"), ("Blocked", "RuntimeError"), ("Closed", "RuntimeError"), ("NoLeaf", "RuntimeError"), ("TooMany", "OverflowError")] "pair" (fz (dOp fIx (dBVar 4) (dC (.int 10))))) dNil)))))))))
  (dSeqS
  (dFrz 1 (dIfS (dNotT (dB (fz (dCall C 213 (dCons (fz (dOp fAdd (dBVar 7) (fz (dLst (dCons (dXf [("BadText", "ValueError"), ("BadLine", "ValueError"), ("Impossible", "ValueError"), ("Misfit", "ValueError"), ("Noted", "ValueError"), ("OtherTowns", "ValueError"), ("NoTown", "LookupError"), ("NoTime", "LookupError"), ("NoNote", "LookupError"), ("NoNumber", "LookupError"), ("NoOperation", "LookupError"), ("Blocked", "RuntimeError"), ("Closed", "RuntimeError"), ("NoLeaf", "RuntimeError"), ("TooMany", "OverflowError")] "town" (fz (dOp fIx (dBVar 4) (dC (.int 11))))) (dCons (dXf [("BadText", "ValueError"), ("BadLine", "ValueError"), ("Impossible", "ValueError"), ("Misfit", "ValueError"), ("Noted", "ValueError"), ("OtherTowns", "ValueError"), ("NoTown", "LookupError"), ("NoTime", "LookupError"), ("NoNote", "LookupError"), ("NoNumber", "LookupError"), ("NoOperation", "LookupError"), ("Blocked", "RuntimeError"), ("Closed", "RuntimeError"), ("NoLeaf", "RuntimeError"), ("TooMany", "OverflowError")] "town" (fz (dOp fIx (dBVar 4) (dC (.int 12))))) (dCons (dXf [("BadText", "ValueError"), ("BadLine", "ValueError"), ("Impossible", "ValueError"), ("Misfit", "ValueError"), ("Noted", "ValueError"), ("OtherTowns", "ValueError"), ("NoTown", "LookupError"), ("NoTime", "LookupError"), ("NoNote", "LookupError"), ("NoNumber", "LookupError"), ("NoOperation", "LookupError"), ("Blocked", "RuntimeError"), ("Closed", "RuntimeError"), ("NoLeaf", "RuntimeError"), ("TooMany", "OverflowError")] "many" (fz (dOp fIx (dBVar 4) (dC (.int 13))))) dNil))))))) (dCons (dVar 1) dNil)))))) (dRet (rv (dC (.bl false)))) dSkip))
  (dSeqS
  (dSet 8 (dOp fAdd (fz (dOp fAdd (fz (dOp fAdd (fz (dOp fMul (fz (dLst (dCons (dC (.int 0)) dNil))) (dC (.int 5)))) (fz (dOp fMul (fz (dLst (dCons (dC (.int 1)) dNil))) (dC (.int 5)))))) (fz (dOp fMul (fz (dLst (dCons (dC (.int 2)) dNil))) (dC (.int 3)))))) (fz (dLst (dCons (dC (.int 3)) dNil)))))
  (dFrz 8 (dIfS (dNotT (dB (fz (dBlt bAll (dCons (fz (dComp (dZip (dVar 4) (dVar 8)) [9, 10] (.tp [(.nm 9), (.nm 10)]) dYes (fz (dCall C 111 (dCons (dVar 9) (dCons (dVar 10) dNil)))))) dNil))))) (dRet (rv (dC (.bl false)))) dSkip)))))))))
  (dRet (rv (dAnd (fz (dCall C 111 (dCons (dNew0 "OtherTowns") (dCons (dC (.int 0)) dNil)))) (fz (dOp fEq (dC (.int 300)) (dC (.int 300)))))))))))))))))))))
def q__law_right_k15 : FD := ⟨"_law_right", 1, 11, b__law_right_k15⟩

def b_law_k15 (C : Calls) : DS :=
  (dSeqS
  (dFor (dRange1 (fz (dOp fAdd (dC (.int 1)) (fz (dBlt bMin2 (dCons (dC (.int 3)) (dCons (fz (dBlt bLen (dCons (dBVar 0) dNil))) dNil))))))) (.nm 1) (dSeqS
  (dSh 2 (dCall C 24 (dCons (dVar 0) (dCons (dVar 1) dNil))))
  (dIfS (dNotT (dB (fz (dBlt bAll (dCons (fz (dComp (dRange1 (dC (.int 1))) [3] (.nm 3) dYes (fz (dCall C 161 (dCons (dVar 2) dNil))))) dNil))))) (dRet (rv (dC (.bl false)))) dSkip)))
  (dRet (rv (dC (.bl true)))))
def q_law_k15 : FD := ⟨"law", 1, 4, b_law_k15⟩

def tbl : List (Nat × FD) := [(28, q__law_cell_at),
  (24, q__law_box),
  (238, q__law_take),
  (213, q__law_same_v0),
  (64, q__law_flags),
  (111, q__law_one_right_k15),
  (161, q__law_right_k15),
  (337, q_law_k15)]

def B : Tb := fun i => tbl.lookup i
abbrev T : Nat → Option (Str × Nat) := tabOf B
section
variable {P : Program} {w : World} {K : PySem.W.Frag} {mg : Str → Option Value} {base : Heap} {f : Addr} {cdv : Value} {A : Around} {outer : List Env} {s : Shared} {H : Hp} {E : XK} {n : Nat} {C : Calls}

def N__law_cell_at : List Str := ["_law_script", "_law_k"]

theorem s__law_cell_at : FnScope N__law_cell_at ["_law_script", "_law_k"] (defScope (top 18)) := ⟨rfl, rfl, rfl, by decide +kernel, rfl, by decide +kernel, by decide +kernel⟩

theorem p__law_cell_at (F : Fx P w K mg base (A.deeper (envOfC "_law_cell_at" (defScope (top 18)) s.heap.objs.size f cdv)) n T C) (m_len : mg "len" = none) : PSs (XF P w K mg base N__law_cell_at "_law_cell_at" (defScope (top 18)) f cdv A outer s H E) (defBody (top 18)) (tS K E (b__law_cell_at C)) := by
  have nd := s__law_cell_at.nd
  have u3 := units_of F.room
  have u0 : (A.deeper (envOfC "_law_cell_at" (defScope (top 18)) s.heap.objs.size f cdv)).units + 1 < cLine := by omega
  have u1 : (A.deeper (envOfC "_law_cell_at" (defScope (top 18)) s.heap.objs.size f cdv)).units + 64 < cLine := by omega
  have u2 : (A.deeper (envOfC "_law_cell_at" (defScope (top 18)) s.heap.objs.size f cdv)).units + 65 < cLine := by omega
  exact (mss_cons
  (ms_if (mt_cmp (mo_lt u3) (me_bvar 1) (pe_vb (pe_fz (me_callB mb_len rfl m_len boot_len (mb_cons (me_bvar 0) mb_nil)))) rfl) (mss_one (ms_ret (me_ix (mo_ix u2) (me_bvar 0) (me_bvar 1) (fun _ _ => rfl)))) mss_nil)
  (mss_one (ms_ret (pe_vr me_int))))

def N__law_box : List Str := ["_law_script", "_law_k", "_law_core"]

theorem s__law_box : FnScope N__law_box ["_law_script", "_law_k"] (defScope (top 19)) := ⟨rfl, rfl, rfl, by decide +kernel, rfl, by decide +kernel, by decide +kernel⟩

theorem p__law_box (F : Fx P w K mg base (A.deeper (envOfC "_law_box" (defScope (top 19)) s.heap.objs.size f cdv)) n T C) (m_abs : mg "abs" = none) (m_int : mg "int" = none) : PSs (XF P w K mg base N__law_box "_law_box" (defScope (top 19)) f cdv A outer s H E) (defBody (top 19)) (tS K E (b__law_box C)) := by
  have nd := s__law_box.nd
  have u3 := units_of F.room
  have u0 : (A.deeper (envOfC "_law_box" (defScope (top 19)) s.heap.objs.size f cdv)).units + 1 < cLine := by omega
  have u1 : (A.deeper (envOfC "_law_box" (defScope (top 19)) s.heap.objs.size f cdv)).units + 64 < cLine := by omega
  have u2 : (A.deeper (envOfC "_law_box" (defScope (top 19)) s.heap.objs.size f cdv)).units + 65 < cLine := by omega
  exact (mss_cons
  (ms_set nd (i := 2) rfl (by first | exact Or.inl rfl | exact Or.inr rfl) (me_call F 28 rfl rfl (ma_cons (me_var 0) (ma_cons (me_var 1) ma_nil))))
  (mss_one (ms_ret (me_lst (ma_cons (pe_fz (me_op mo_mul (pe_vb (pe_fz (me_callB mb_abs rfl m_abs PyProof.Rows.boot_abs (mb_cons (me_bvar 2) mb_nil)))) (pe_vb (pe_fz (me_callTy mb_int rfl m_int PyProof.Rows.boot_int (mb_cons (pe_vb (pe_fz (me_cmp (mo_ge u3) (pe_vb (pe_fz (me_callB mb_abs rfl m_abs PyProof.Rows.boot_abs (mb_cons (me_bvar 2) mb_nil)))) (pe_vb (pe_fz (me_op mo_pow (pe_vb me_int) (pe_vb me_int)))) rfl))) mb_nil)))))) (ma_cons (pe_fz (me_op mo_add (pe_vb (pe_fz (me_op mo_add (pe_vb (pe_fz (me_op mo_mod (me_bvar 2) (pe_vb me_int)))) (pe_vb (pe_fz (me_op mo_mul (pe_vb me_int) (me_bvar 1))))))) (pe_vb me_int))) (ma_cons me_int ma_nil)))))))

def N__law_take : List Str := ["_law_box_here", "_law_below", "_law_once", "_law_twice", "_law_found"]

theorem s__law_take : FnScope N__law_take ["_law_box_here", "_law_below"] (defScope (top 20)) := ⟨rfl, rfl, rfl, by decide +kernel, rfl, by decide +kernel, by decide +kernel⟩

theorem p__law_take (F : Fx P w K mg base (A.deeper (envOfC "_law_take" (defScope (top 20)) s.heap.objs.size f cdv)) n T C) : PSs (XF P w K mg base N__law_take "_law_take" (defScope (top 20)) f cdv A outer s H E) (defBody (top 20)) (tS K E (b__law_take C)) := by
  have nd := s__law_take.nd
  have u3 := units_of F.room
  have u0 : (A.deeper (envOfC "_law_take" (defScope (top 20)) s.heap.objs.size f cdv)).units + 1 < cLine := by omega
  have u1 : (A.deeper (envOfC "_law_take" (defScope (top 20)) s.heap.objs.size f cdv)).units + 64 < cLine := by omega
  have u2 : (A.deeper (envOfC "_law_take" (defScope (top 20)) s.heap.objs.size f cdv)).units + 65 < cLine := by omega
  exact (mss_cons
  (ms_if (mt_cmp (mo_gt u3) (pe_vb (pe_fz (me_ix (mo_ix u2) (me_bvar 0) (pe_vb me_int) (fun _ _ => rfl)))) (pe_vb me_int) rfl) (mss_cons
  (ms_set nd (i := 4) rfl (by first | exact Or.inl rfl | exact Or.inr rfl) (me_op mo_mod (pe_vb (pe_fz (me_ix (mo_ix u2) (me_bvar 0) (pe_vb me_int) (fun _ _ => rfl)))) (me_bvar 1)))
  (mss_cons
  (ms_putL 0 (pe_fz (me_op mo_div (pe_vb (pe_fz (me_ix (mo_ix u2) (me_bvar 0) (pe_vb me_int) (fun _ _ => rfl)))) (me_bvar 1))) me_int)
  (mss_one (ms_retMv 4)))) mss_nil)
  (mss_cons
  (ms_if (mt_cmp (mo_gt u3) (me_bvar 1) (pe_vb (pe_fz (me_op mo_pow (pe_vb me_int) (pe_vb me_int)))) rfl) (mss_one (ms_ret (me_op mo_mod (pe_vb (pe_fz (me_op mo_add (pe_vb (pe_fz (me_call F 238 rfl rfl (ma_cons (me_var 0) (ma_cons (pe_fz (me_op mo_pow (pe_vb me_int) (pe_vb me_int))) ma_nil))))) (pe_vb (pe_fz (me_op mo_mul (pe_vb (pe_fz (me_op mo_pow (pe_vb me_int) (pe_vb me_int)))) (pe_vb (pe_fz (me_call F 238 rfl rfl (ma_cons (me_var 0) (ma_cons (pe_fz (me_op mo_add (pe_vb (pe_fz (me_op mo_div (me_bvar 1) (pe_vb (pe_fz (me_op mo_pow (pe_vb me_int) (pe_vb me_int))))))) (pe_vb me_int))) ma_nil))))))))))) (me_bvar 1)))) mss_nil)
  (mss_cons
  (ms_putL 0 (pe_fz (me_op mo_add (pe_vb (pe_fz (me_ix (mo_ix u2) (me_bvar 0) (pe_vb me_int) (fun _ _ => rfl)))) (pe_vb me_int))) me_int)
  (mss_cons
  (ms_set nd (i := 2) rfl (by first | exact Or.inl rfl | exact Or.inr rfl) (me_op mo_mod (pe_vb (pe_fz (me_op mo_mul (pe_vb (pe_fz (me_op mo_add (pe_vb (pe_fz (me_ix (mo_ix u2) (me_bvar 0) (pe_vb me_int) (fun _ _ => rfl)))) (pe_vb (pe_fz (me_op mo_mul (pe_vb me_int) (pe_vb (pe_fz (me_ix (mo_ix u2) (me_bvar 0) (pe_vb me_int) (fun _ _ => rfl)))))))))) (pe_vb (pe_fz (me_op mo_add (pe_vb me_int) (pe_vb (pe_fz (me_ix (mo_ix u2) (me_bvar 0) (pe_vb me_int) (fun _ _ => rfl)))))))))) (pe_vb me_int)))
  (mss_cons
  (ms_set nd (i := 3) rfl (by first | exact Or.inl rfl | exact Or.inr rfl) (me_op mo_mod (pe_vb (pe_fz (me_op mo_mul (pe_vb (pe_fz (me_op mo_add (pe_vb (pe_fz (me_op mo_add (me_bvar 2) (pe_vb (pe_fz (me_ix (mo_ix u2) (me_bvar 0) (pe_vb me_int) (fun _ _ => rfl))))))) (pe_vb (pe_fz (me_op mo_div (pe_vb (pe_fz (me_ix (mo_ix u2) (me_bvar 0) (pe_vb me_int) (fun _ _ => rfl)))) (pe_vb me_int))))))) (pe_vb (pe_fz (me_op mo_add (pe_vb (pe_fz (me_op mo_mod (me_bvar 2) (pe_vb me_int)))) (pe_vb me_int))))))) (pe_vb me_int)))
  (mss_one (ms_ret (me_op mo_mod (pe_vb (pe_fz (me_op mo_div (pe_vb (pe_fz (me_op mo_mod (pe_vb (pe_fz (me_op mo_add (pe_vb (pe_fz (me_op mo_mul (me_bvar 3) (pe_vb me_int)))) (me_bvar 2)))) (pe_vb me_int)))) (pe_vb me_int)))) (me_bvar 1)))))))))

def N__law_same : List Str := ["_law_found", "_law_due", "_law_a", "_law_b"]

theorem s__law_same : FnScope N__law_same ["_law_found", "_law_due"] (defScope (top 21)) := ⟨rfl, rfl, rfl, by decide +kernel, rfl, by decide +kernel, by decide +kernel⟩

theorem p__law_same (F : Fx P w K mg base (A.deeper (envOfC "_law_same" (defScope (top 21)) s.heap.objs.size f cdv)) n T C) (m_all : mg "all" = none) (m_bool : mg "bool" = none) (m_int : mg "int" = none) (m_isinstance : mg "isinstance" = none) (m_len : mg "len" = none) (m_list : mg "list" = none) (m_str : mg "str" = none) (m_tuple : mg "tuple" = none) (m_zip : mg "zip" = none) : PSs (XF P w K mg base N__law_same "_law_same" (defScope (top 21)) f cdv A outer s H E) (defBody (top 21)) (tS K E (b__law_same_v0 C)) := by
  have nd := s__law_same.nd
  have u3 := units_of F.room
  have u0 : (A.deeper (envOfC "_law_same" (defScope (top 21)) s.heap.objs.size f cdv)).units + 1 < cLine := by omega
  have u1 : (A.deeper (envOfC "_law_same" (defScope (top 21)) s.heap.objs.size f cdv)).units + 64 < cLine := by omega
  have u2 : (A.deeper (envOfC "_law_same" (defScope (top 21)) s.heap.objs.size f cdv)).units + 65 < cLine := by omega
  exact (mss_cons
  (ms_if (mt_val (pe_fz (me_callB mb_isi rfl m_isinstance PyProof.Rows.boot_isinstance (mb_cons (me_bvar 1) (mb_cons (pe_vb (me_tup (ma_cons (me_ty rfl m_list PyProof.Rows.boot_list) (ma_cons (me_ty rfl m_tuple PyProof.Rows.boot_tuple) ma_nil)))) mb_nil))))) (mss_cons
  (ms_if (PW.pt (mw_or (mt_cmp (mo_ne u1) (pe_vb (pe_fz (me_callB mb_isi rfl m_isinstance PyProof.Rows.boot_isinstance (mb_cons (me_bvar 0) (mb_cons (pe_vb (me_ty rfl m_list PyProof.Rows.boot_list)) mb_nil))))) (pe_vb (pe_fz (me_callB mb_isi rfl m_isinstance PyProof.Rows.boot_isinstance (mb_cons (me_bvar 1) (mb_cons (pe_vb (me_ty rfl m_list PyProof.Rows.boot_list)) mb_nil))))) rfl) (mw_or1 (mt_cmp (mo_ne u1) (pe_vb (pe_fz (me_callB mb_isi rfl m_isinstance PyProof.Rows.boot_isinstance (mb_cons (me_bvar 0) (mb_cons (pe_vb (me_ty rfl m_tuple PyProof.Rows.boot_tuple)) mb_nil))))) (pe_vb (pe_fz (me_callB mb_isi rfl m_isinstance PyProof.Rows.boot_isinstance (mb_cons (me_bvar 1) (mb_cons (pe_vb (me_ty rfl m_tuple PyProof.Rows.boot_tuple)) mb_nil))))) rfl)))) (mss_one (ms_ret (pe_vr me_bl))) mss_nil)
  (mss_one (ms_ret (pe_vr (me_and (pe_fz (me_cmp (mo_eq u1) (pe_vb (pe_fz (me_callB mb_len rfl m_len boot_len (mb_cons (me_bvar 0) mb_nil)))) (pe_vb (pe_fz (me_callB mb_len rfl m_len boot_len (mb_cons (me_bvar 1) mb_nil)))) rfl)) (me_one (pe_fz (me_callB (mb_all rfl) rfl m_all PyProof.Rows.boot_all (mb_cons (pe_vb (pe_fz (me_comp (own := [("_law_a", 2), ("_law_b", 3)]) rfl nd (pi_fb (mi_zip rfl m_zip (me_var 0) (me_var 1))) (blk_of (by kernel_rfl)) (fun _ _ _ _ _ => (mg_tup rfl (mgs_cons (mg_name nd (i := 2) rfl (by first | exact Or.inl rfl | exact Or.inr rfl)) (mgs_cons (mg_name nd (i := 3) rfl (by first | exact Or.inl rfl | exact Or.inr rfl)) mgs_nil)) rfl)) (fun _ _ _ _ _ => mts_nil) (fun _ _ _ _ _ => (pe_fz (me_call F 213 rfl rfl (ma_cons (me_var 2) (ma_cons (me_var 3) ma_nil))))) (by decide)))) mb_nil))))))))) mss_nil)
  (mss_cons
  (ms_if (PW.pt (mw_or (mt_cmp mo_isN (me_bvar 1) (pe_vb me_non) rfl) (mw_or1 (mt_val (pe_fz (me_callB mb_isi rfl m_isinstance PyProof.Rows.boot_isinstance (mb_cons (me_bvar 1) (mb_cons (pe_vb (me_tup (ma_cons (me_ty rfl m_bool PyProof.Rows.boot_bool) (ma_cons (me_ty rfl m_str PyProof.Rows.boot_str) ma_nil)))) mb_nil)))))))) (mss_one (ms_ret (pe_vr (me_and (pe_fz (me_cmp (mo_eq u1) (me_bvar 0) (me_bvar 1) rfl)) (me_and (pe_fz (me_cmp (mo_eq u1) (pe_vb (pe_fz (me_callB mb_isi rfl m_isinstance PyProof.Rows.boot_isinstance (mb_cons (me_bvar 0) (mb_cons (pe_vb (me_ty rfl m_bool PyProof.Rows.boot_bool)) mb_nil))))) (pe_vb (pe_fz (me_callB mb_isi rfl m_isinstance PyProof.Rows.boot_isinstance (mb_cons (me_bvar 1) (mb_cons (pe_vb (me_ty rfl m_bool PyProof.Rows.boot_bool)) mb_nil))))) rfl)) (me_one (pe_fz (me_cmp (mo_eq u1) (pe_vb (pe_fz (me_cmp mo_isN (me_bvar 0) (pe_vb me_non) rfl))) (pe_vb (pe_fz (me_cmp mo_isN (me_bvar 1) (pe_vb me_non) rfl))) rfl)))))))) mss_nil)
  (mss_one (ms_ret (pe_vr (me_and (pe_fz (me_callB mb_isi rfl m_isinstance PyProof.Rows.boot_isinstance (mb_cons (me_bvar 0) (mb_cons (pe_vb (me_ty rfl m_int PyProof.Rows.boot_int)) mb_nil)))) (me_and (me_not (pe_fz (me_callB mb_isi rfl m_isinstance PyProof.Rows.boot_isinstance (mb_cons (me_bvar 0) (mb_cons (pe_vb (me_ty rfl m_bool PyProof.Rows.boot_bool)) mb_nil))))) (me_one (pe_fz (me_cmp (mo_eq u1) (me_bvar 0) (me_bvar 1) rfl))))))))))

def N__law_flags : List Str := ["_law_made", "_law_flags_here"]

theorem s__law_flags : FnScope N__law_flags ["_law_made"] (defScope (top 22)) := ⟨rfl, rfl, rfl, by decide +kernel, rfl, by decide +kernel, by decide +kernel⟩

theorem p__law_flags (F : Fx P w K mg base (A.deeper (envOfC "_law_flags" (defScope (top 22)) s.heap.objs.size f cdv)) n T C) (c_BadLine : mg "BadLine" = some (.ref (He.ga K "BadLine"))) (c_BadText : mg "BadText" = some (.ref (He.ga K "BadText"))) (c_Blocked : mg "Blocked" = some (.ref (He.ga K "Blocked"))) (c_Closed : mg "Closed" = some (.ref (He.ga K "Closed"))) (c_Impossible : mg "Impossible" = some (.ref (He.ga K "Impossible"))) (c_Misfit : mg "Misfit" = some (.ref (He.ga K "Misfit"))) (c_NoLeaf : mg "NoLeaf" = some (.ref (He.ga K "NoLeaf"))) (c_NoNote : mg "NoNote" = some (.ref (He.ga K "NoNote"))) (c_NoNumber : mg "NoNumber" = some (.ref (He.ga K "NoNumber"))) (c_NoOperation : mg "NoOperation" = some (.ref (He.ga K "NoOperation"))) (c_NoTime : mg "NoTime" = some (.ref (He.ga K "NoTime"))) (c_NoTown : mg "NoTown" = some (.ref (He.ga K "NoTown"))) (c_Noted : mg "Noted" = some (.ref (He.ga K "Noted"))) (c_OtherTowns : mg "OtherTowns" = some (.ref (He.ga K "OtherTowns"))) (c_TooMany : mg "TooMany" = some (.ref (He.ga K "TooMany"))) (m_isinstance : mg "isinstance" = none) (t_BadText_BadLine_Impossible_Misfit_Noted_OtherTowns_NoTown_NoTime_NoNote_NoNumber_NoOperation_Blocked_Closed_NoLeaf_TooMany : XTab K [("BadText", "ValueError"), ("BadLine", "ValueError"), ("Impossible", "ValueError"), ("Misfit", "ValueError"), ("Noted", "ValueError"), ("OtherTowns", "ValueError"), ("NoTown", "LookupError"), ("NoTime", "LookupError"), ("NoNote", "LookupError"), ("NoNumber", "LookupError"), ("NoOperation", "LookupError"), ("Blocked", "RuntimeError"), ("Closed", "RuntimeError"), ("NoLeaf", "RuntimeError"), ("TooMany", "OverflowError")]) : PSs (XF P w K mg base N__law_flags "_law_flags" (defScope (top 22)) f cdv A outer s H E) (defBody (top 22)) (tS K E (b__law_flags C)) := by
  have nd := s__law_flags.nd
  have u3 := units_of F.room
  have u0 : (A.deeper (envOfC "_law_flags" (defScope (top 22)) s.heap.objs.size f cdv)).units + 1 < cLine := by omega
  have u1 : (A.deeper (envOfC "_law_flags" (defScope (top 22)) s.heap.objs.size f cdv)).units + 64 < cLine := by omega
  have u2 : (A.deeper (envOfC "_law_flags" (defScope (top 22)) s.heap.objs.size f cdv)).units + 65 < cLine := by omega
  exact (mss_cons
  (ms_set nd (i := 1) rfl (by first | exact Or.inl rfl | exact Or.inr rfl) (me_lst (ma_cons (pe_fz (me_callB (mb_isiX t_BadText_BadLine_Impossible_Misfit_Noted_OtherTowns_NoTown_NoTime_NoNote_NoNumber_NoOperation_Blocked_Closed_NoLeaf_TooMany) rfl m_isinstance PyProof.Rows.boot_isinstance (mb_cons (me_bvar 0) (mb_cons (pe_vb (me_cls rfl c_BadLine)) mb_nil)))) (ma_cons (pe_fz (me_callB (mb_isiX t_BadText_BadLine_Impossible_Misfit_Noted_OtherTowns_NoTown_NoTime_NoNote_NoNumber_NoOperation_Blocked_Closed_NoLeaf_TooMany) rfl m_isinstance PyProof.Rows.boot_isinstance (mb_cons (me_bvar 0) (mb_cons (pe_vb (me_cls rfl c_BadText)) mb_nil)))) (ma_cons (pe_fz (me_callB (mb_isiX t_BadText_BadLine_Impossible_Misfit_Noted_OtherTowns_NoTown_NoTime_NoNote_NoNumber_NoOperation_Blocked_Closed_NoLeaf_TooMany) rfl m_isinstance PyProof.Rows.boot_isinstance (mb_cons (me_bvar 0) (mb_cons (pe_vb (me_cls rfl c_Blocked)) mb_nil)))) (ma_cons (pe_fz (me_callB (mb_isiX t_BadText_BadLine_Impossible_Misfit_Noted_OtherTowns_NoTown_NoTime_NoNote_NoNumber_NoOperation_Blocked_Closed_NoLeaf_TooMany) rfl m_isinstance PyProof.Rows.boot_isinstance (mb_cons (me_bvar 0) (mb_cons (pe_vb (me_cls rfl c_Closed)) mb_nil)))) ma_nil))))))
  (mss_cons
  (ms_set nd (i := 1) rfl (by first | exact Or.inl rfl | exact Or.inr rfl) (me_op mo_add (me_bvar 1) (pe_vb (pe_fz (me_lst (ma_cons (pe_fz (me_callB (mb_isiX t_BadText_BadLine_Impossible_Misfit_Noted_OtherTowns_NoTown_NoTime_NoNote_NoNumber_NoOperation_Blocked_Closed_NoLeaf_TooMany) rfl m_isinstance PyProof.Rows.boot_isinstance (mb_cons (me_bvar 0) (mb_cons (pe_vb (me_cls rfl c_Impossible)) mb_nil)))) (ma_cons (pe_fz (me_callB (mb_isiX t_BadText_BadLine_Impossible_Misfit_Noted_OtherTowns_NoTown_NoTime_NoNote_NoNumber_NoOperation_Blocked_Closed_NoLeaf_TooMany) rfl m_isinstance PyProof.Rows.boot_isinstance (mb_cons (me_bvar 0) (mb_cons (pe_vb (me_cls rfl c_Misfit)) mb_nil)))) (ma_cons (pe_fz (me_callB (mb_isiX t_BadText_BadLine_Impossible_Misfit_Noted_OtherTowns_NoTown_NoTime_NoNote_NoNumber_NoOperation_Blocked_Closed_NoLeaf_TooMany) rfl m_isinstance PyProof.Rows.boot_isinstance (mb_cons (me_bvar 0) (mb_cons (pe_vb (me_cls rfl c_NoLeaf)) mb_nil)))) ma_nil))))))))
  (mss_cons
  (ms_set nd (i := 1) rfl (by first | exact Or.inl rfl | exact Or.inr rfl) (me_op mo_add (me_bvar 1) (pe_vb (pe_fz (me_lst (ma_cons (pe_fz (me_callB (mb_isiX t_BadText_BadLine_Impossible_Misfit_Noted_OtherTowns_NoTown_NoTime_NoNote_NoNumber_NoOperation_Blocked_Closed_NoLeaf_TooMany) rfl m_isinstance PyProof.Rows.boot_isinstance (mb_cons (me_bvar 0) (mb_cons (pe_vb (me_cls rfl c_NoNote)) mb_nil)))) (ma_cons (pe_fz (me_callB (mb_isiX t_BadText_BadLine_Impossible_Misfit_Noted_OtherTowns_NoTown_NoTime_NoNote_NoNumber_NoOperation_Blocked_Closed_NoLeaf_TooMany) rfl m_isinstance PyProof.Rows.boot_isinstance (mb_cons (me_bvar 0) (mb_cons (pe_vb (me_cls rfl c_NoNumber)) mb_nil)))) (ma_cons (pe_fz (me_callB (mb_isiX t_BadText_BadLine_Impossible_Misfit_Noted_OtherTowns_NoTown_NoTime_NoNote_NoNumber_NoOperation_Blocked_Closed_NoLeaf_TooMany) rfl m_isinstance PyProof.Rows.boot_isinstance (mb_cons (me_bvar 0) (mb_cons (pe_vb (me_cls rfl c_NoOperation)) mb_nil)))) ma_nil))))))))
  (mss_cons
  (ms_set nd (i := 1) rfl (by first | exact Or.inl rfl | exact Or.inr rfl) (me_op mo_add (me_bvar 1) (pe_vb (pe_fz (me_lst (ma_cons (pe_fz (me_callB (mb_isiX t_BadText_BadLine_Impossible_Misfit_Noted_OtherTowns_NoTown_NoTime_NoNote_NoNumber_NoOperation_Blocked_Closed_NoLeaf_TooMany) rfl m_isinstance PyProof.Rows.boot_isinstance (mb_cons (me_bvar 0) (mb_cons (pe_vb (me_cls rfl c_NoTime)) mb_nil)))) (ma_cons (pe_fz (me_callB (mb_isiX t_BadText_BadLine_Impossible_Misfit_Noted_OtherTowns_NoTown_NoTime_NoNote_NoNumber_NoOperation_Blocked_Closed_NoLeaf_TooMany) rfl m_isinstance PyProof.Rows.boot_isinstance (mb_cons (me_bvar 0) (mb_cons (pe_vb (me_cls rfl c_NoTown)) mb_nil)))) (ma_cons (pe_fz (me_callB (mb_isiX t_BadText_BadLine_Impossible_Misfit_Noted_OtherTowns_NoTown_NoTime_NoNote_NoNumber_NoOperation_Blocked_Closed_NoLeaf_TooMany) rfl m_isinstance PyProof.Rows.boot_isinstance (mb_cons (me_bvar 0) (mb_cons (pe_vb (me_cls rfl c_Noted)) mb_nil)))) ma_nil))))))))
  (mss_one (ms_ret (me_op mo_add (me_bvar 1) (pe_vb (pe_fz (me_lst (ma_cons (pe_fz (me_callB (mb_isiX t_BadText_BadLine_Impossible_Misfit_Noted_OtherTowns_NoTown_NoTime_NoNote_NoNumber_NoOperation_Blocked_Closed_NoLeaf_TooMany) rfl m_isinstance PyProof.Rows.boot_isinstance (mb_cons (me_bvar 0) (mb_cons (pe_vb (me_cls rfl c_OtherTowns)) mb_nil)))) (ma_cons (pe_fz (me_callB (mb_isiX t_BadText_BadLine_Impossible_Misfit_Noted_OtherTowns_NoTown_NoTime_NoNote_NoNumber_NoOperation_Blocked_Closed_NoLeaf_TooMany) rfl m_isinstance PyProof.Rows.boot_isinstance (mb_cons (me_bvar 0) (mb_cons (pe_vb (me_cls rfl c_TooMany)) mb_nil)))) ma_nil))))))))))))

def N__law_one_right : List Str := ["_law_made", "_law_at", "_law_kinds", "_law_due"]

theorem s__law_one_right : FnScope N__law_one_right ["_law_made", "_law_at"] (defScope (top 23)) := ⟨rfl, rfl, rfl, by decide +kernel, rfl, by decide +kernel, by decide +kernel⟩

theorem p__law_one_right (F : Fx P w K mg base (A.deeper (envOfC "_law_one_right" (defScope (top 23)) s.heap.objs.size f cdv)) n T C) (m_IndexError : mg "IndexError" = none) (m_KeyError : mg "KeyError" = none) (m_LookupError : mg "LookupError" = none) (m_NotImplementedError : mg "NotImplementedError" = none) (m_OverflowError : mg "OverflowError" = none) (m_RuntimeError : mg "RuntimeError" = none) (m_ValueError : mg "ValueError" = none) (m_isinstance : mg "isinstance" = none) (mor : XMore K [("BadText", "ValueError"), ("BadLine", "ValueError"), ("Impossible", "ValueError"), ("Misfit", "ValueError"), ("Noted", "ValueError"), ("OtherTowns", "ValueError"), ("NoTown", "LookupError"), ("NoTime", "LookupError"), ("NoNote", "LookupError"), ("NoNumber", "LookupError"), ("NoOperation", "LookupError"), ("Blocked", "RuntimeError"), ("Closed", "RuntimeError"), ("NoLeaf", "RuntimeError"), ("TooMany", "OverflowError")]) (t_BadText_BadLine_Impossible_Misfit_Noted_OtherTowns_NoTown_NoTime_NoNote_NoNumber_NoOperation_Blocked_Closed_NoLeaf_TooMany : XTab K [("BadText", "ValueError"), ("BadLine", "ValueError"), ("Impossible", "ValueError"), ("Misfit", "ValueError"), ("Noted", "ValueError"), ("OtherTowns", "ValueError"), ("NoTown", "LookupError"), ("NoTime", "LookupError"), ("NoNote", "LookupError"), ("NoNumber", "LookupError"), ("NoOperation", "LookupError"), ("Blocked", "RuntimeError"), ("Closed", "RuntimeError"), ("NoLeaf", "RuntimeError"), ("TooMany", "OverflowError")]) : PSs (XF P w K mg base N__law_one_right "_law_one_right" (defScope (top 23)) f cdv A outer s H E) (defBody (top 23)) (tS K E (b__law_one_right_k15 C)) := by
  have nd := s__law_one_right.nd
  have u3 := units_of F.room
  have u0 : (A.deeper (envOfC "_law_one_right" (defScope (top 23)) s.heap.objs.size f cdv)).units + 1 < cLine := by omega
  have u1 : (A.deeper (envOfC "_law_one_right" (defScope (top 23)) s.heap.objs.size f cdv)).units + 64 < cLine := by omega
  have u2 : (A.deeper (envOfC "_law_one_right" (defScope (top 23)) s.heap.objs.size f cdv)).units + 65 < cLine := by omega
  exact (mss_cons
  (ms_if (mt_cmp (mo_ne u1) (pe_vb (me_count (pe_vb (pe_fz (me_call F 64 rfl rfl (ma_cons (me_var 0) ma_nil)))) me_bl)) (pe_vb me_int) rfl) (mss_one (ms_ret (pe_vr me_bl))) mss_nil)
  (mss_cons
  (ms_set nd (i := 2) rfl (by first | exact Or.inl rfl | exact Or.inr rfl) (me_lst (ma_cons (pe_fz (me_callB (mb_isiX t_BadText_BadLine_Impossible_Misfit_Noted_OtherTowns_NoTown_NoTime_NoNote_NoNumber_NoOperation_Blocked_Closed_NoLeaf_TooMany) rfl m_isinstance PyProof.Rows.boot_isinstance (mb_cons (me_bvar 0) (mb_cons (pe_vb (me_ty rfl m_ValueError (by kernel_rfl))) mb_nil)))) (ma_cons (pe_fz (me_callB (mb_isiX t_BadText_BadLine_Impossible_Misfit_Noted_OtherTowns_NoTown_NoTime_NoNote_NoNumber_NoOperation_Blocked_Closed_NoLeaf_TooMany) rfl m_isinstance PyProof.Rows.boot_isinstance (mb_cons (me_bvar 0) (mb_cons (pe_vb (me_ty rfl m_LookupError (by kernel_rfl))) mb_nil)))) (ma_cons (pe_fz (me_callB (mb_isiX t_BadText_BadLine_Impossible_Misfit_Noted_OtherTowns_NoTown_NoTime_NoNote_NoNumber_NoOperation_Blocked_Closed_NoLeaf_TooMany) rfl m_isinstance PyProof.Rows.boot_isinstance (mb_cons (me_bvar 0) (mb_cons (pe_vb (me_ty rfl m_RuntimeError (by kernel_rfl))) mb_nil)))) ma_nil)))))
  (mss_cons
  (ms_app 2 (pe_fz (me_callB (mb_isiX t_BadText_BadLine_Impossible_Misfit_Noted_OtherTowns_NoTown_NoTime_NoNote_NoNumber_NoOperation_Blocked_Closed_NoLeaf_TooMany) rfl m_isinstance PyProof.Rows.boot_isinstance (mb_cons (me_bvar 0) (mb_cons (pe_vb (me_ty rfl m_OverflowError (by kernel_rfl))) mb_nil)))))
  (mss_cons
  (ms_set nd (i := 3) rfl (by first | exact Or.inl rfl | exact Or.inr rfl) (me_op mo_mul (pe_vb (pe_fz (me_lst (ma_cons me_bl ma_nil)))) (pe_vb me_int)))
  (mss_cons
  (ms_putL 3 me_bl (me_var 1))
  (mss_one (ms_ret (pe_vr (me_and (pe_fz (me_cmp (mo_eq u1) (me_bvar 2) (me_bvar 3) rfl)) (me_one (me_not (pe_fz (me_callB (mb_isiM t_BadText_BadLine_Impossible_Misfit_Noted_OtherTowns_NoTown_NoTime_NoNote_NoNumber_NoOperation_Blocked_Closed_NoLeaf_TooMany mor) rfl m_isinstance PyProof.Rows.boot_isinstance (mb_cons (me_bvar 0) (mb_cons (pe_vb (me_tup (ma_cons (me_ty rfl m_IndexError (by kernel_rfl)) (ma_cons (me_ty rfl m_KeyError (by kernel_rfl)) (ma_cons (me_ty rfl m_NotImplementedError (by kernel_rfl)) ma_nil))))) mb_nil)))))))))))))))

def N__law_right : List Str := ["_law_box_here", "_law_values", "_law_made", "_law_named", "_law_some", "_law_spot", "_law_far", "_law_fields", "_law_kinds", "_law_its", "_law_at"]

theorem s__law_right : FnScope N__law_right ["_law_box_here"] (defScope (top 24)) := ⟨rfl, rfl, rfl, by decide +kernel, rfl, by decide +kernel, by decide +kernel⟩

theorem p__law_right (F : Fx P w K mg base (A.deeper (envOfC "_law_right" (defScope (top 24)) s.heap.objs.size f cdv)) n T C) (g_MOST : ∃ t, mg "MOST" = some (.int 300 t)) (m_all : mg "all" = none) (t_BadText_BadLine_Impossible_Misfit_Noted_OtherTowns_NoTown_NoTime_NoNote_NoNumber_NoOperation_Blocked_Closed_NoLeaf_TooMany : XTab K [("BadText", "ValueError"), ("BadLine", "ValueError"), ("Impossible", "ValueError"), ("Misfit", "ValueError"), ("Noted", "ValueError"), ("OtherTowns", "ValueError"), ("NoTown", "LookupError"), ("NoTime", "LookupError"), ("NoNote", "LookupError"), ("NoNumber", "LookupError"), ("NoOperation", "LookupError"), ("Blocked", "RuntimeError"), ("Closed", "RuntimeError"), ("NoLeaf", "RuntimeError"), ("TooMany", "OverflowError")]) (x_BadLine : XVal P w K mg base "BadLine" "number" (FmtOk K)) (x_BadText : XVal P w K mg base "BadText" "text" FmtR) (x_Blocked : XVal P w K mg base "Blocked" "pair" (FmtOk K)) (x_Closed : XVal P w K mg base "Closed" "town" (FmtOk K)) (x_Impossible : XVal P w K mg base "Impossible" "evidence" (FmtOk K)) (x_Misfit : XVal P w K mg base "Misfit" "time" (FmtOk K)) (x_NoLeaf : XVal P w K mg base "NoLeaf" "town" (FmtOk K)) (x_NoNote : XVal P w K mg base "NoNote" "note" (FmtOk K)) (x_NoNumber : XVal P w K mg base "NoNumber" "number" (FmtOk K)) (x_NoOperation : XVal P w K mg base "NoOperation" "many" (FmtOk K)) (x_NoTime : XVal P w K mg base "NoTime" "time" (FmtOk K)) (x_NoTown : XVal P w K mg base "NoTown" "town" (FmtOk K)) (x_Noted : XVal P w K mg base "Noted" "note" (FmtOk K)) (x_OtherTowns : XIn0 P w K mg base "OtherTowns") (x_TooMany : XVal P w K mg base "TooMany" "many" (FmtOk K)) (m_zip : mg "zip" = none) : PSs (XF P w K mg base N__law_right "_law_right" (defScope (top 24)) f cdv A outer s H E) (defBody (top 24)) (tS K E (b__law_right_k15 C)) := by
  have nd := s__law_right.nd
  have u3 := units_of F.room
  have u0 : (A.deeper (envOfC "_law_right" (defScope (top 24)) s.heap.objs.size f cdv)).units + 1 < cLine := by omega
  have u1 : (A.deeper (envOfC "_law_right" (defScope (top 24)) s.heap.objs.size f cdv)).units + 64 < cLine := by omega
  have u2 : (A.deeper (envOfC "_law_right" (defScope (top 24)) s.heap.objs.size f cdv)).units + 65 < cLine := by omega
  exact (mss_cons
  (ms_par2 (i := 5) (j := 6) rfl nd rfl rfl (by decide) rfl rfl (mr_cons (me_call F 238 rfl rfl (ma_cons (me_var 0) (ma_cons me_int ma_nil))) (mr_cons (me_call F 238 rfl rfl (ma_cons (me_var 0) (ma_cons (pe_fz (me_op mo_pow (pe_vb me_int) (pe_vb me_int))) ma_nil))) mr_nil)) rfl)
  (mss_cons
  (ms_set nd (i := 1) rfl (by first | exact Or.inl rfl | exact Or.inr rfl) (me_lst (ma_cons me_str (ma_cons (me_var 5) (ma_cons (me_tup (ma_cons me_str (ma_cons (me_var 5) ma_nil))) (ma_cons (me_var 5) (ma_cons (me_tup (ma_cons (me_var 5) (ma_cons me_str (ma_cons (pe_fz (me_op mo_add (me_bvar 5) (pe_vb me_int))) ma_nil)))) (ma_cons (pe_fz (me_op mo_sub (me_bvar 6) (pe_vb me_int))) (ma_cons (pe_fz (me_op mo_sub (me_bvar 6) (pe_vb me_int))) ma_nil)))))))))
  (mss_cons
  (ms_set nd (i := 1) rfl (by first | exact Or.inl rfl | exact Or.inr rfl) (me_op mo_add (me_bvar 1) (pe_vb (pe_fz (me_lst (ma_cons (me_tup (ma_cons (me_var 5) (ma_cons me_str (ma_cons (me_var 5) ma_nil)))) (ma_cons (me_var 6) ma_nil)))))))
  (mss_cons
  (ms_set nd (i := 1) rfl (by first | exact Or.inl rfl | exact Or.inr rfl) (me_op mo_add (me_bvar 1) (pe_vb (pe_fz (me_lst (ma_cons (pe_fz (me_op mo_add (pe_vb me_int) (me_bvar 5))) (ma_cons (me_tup (ma_cons (me_var 5) (ma_cons (pe_fz (me_op mo_add (me_bvar 5) (pe_vb me_int))) ma_nil))) (ma_cons (me_var 5) (ma_cons (me_var 5) (ma_cons (pe_fz (me_op mo_add (pe_vb me_int) (me_bvar 6))) ma_nil))))))))))
  (mss_cons
  (ms_set nd (i := 2) rfl (by first | exact Or.inl rfl | exact Or.inr rfl) (me_lst (ma_cons (me_newX x_BadText (says_fmtR _) F.room rfl (pe_fz (me_ix (mo_ix u2) (me_bvar 1) (pe_vb me_int) (fun _ _ => rfl)))) (ma_cons (me_newX x_BadLine (says_fmt _) F.room rfl (pe_fz (me_ix (mo_ix u2) (me_bvar 1) (pe_vb me_int) (fun _ _ => rfl)))) (ma_cons (me_newX x_Impossible (says_fmt _) F.room rfl (pe_fz (me_ix (mo_ix u2) (me_bvar 1) (pe_vb me_int) (fun _ _ => rfl)))) (ma_cons (me_newX x_Misfit (says_fmt _) F.room rfl (pe_fz (me_ix (mo_ix u2) (me_bvar 1) (pe_vb me_int) (fun _ _ => rfl)))) (ma_cons (me_newX x_Noted (says_fmt _) F.room rfl (pe_fz (me_ix (mo_ix u2) (me_bvar 1) (pe_vb me_int) (fun _ _ => rfl)))) ma_nil)))))))
  (mss_cons
  (ms_set nd (i := 2) rfl (by first | exact Or.inl rfl | exact Or.inr rfl) (me_op mo_add (me_bvar 2) (pe_vb (pe_fz (me_lst (ma_cons (me_newX x_NoTown (says_fmt _) F.room rfl (pe_fz (me_ix (mo_ix u2) (me_bvar 1) (pe_vb me_int) (fun _ _ => rfl)))) (ma_cons (me_newX x_NoTime (says_fmt _) F.room rfl (pe_fz (me_ix (mo_ix u2) (me_bvar 1) (pe_vb me_int) (fun _ _ => rfl)))) (ma_cons (me_newX x_NoNote (says_fmt _) F.room rfl (pe_fz (me_ix (mo_ix u2) (me_bvar 1) (pe_vb me_int) (fun _ _ => rfl)))) (ma_cons (me_newX x_NoNumber (says_fmt _) F.room rfl (pe_fz (me_ix (mo_ix u2) (me_bvar 1) (pe_vb me_int) (fun _ _ => rfl)))) ma_nil)))))))))
  (mss_cons
  (ms_set nd (i := 2) rfl (by first | exact Or.inl rfl | exact Or.inr rfl) (me_op mo_add (me_bvar 2) (pe_vb (pe_fz (me_lst (ma_cons (me_newX x_NoOperation (says_fmt _) F.room rfl (pe_fz (me_ix (mo_ix u2) (me_bvar 1) (pe_vb me_int) (fun _ _ => rfl)))) (ma_cons (me_newX x_Blocked (says_fmt _) F.room rfl (pe_fz (me_ix (mo_ix u2) (me_bvar 1) (pe_vb me_int) (fun _ _ => rfl)))) (ma_cons (me_newX x_Closed (says_fmt _) F.room rfl (pe_fz (me_ix (mo_ix u2) (me_bvar 1) (pe_vb me_int) (fun _ _ => rfl)))) (ma_cons (me_newX x_NoLeaf (says_fmt _) F.room rfl (pe_fz (me_ix (mo_ix u2) (me_bvar 1) (pe_vb me_int) (fun _ _ => rfl)))) ma_nil)))))))))
  (mss_cons
  (ms_app 2 (me_newX x_TooMany (says_fmt _) F.room rfl (pe_fz (me_ix (mo_ix u2) (me_bvar 1) (pe_vb me_int) (fun _ _ => rfl)))))
  (mss_cons
  (ms_set nd (i := 3) rfl (by first | exact Or.inl rfl | exact Or.inr rfl) (me_lst (ma_cons (me_newE x_BadText (says_fmtR _) F.room rfl (pe_fz (me_ix (mo_ix u2) (me_bvar 1) (pe_vb me_int) (fun _ _ => rfl)))) (ma_cons (me_newE x_BadLine (says_fmt _) F.room rfl (pe_fz (me_ix (mo_ix u2) (me_bvar 1) (pe_vb me_int) (fun _ _ => rfl)))) (ma_cons (me_newE x_Impossible (says_fmt _) F.room rfl (pe_fz (me_ix (mo_ix u2) (me_bvar 1) (pe_vb me_int) (fun _ _ => rfl)))) ma_nil)))))
  (mss_cons
  (ms_set nd (i := 3) rfl (by first | exact Or.inl rfl | exact Or.inr rfl) (me_op mo_add (me_bvar 3) (pe_vb (pe_fz (me_lst (ma_cons (me_newE x_Misfit (says_fmt _) F.room rfl (pe_fz (me_ix (mo_ix u2) (me_bvar 1) (pe_vb me_int) (fun _ _ => rfl)))) (ma_cons (me_newE x_Noted (says_fmt _) F.room rfl (pe_fz (me_ix (mo_ix u2) (me_bvar 1) (pe_vb me_int) (fun _ _ => rfl)))) (ma_cons (me_newE x_NoTown (says_fmt _) F.room rfl (pe_fz (me_ix (mo_ix u2) (me_bvar 1) (pe_vb me_int) (fun _ _ => rfl)))) ma_nil))))))))
  (mss_cons
  (ms_set nd (i := 3) rfl (by first | exact Or.inl rfl | exact Or.inr rfl) (me_op mo_add (me_bvar 3) (pe_vb (pe_fz (me_lst (ma_cons (me_newE x_NoTime (says_fmt _) F.room rfl (pe_fz (me_ix (mo_ix u2) (me_bvar 1) (pe_vb me_int) (fun _ _ => rfl)))) (ma_cons (me_newE x_NoNote (says_fmt _) F.room rfl (pe_fz (me_ix (mo_ix u2) (me_bvar 1) (pe_vb me_int) (fun _ _ => rfl)))) (ma_cons (me_newE x_NoNumber (says_fmt _) F.room rfl (pe_fz (me_ix (mo_ix u2) (me_bvar 1) (pe_vb me_int) (fun _ _ => rfl)))) ma_nil))))))))
  (mss_cons
  (ms_set nd (i := 3) rfl (by first | exact Or.inl rfl | exact Or.inr rfl) (me_op mo_add (me_bvar 3) (pe_vb (pe_fz (me_lst (ma_cons (me_newE x_NoOperation (says_fmt _) F.room rfl (pe_fz (me_ix (mo_ix u2) (me_bvar 1) (pe_vb me_int) (fun _ _ => rfl)))) (ma_cons (me_newE x_Blocked (says_fmt _) F.room rfl (pe_fz (me_ix (mo_ix u2) (me_bvar 1) (pe_vb me_int) (fun _ _ => rfl)))) (ma_cons (me_newE x_Closed (says_fmt _) F.room rfl (pe_fz (me_ix (mo_ix u2) (me_bvar 1) (pe_vb me_int) (fun _ _ => rfl)))) ma_nil))))))))
  (mss_cons
  (ms_set nd (i := 3) rfl (by first | exact Or.inl rfl | exact Or.inr rfl) (me_op mo_add (me_bvar 3) (pe_vb (pe_fz (me_lst (ma_cons (me_newE x_NoLeaf (says_fmt _) F.room rfl (pe_fz (me_ix (mo_ix u2) (me_bvar 1) (pe_vb me_int) (fun _ _ => rfl)))) (ma_cons (me_newE x_TooMany (says_fmt _) F.room rfl (pe_fz (me_ix (mo_ix u2) (me_bvar 1) (pe_vb me_int) (fun _ _ => rfl)))) ma_nil)))))))
  (mss_cons
  (ms_frz 3 (ms_frz 2 (ms_for po_nox rfl (mi_seq (me_tup (ma_cons (me_var 2) (ma_cons (me_var 3) ma_nil)))) (mg_name nd (i := 4) rfl (by first | exact Or.inl rfl | exact Or.inr rfl)) (mss_cons
  (ms_set nd (i := 7) rfl (by first | exact Or.inl rfl | exact Or.inr rfl) (me_lst (ma_cons (me_xf t_BadText_BadLine_Impossible_Misfit_Noted_OtherTowns_NoTown_NoTime_NoNote_NoNumber_NoOperation_Blocked_Closed_NoLeaf_TooMany (pe_fz (me_ix (mo_ix u2) (me_bvar 4) (pe_vb me_int) (fun _ _ => rfl)))) (ma_cons (me_xf t_BadText_BadLine_Impossible_Misfit_Noted_OtherTowns_NoTown_NoTime_NoNote_NoNumber_NoOperation_Blocked_Closed_NoLeaf_TooMany (pe_fz (me_ix (mo_ix u2) (me_bvar 4) (pe_vb me_int) (fun _ _ => rfl)))) (ma_cons (me_xf t_BadText_BadLine_Impossible_Misfit_Noted_OtherTowns_NoTown_NoTime_NoNote_NoNumber_NoOperation_Blocked_Closed_NoLeaf_TooMany (pe_fz (me_ix (mo_ix u2) (me_bvar 4) (pe_vb me_int) (fun _ _ => rfl)))) (ma_cons (me_xf t_BadText_BadLine_Impossible_Misfit_Noted_OtherTowns_NoTown_NoTime_NoNote_NoNumber_NoOperation_Blocked_Closed_NoLeaf_TooMany (pe_fz (me_ix (mo_ix u2) (me_bvar 4) (pe_vb me_int) (fun _ _ => rfl)))) (ma_cons (me_xf t_BadText_BadLine_Impossible_Misfit_Noted_OtherTowns_NoTown_NoTime_NoNote_NoNumber_NoOperation_Blocked_Closed_NoLeaf_TooMany (pe_fz (me_ix (mo_ix u2) (me_bvar 4) (pe_vb me_int) (fun _ _ => rfl)))) (ma_cons (me_xf t_BadText_BadLine_Impossible_Misfit_Noted_OtherTowns_NoTown_NoTime_NoNote_NoNumber_NoOperation_Blocked_Closed_NoLeaf_TooMany (pe_fz (me_ix (mo_ix u2) (me_bvar 4) (pe_vb me_int) (fun _ _ => rfl)))) ma_nil))))))))
  (mss_cons
  (ms_set nd (i := 7) rfl (by first | exact Or.inl rfl | exact Or.inr rfl) (me_op mo_add (me_bvar 7) (pe_vb (pe_fz (me_lst (ma_cons (me_xf t_BadText_BadLine_Impossible_Misfit_Noted_OtherTowns_NoTown_NoTime_NoNote_NoNumber_NoOperation_Blocked_Closed_NoLeaf_TooMany (pe_fz (me_ix (mo_ix u2) (me_bvar 4) (pe_vb me_int) (fun _ _ => rfl)))) (ma_cons (me_xf t_BadText_BadLine_Impossible_Misfit_Noted_OtherTowns_NoTown_NoTime_NoNote_NoNumber_NoOperation_Blocked_Closed_NoLeaf_TooMany (pe_fz (me_ix (mo_ix u2) (me_bvar 4) (pe_vb me_int) (fun _ _ => rfl)))) (ma_cons (me_xf t_BadText_BadLine_Impossible_Misfit_Noted_OtherTowns_NoTown_NoTime_NoNote_NoNumber_NoOperation_Blocked_Closed_NoLeaf_TooMany (pe_fz (me_ix (mo_ix u2) (me_bvar 4) (pe_vb me_int) (fun _ _ => rfl)))) (ma_cons (me_xf t_BadText_BadLine_Impossible_Misfit_Noted_OtherTowns_NoTown_NoTime_NoNote_NoNumber_NoOperation_Blocked_Closed_NoLeaf_TooMany (pe_fz (me_ix (mo_ix u2) (me_bvar 4) (pe_vb me_int) (fun _ _ => rfl)))) (ma_cons (me_xf t_BadText_BadLine_Impossible_Misfit_Noted_OtherTowns_NoTown_NoTime_NoNote_NoNumber_NoOperation_Blocked_Closed_NoLeaf_TooMany (pe_fz (me_ix (mo_ix u2) (me_bvar 4) (pe_vb me_int) (fun _ _ => rfl)))) ma_nil))))))))))
  (mss_cons
  (ms_frz 1 (ms_if (mt_not (mt_val (pe_fz (me_call F 213 rfl rfl (ma_cons (pe_fz (me_op mo_add (me_bvar 7) (pe_vb (pe_fz (me_lst (ma_cons (me_xf t_BadText_BadLine_Impossible_Misfit_Noted_OtherTowns_NoTown_NoTime_NoNote_NoNumber_NoOperation_Blocked_Closed_NoLeaf_TooMany (pe_fz (me_ix (mo_ix u2) (me_bvar 4) (pe_vb me_int) (fun _ _ => rfl)))) (ma_cons (me_xf t_BadText_BadLine_Impossible_Misfit_Noted_OtherTowns_NoTown_NoTime_NoNote_NoNumber_NoOperation_Blocked_Closed_NoLeaf_TooMany (pe_fz (me_ix (mo_ix u2) (me_bvar 4) (pe_vb me_int) (fun _ _ => rfl)))) (ma_cons (me_xf t_BadText_BadLine_Impossible_Misfit_Noted_OtherTowns_NoTown_NoTime_NoNote_NoNumber_NoOperation_Blocked_Closed_NoLeaf_TooMany (pe_fz (me_ix (mo_ix u2) (me_bvar 4) (pe_vb me_int) (fun _ _ => rfl)))) ma_nil)))))))) (ma_cons (me_var 1) ma_nil)))))) (mss_one (ms_ret (pe_vr me_bl))) mss_nil))
  (mss_cons
  (ms_set nd (i := 8) rfl (by first | exact Or.inl rfl | exact Or.inr rfl) (me_op mo_add (pe_vb (pe_fz (me_op mo_add (pe_vb (pe_fz (me_op mo_add (pe_vb (pe_fz (me_op mo_mul (pe_vb (pe_fz (me_lst (ma_cons me_int ma_nil)))) (pe_vb me_int)))) (pe_vb (pe_fz (me_op mo_mul (pe_vb (pe_fz (me_lst (ma_cons me_int ma_nil)))) (pe_vb me_int))))))) (pe_vb (pe_fz (me_op mo_mul (pe_vb (pe_fz (me_lst (ma_cons me_int ma_nil)))) (pe_vb me_int))))))) (pe_vb (pe_fz (me_lst (ma_cons me_int ma_nil))))))
  (mss_one (ms_frz 8 (ms_if (mt_not (mt_val (pe_fz (me_callB (mb_all rfl) rfl m_all PyProof.Rows.boot_all (mb_cons (pe_vb (pe_fz (me_comp (own := [("_law_its", 9), ("_law_at", 10)]) rfl nd (pi_fb (mi_zip rfl m_zip (me_var 4) (me_var 8))) (blk_of (by kernel_rfl)) (fun _ _ _ _ _ => (mg_tup rfl (mgs_cons (mg_name nd (i := 9) rfl (by first | exact Or.inl rfl | exact Or.inr rfl)) (mgs_cons (mg_name nd (i := 10) rfl (by first | exact Or.inl rfl | exact Or.inr rfl)) mgs_nil)) rfl)) (fun _ _ _ _ _ => mts_nil) (fun _ _ _ _ _ => (pe_fz (me_call F 111 rfl rfl (ma_cons (me_var 9) (ma_cons (me_var 10) ma_nil))))) (by decide)))) mb_nil))))) (mss_one (ms_ret (pe_vr me_bl))) mss_nil))))))))))
  (mss_one (ms_ret (pe_vr (me_and (pe_fz (me_call F 111 rfl rfl (ma_cons (me_new0 x_OtherTowns F.room rfl) (ma_cons me_int ma_nil)))) (me_one (pe_fz (me_cmp (mo_eq u1) (pe_vb (me_gint rfl g_MOST)) (pe_vb me_int) rfl)))))))))))))))))))))

def N_law : List Str := ["_law_script", "_law_k", "_law_box_here", "_law_turn"]

theorem s_law : FnScope N_law ["_law_script"] (defScope (top 25)) := ⟨rfl, rfl, rfl, by decide +kernel, rfl, by decide +kernel, by decide +kernel⟩

theorem p_law (F : Fx P w K mg base (A.deeper (envOfC "law" (defScope (top 25)) s.heap.objs.size f cdv)) n T C) (m_all : mg "all" = none) (m_len : mg "len" = none) (m_min : mg "min" = none) (m_range : mg "range" = none) : PSs (XF P w K mg base N_law "law" (defScope (top 25)) f cdv A outer s H E) (defBody (top 25)) (tS K E (b_law_k15 C)) := by
  have nd := s_law.nd
  have u3 := units_of F.room
  have u0 : (A.deeper (envOfC "law" (defScope (top 25)) s.heap.objs.size f cdv)).units + 1 < cLine := by omega
  have u1 : (A.deeper (envOfC "law" (defScope (top 25)) s.heap.objs.size f cdv)).units + 64 < cLine := by omega
  have u2 : (A.deeper (envOfC "law" (defScope (top 25)) s.heap.objs.size f cdv)).units + 65 < cLine := by omega
  exact (mss_cons
  (ms_for po_nox rfl (mi_range1 rfl m_range (pe_fz (me_op mo_add (pe_vb me_int) (pe_vb (pe_fz (me_callB (mb_min2 rfl) rfl m_min PyProof.Rows.boot_min (mb_cons (pe_vb me_int) (mb_cons (pe_vb (pe_fz (me_callB mb_len rfl m_len boot_len (mb_cons (me_bvar 0) mb_nil)))) mb_nil)))))))) (mg_name nd (i := 1) rfl (by first | exact Or.inl rfl | exact Or.inr rfl)) (mss_cons
  (ms_sh nd (i := 2) rfl (by first | exact Or.inl rfl | exact Or.inr rfl) (me_call F 24 rfl rfl (ma_cons (me_var 0) (ma_cons (me_var 1) ma_nil))))
  (mss_one (ms_if (mt_not (mt_val (pe_fz (me_callB (mb_all rfl) rfl m_all PyProof.Rows.boot_all (mb_cons (pe_vb (pe_fz (me_comp (own := [("_law_turn", 3)]) rfl nd (pi_fb (mi_range1 rfl m_range me_int)) (blk_of (by kernel_rfl)) (fun _ _ _ _ _ => (mg_name nd (i := 3) rfl (by first | exact Or.inl rfl | exact Or.inr rfl))) (fun _ _ _ _ _ => mts_nil) (fun _ _ _ _ _ => (pe_fz (me_call F 161 rfl rfl (ma_cons (me_var 2) ma_nil)))) (by decide)))) mb_nil))))) (mss_one (ms_ret (pe_vr me_bl))) mss_nil))))
  (mss_one (ms_ret (pe_vr me_bl))))

end
section
variable {P : Program} {w : World} {K : PySem.W.Frag} {mg : Str → Option Value} {base : Heap}
abbrev FnP (K : PySem.W.Frag) (x : Str) (i : Nat) (f : Addr) (fd : FuncData) : Prop := FunD K x x (defArgs (top i)) (defBody (top i)) (defScope (top i)) [] [] f fd
structure Facts (K : PySem.W.Frag) (mg : Str → Option Value) : Prop where
  d28 : ∃ a fd, FnP K "_law_cell_at" 18 a fd ∧ mg "_law_cell_at" = some (.ref a)
  d24 : ∃ a fd, FnP K "_law_box" 19 a fd ∧ mg "_law_box" = some (.ref a)
  d238 : ∃ a fd, FnP K "_law_take" 20 a fd ∧ mg "_law_take" = some (.ref a)
  d213 : ∃ a fd, FnP K "_law_same" 21 a fd ∧ mg "_law_same" = some (.ref a)
  d64 : ∃ a fd, FnP K "_law_flags" 22 a fd ∧ mg "_law_flags" = some (.ref a)
  d111 : ∃ a fd, FnP K "_law_one_right" 23 a fd ∧ mg "_law_one_right" = some (.ref a)
  d161 : ∃ a fd, FnP K "_law_right" 24 a fd ∧ mg "_law_right" = some (.ref a)
  d337 : ∃ a fd, FnP K "law" 25 a fd ∧ mg "law" = some (.ref a)
  m_IndexError : mg "IndexError" = none
  m_KeyError : mg "KeyError" = none
  m_LookupError : mg "LookupError" = none
  g_MOST : ∃ t, mg "MOST" = some (.int 300 t)
  m_NotImplementedError : mg "NotImplementedError" = none
  m_OverflowError : mg "OverflowError" = none
  m_RuntimeError : mg "RuntimeError" = none
  m_ValueError : mg "ValueError" = none
  m_abs : mg "abs" = none
  m_all : mg "all" = none
  m_bool : mg "bool" = none
  m_int : mg "int" = none
  m_isinstance : mg "isinstance" = none
  m_len : mg "len" = none
  m_list : mg "list" = none
  m_min : mg "min" = none
  m_range : mg "range" = none
  m_str : mg "str" = none
  m_tuple : mg "tuple" = none
  m_zip : mg "zip" = none
  c_BadLine : mg "BadLine" = some (.ref (He.ga K "BadLine"))
  c_BadText : mg "BadText" = some (.ref (He.ga K "BadText"))
  c_Blocked : mg "Blocked" = some (.ref (He.ga K "Blocked"))
  c_Closed : mg "Closed" = some (.ref (He.ga K "Closed"))
  c_Impossible : mg "Impossible" = some (.ref (He.ga K "Impossible"))
  c_Misfit : mg "Misfit" = some (.ref (He.ga K "Misfit"))
  c_NoLeaf : mg "NoLeaf" = some (.ref (He.ga K "NoLeaf"))
  c_NoNote : mg "NoNote" = some (.ref (He.ga K "NoNote"))
  c_NoNumber : mg "NoNumber" = some (.ref (He.ga K "NoNumber"))
  c_NoOperation : mg "NoOperation" = some (.ref (He.ga K "NoOperation"))
  c_NoTime : mg "NoTime" = some (.ref (He.ga K "NoTime"))
  c_NoTown : mg "NoTown" = some (.ref (He.ga K "NoTown"))
  c_Noted : mg "Noted" = some (.ref (He.ga K "Noted"))
  c_OtherTowns : mg "OtherTowns" = some (.ref (He.ga K "OtherTowns"))
  c_TooMany : mg "TooMany" = some (.ref (He.ga K "TooMany"))
  t_BadText_BadLine_Impossible_Misfit_Noted_OtherTowns_NoTown_NoTime_NoNote_NoNumber_NoOperation_Blocked_Closed_NoLeaf_TooMany : XTab K [("BadText", "ValueError"), ("BadLine", "ValueError"), ("Impossible", "ValueError"), ("Misfit", "ValueError"), ("Noted", "ValueError"), ("OtherTowns", "ValueError"), ("NoTown", "LookupError"), ("NoTime", "LookupError"), ("NoNote", "LookupError"), ("NoNumber", "LookupError"), ("NoOperation", "LookupError"), ("Blocked", "RuntimeError"), ("Closed", "RuntimeError"), ("NoLeaf", "RuntimeError"), ("TooMany", "OverflowError")]
  mor : XMore K [("BadText", "ValueError"), ("BadLine", "ValueError"), ("Impossible", "ValueError"), ("Misfit", "ValueError"), ("Noted", "ValueError"), ("OtherTowns", "ValueError"), ("NoTown", "LookupError"), ("NoTime", "LookupError"), ("NoNote", "LookupError"), ("NoNumber", "LookupError"), ("NoOperation", "LookupError"), ("Blocked", "RuntimeError"), ("Closed", "RuntimeError"), ("NoLeaf", "RuntimeError"), ("TooMany", "OverflowError")]
  x_BadLine : ∀ (P : Program) (w : World) (base : Heap), XVal P w K mg base "BadLine" "number" (FmtOk K)
  x_BadText : ∀ (P : Program) (w : World) (base : Heap), XVal P w K mg base "BadText" "text" FmtR
  x_Blocked : ∀ (P : Program) (w : World) (base : Heap), XVal P w K mg base "Blocked" "pair" (FmtOk K)
  x_Closed : ∀ (P : Program) (w : World) (base : Heap), XVal P w K mg base "Closed" "town" (FmtOk K)
  x_Impossible : ∀ (P : Program) (w : World) (base : Heap), XVal P w K mg base "Impossible" "evidence" (FmtOk K)
  x_Misfit : ∀ (P : Program) (w : World) (base : Heap), XVal P w K mg base "Misfit" "time" (FmtOk K)
  x_NoLeaf : ∀ (P : Program) (w : World) (base : Heap), XVal P w K mg base "NoLeaf" "town" (FmtOk K)
  x_NoNote : ∀ (P : Program) (w : World) (base : Heap), XVal P w K mg base "NoNote" "note" (FmtOk K)
  x_NoNumber : ∀ (P : Program) (w : World) (base : Heap), XVal P w K mg base "NoNumber" "number" (FmtOk K)
  x_NoOperation : ∀ (P : Program) (w : World) (base : Heap), XVal P w K mg base "NoOperation" "many" (FmtOk K)
  x_NoTime : ∀ (P : Program) (w : World) (base : Heap), XVal P w K mg base "NoTime" "time" (FmtOk K)
  x_NoTown : ∀ (P : Program) (w : World) (base : Heap), XVal P w K mg base "NoTown" "town" (FmtOk K)
  x_Noted : ∀ (P : Program) (w : World) (base : Heap), XVal P w K mg base "Noted" "note" (FmtOk K)
  x_OtherTowns : ∀ (P : Program) (w : World) (base : Heap), XIn0 P w K mg base "OtherTowns"
  x_TooMany : ∀ (P : Program) (w : World) (base : Heap), XVal P w K mg base "TooMany" "many" (FmtOk K)
theorem k__law_cell_at (fc : Facts K mg) : DefOk P w K mg base B 28 q__law_cell_at := by
  obtain ⟨a, fd, F, g⟩ := fc.d28
  exact ⟨a, fd, ["_law_script", "_law_k"], g, F.kp, F.bindsN (fun _ _ _ _ _ _ us hl => match us, hl with | [_, _], _ => rfl), rfl, at_of F rfl, fun n ih => fn_step F s__law_cell_at rfl rfl rfl fun cdv A outer s H E gd hr => p__law_cell_at (ih _ hr gd) fc.m_len⟩
theorem k__law_box (fc : Facts K mg) : DefOk P w K mg base B 24 q__law_box := by
  obtain ⟨a, fd, F, g⟩ := fc.d24
  exact ⟨a, fd, ["_law_script", "_law_k"], g, F.kp, F.bindsN (fun _ _ _ _ _ _ us hl => match us, hl with | [_, _], _ => rfl), rfl, at_of F rfl, fun n ih => fn_step F s__law_box rfl rfl rfl fun cdv A outer s H E gd hr => p__law_box (ih _ hr gd) fc.m_abs fc.m_int⟩
theorem k__law_take (fc : Facts K mg) : DefOk P w K mg base B 238 q__law_take := by
  obtain ⟨a, fd, F, g⟩ := fc.d238
  exact ⟨a, fd, ["_law_box_here", "_law_below"], g, F.kp, F.bindsN (fun _ _ _ _ _ _ us hl => match us, hl with | [_, _], _ => rfl), rfl, at_of F rfl, fun n ih => fn_step F s__law_take rfl rfl rfl fun cdv A outer s H E gd hr => p__law_take (ih _ hr gd)⟩
theorem k__law_same (fc : Facts K mg) : DefOk P w K mg base B 213 q__law_same_v0 := by
  obtain ⟨a, fd, F, g⟩ := fc.d213
  exact ⟨a, fd, ["_law_found", "_law_due"], g, F.kp, F.bindsN (fun _ _ _ _ _ _ us hl => match us, hl with | [_, _], _ => rfl), rfl, at_of F rfl, fun n ih => fn_step F s__law_same rfl rfl rfl fun cdv A outer s H E gd hr => p__law_same (ih _ hr gd) fc.m_all fc.m_bool fc.m_int fc.m_isinstance fc.m_len fc.m_list fc.m_str fc.m_tuple fc.m_zip⟩
theorem k__law_flags (fc : Facts K mg) : DefOk P w K mg base B 64 q__law_flags := by
  obtain ⟨a, fd, F, g⟩ := fc.d64
  exact ⟨a, fd, ["_law_made"], g, F.kp, F.bindsN (fun _ _ _ _ _ _ us hl => match us, hl with | [_], _ => rfl), rfl, at_of F rfl, fun n ih => fn_step F s__law_flags rfl rfl rfl fun cdv A outer s H E gd hr => p__law_flags (ih _ hr gd) fc.c_BadLine fc.c_BadText fc.c_Blocked fc.c_Closed fc.c_Impossible fc.c_Misfit fc.c_NoLeaf fc.c_NoNote fc.c_NoNumber fc.c_NoOperation fc.c_NoTime fc.c_NoTown fc.c_Noted fc.c_OtherTowns fc.c_TooMany fc.m_isinstance fc.t_BadText_BadLine_Impossible_Misfit_Noted_OtherTowns_NoTown_NoTime_NoNote_NoNumber_NoOperation_Blocked_Closed_NoLeaf_TooMany⟩
theorem k__law_one_right (fc : Facts K mg) : DefOk P w K mg base B 111 q__law_one_right_k15 := by
  obtain ⟨a, fd, F, g⟩ := fc.d111
  exact ⟨a, fd, ["_law_made", "_law_at"], g, F.kp, F.bindsN (fun _ _ _ _ _ _ us hl => match us, hl with | [_, _], _ => rfl), rfl, at_of F rfl, fun n ih => fn_step F s__law_one_right rfl rfl rfl fun cdv A outer s H E gd hr => p__law_one_right (ih _ hr gd) fc.m_IndexError fc.m_KeyError fc.m_LookupError fc.m_NotImplementedError fc.m_OverflowError fc.m_RuntimeError fc.m_ValueError fc.m_isinstance fc.mor fc.t_BadText_BadLine_Impossible_Misfit_Noted_OtherTowns_NoTown_NoTime_NoNote_NoNumber_NoOperation_Blocked_Closed_NoLeaf_TooMany⟩
theorem k__law_right (fc : Facts K mg) : DefOk P w K mg base B 161 q__law_right_k15 := by
  obtain ⟨a, fd, F, g⟩ := fc.d161
  exact ⟨a, fd, ["_law_box_here"], g, F.kp, F.bindsN (fun _ _ _ _ _ _ us hl => match us, hl with | [_], _ => rfl), rfl, at_of F rfl, fun n ih => fn_step F s__law_right rfl rfl rfl fun cdv A outer s H E gd hr => p__law_right (ih _ hr gd) fc.g_MOST fc.m_all fc.t_BadText_BadLine_Impossible_Misfit_Noted_OtherTowns_NoTown_NoTime_NoNote_NoNumber_NoOperation_Blocked_Closed_NoLeaf_TooMany (fc.x_BadLine _ _ _) (fc.x_BadText _ _ _) (fc.x_Blocked _ _ _) (fc.x_Closed _ _ _) (fc.x_Impossible _ _ _) (fc.x_Misfit _ _ _) (fc.x_NoLeaf _ _ _) (fc.x_NoNote _ _ _) (fc.x_NoNumber _ _ _) (fc.x_NoOperation _ _ _) (fc.x_NoTime _ _ _) (fc.x_NoTown _ _ _) (fc.x_Noted _ _ _) (fc.x_OtherTowns _ _ _) (fc.x_TooMany _ _ _) fc.m_zip⟩
theorem k_law (fc : Facts K mg) : DefOk P w K mg base B 337 q_law_k15 := by
  obtain ⟨a, fd, F, g⟩ := fc.d337
  exact ⟨a, fd, ["_law_script"], g, F.kp, F.bindsN (fun _ _ _ _ _ _ us hl => match us, hl with | [_], _ => rfl), rfl, at_of F rfl, fun n ih => fn_step F s_law rfl rfl rfl fun cdv A outer s H E gd hr => p_law (ih _ hr gd) fc.m_all fc.m_len fc.m_min fc.m_range⟩
theorem lookup_all {β : Type} {Q : Nat → β → Prop} : ∀ {l : List (Nat × β)}, (∀ p ∈ l, Q p.1 p.2) → ∀ i d, l.lookup i = some d → Q i d
  | [], _, _, _, h => by simp at h
  | (k, v) :: r, H, i, d, h => by
    rw [List.lookup_cons] at h
    split at h
    · rename_i e
      have e : i = k := by simpa using e
      cases h
      subst e
      exact H _ List.mem_cons_self
    · exact lookup_all (fun p hp => H p (List.mem_cons_of_mem _ hp)) i d h
theorem defs_ok (fc : Facts K mg) : ∀ i d, B i = some d → DefOk P w K mg base B i d := by
  refine lookup_all (l := tbl) ?_
  intro p hp
  unfold tbl at hp
  simp only [List.mem_cons, List.not_mem_nil, or_false] at hp
  rcases hp with rfl | rfl | rfl | rfl | rfl | rfl | rfl | rfl
  · exact k__law_cell_at fc
  · exact k__law_box fc
  · exact k__law_take fc
  · exact k__law_same fc
  · exact k__law_flags fc
  · exact k__law_one_right fc
  · exact k__law_right fc
  · exact k_law fc
end
/-! ### the head -/
def e28 : He.DefD := ⟨("_law_cell_at", none), "_law_cell_at", "_law_cell_at", defArgs (top 18), defBody (top 18), defScope (top 18), [], []⟩
def e24 : He.DefD := ⟨("_law_box", none), "_law_box", "_law_box", defArgs (top 19), defBody (top 19), defScope (top 19), [], []⟩
def e238 : He.DefD := ⟨("_law_take", none), "_law_take", "_law_take", defArgs (top 20), defBody (top 20), defScope (top 20), [], []⟩
def e213 : He.DefD := ⟨("_law_same", none), "_law_same", "_law_same", defArgs (top 21), defBody (top 21), defScope (top 21), [], []⟩
def e64 : He.DefD := ⟨("_law_flags", none), "_law_flags", "_law_flags", defArgs (top 22), defBody (top 22), defScope (top 22), [], []⟩
def e111 : He.DefD := ⟨("_law_one_right", none), "_law_one_right", "_law_one_right", defArgs (top 23), defBody (top 23), defScope (top 23), [], []⟩
def e161 : He.DefD := ⟨("_law_right", none), "_law_right", "_law_right", defArgs (top 24), defBody (top 24), defScope (top 24), [], []⟩
def e337 : He.DefD := ⟨("law", none), "law", "law", defArgs (top 25), defBody (top 25), defScope (top 25), [], []⟩
def mth (i k : Nat) : Stmt := (MP.clsB (top i)).getD k (.Pass ⟨0, 0, 0, 0⟩)
def e_init_BadLine : He.DefD := ⟨("BadLine", some "__init__"), "__init__", "BadLine.__init__", defArgs (mth 2 0), defBody (mth 2 0), defScope (mth 2 0), [], []⟩
theorem s_init_BadLine : FnScope ["self", "number"] ["self", "number"] (defScope (mth 2 0)) := ⟨rfl, rfl, rfl, by decide +kernel, rfl, by decide +kernel, by decide +kernel⟩
def e_init_BadText : He.DefD := ⟨("BadText", some "__init__"), "__init__", "BadText.__init__", defArgs (mth 1 0), defBody (mth 1 0), defScope (mth 1 0), [], []⟩
theorem s_init_BadText : FnScope ["self", "text"] ["self", "text"] (defScope (mth 1 0)) := ⟨rfl, rfl, rfl, by decide +kernel, rfl, by decide +kernel, by decide +kernel⟩
def e_init_Blocked : He.DefD := ⟨("Blocked", some "__init__"), "__init__", "Blocked.__init__", defArgs (mth 12 0), defBody (mth 12 0), defScope (mth 12 0), [], []⟩
theorem s_init_Blocked : FnScope ["self", "pair"] ["self", "pair"] (defScope (mth 12 0)) := ⟨rfl, rfl, rfl, by decide +kernel, rfl, by decide +kernel, by decide +kernel⟩
def e_init_Closed : He.DefD := ⟨("Closed", some "__init__"), "__init__", "Closed.__init__", defArgs (mth 13 0), defBody (mth 13 0), defScope (mth 13 0), [], []⟩
theorem s_init_Closed : FnScope ["self", "town"] ["self", "town"] (defScope (mth 13 0)) := ⟨rfl, rfl, rfl, by decide +kernel, rfl, by decide +kernel, by decide +kernel⟩
def e_init_Impossible : He.DefD := ⟨("Impossible", some "__init__"), "__init__", "Impossible.__init__", defArgs (mth 3 0), defBody (mth 3 0), defScope (mth 3 0), [], []⟩
theorem s_init_Impossible : FnScope ["self", "evidence"] ["self", "evidence"] (defScope (mth 3 0)) := ⟨rfl, rfl, rfl, by decide +kernel, rfl, by decide +kernel, by decide +kernel⟩
def e_init_Misfit : He.DefD := ⟨("Misfit", some "__init__"), "__init__", "Misfit.__init__", defArgs (mth 4 0), defBody (mth 4 0), defScope (mth 4 0), [], []⟩
theorem s_init_Misfit : FnScope ["self", "time"] ["self", "time"] (defScope (mth 4 0)) := ⟨rfl, rfl, rfl, by decide +kernel, rfl, by decide +kernel, by decide +kernel⟩
def e_init_NoLeaf : He.DefD := ⟨("NoLeaf", some "__init__"), "__init__", "NoLeaf.__init__", defArgs (mth 14 0), defBody (mth 14 0), defScope (mth 14 0), [], []⟩
theorem s_init_NoLeaf : FnScope ["self", "town"] ["self", "town"] (defScope (mth 14 0)) := ⟨rfl, rfl, rfl, by decide +kernel, rfl, by decide +kernel, by decide +kernel⟩
def e_init_NoNote : He.DefD := ⟨("NoNote", some "__init__"), "__init__", "NoNote.__init__", defArgs (mth 9 0), defBody (mth 9 0), defScope (mth 9 0), [], []⟩
theorem s_init_NoNote : FnScope ["self", "note"] ["self", "note"] (defScope (mth 9 0)) := ⟨rfl, rfl, rfl, by decide +kernel, rfl, by decide +kernel, by decide +kernel⟩
def e_init_NoNumber : He.DefD := ⟨("NoNumber", some "__init__"), "__init__", "NoNumber.__init__", defArgs (mth 10 0), defBody (mth 10 0), defScope (mth 10 0), [], []⟩
theorem s_init_NoNumber : FnScope ["self", "number"] ["self", "number"] (defScope (mth 10 0)) := ⟨rfl, rfl, rfl, by decide +kernel, rfl, by decide +kernel, by decide +kernel⟩
def e_init_NoOperation : He.DefD := ⟨("NoOperation", some "__init__"), "__init__", "NoOperation.__init__", defArgs (mth 11 0), defBody (mth 11 0), defScope (mth 11 0), [], []⟩
theorem s_init_NoOperation : FnScope ["self", "many"] ["self", "many"] (defScope (mth 11 0)) := ⟨rfl, rfl, rfl, by decide +kernel, rfl, by decide +kernel, by decide +kernel⟩
def e_init_NoTime : He.DefD := ⟨("NoTime", some "__init__"), "__init__", "NoTime.__init__", defArgs (mth 8 0), defBody (mth 8 0), defScope (mth 8 0), [], []⟩
theorem s_init_NoTime : FnScope ["self", "time"] ["self", "time"] (defScope (mth 8 0)) := ⟨rfl, rfl, rfl, by decide +kernel, rfl, by decide +kernel, by decide +kernel⟩
def e_init_NoTown : He.DefD := ⟨("NoTown", some "__init__"), "__init__", "NoTown.__init__", defArgs (mth 7 0), defBody (mth 7 0), defScope (mth 7 0), [], []⟩
theorem s_init_NoTown : FnScope ["self", "town"] ["self", "town"] (defScope (mth 7 0)) := ⟨rfl, rfl, rfl, by decide +kernel, rfl, by decide +kernel, by decide +kernel⟩
def e_init_Noted : He.DefD := ⟨("Noted", some "__init__"), "__init__", "Noted.__init__", defArgs (mth 5 0), defBody (mth 5 0), defScope (mth 5 0), [], []⟩
theorem s_init_Noted : FnScope ["self", "note"] ["self", "note"] (defScope (mth 5 0)) := ⟨rfl, rfl, rfl, by decide +kernel, rfl, by decide +kernel, by decide +kernel⟩
def e_init_OtherTowns : He.DefD := ⟨("OtherTowns", some "__init__"), "__init__", "OtherTowns.__init__", defArgs (mth 6 0), defBody (mth 6 0), defScope (mth 6 0), [], []⟩
theorem s_init_OtherTowns : FnScope ["self"] ["self"] (defScope (mth 6 0)) := ⟨rfl, rfl, rfl, by decide +kernel, rfl, by decide +kernel, by decide +kernel⟩
def e_init_TooMany : He.DefD := ⟨("TooMany", some "__init__"), "__init__", "TooMany.__init__", defArgs (mth 15 0), defBody (mth 15 0), defScope (mth 15 0), [], []⟩
theorem s_init_TooMany : FnScope ["self", "many"] ["self", "many"] (defScope (mth 15 0)) := ⟨rfl, rfl, rfl, by decide +kernel, rfl, by decide +kernel, by decide +kernel⟩
def fn : List He.DefD := [e28, e24, e238, e213, e64, e111, e161, e337, e_init_BadLine, e_init_BadText, e_init_Blocked, e_init_Closed, e_init_Impossible, e_init_Misfit, e_init_NoLeaf, e_init_NoNote, e_init_NoNumber, e_init_NoOperation, e_init_NoTime, e_init_NoTown, e_init_Noted, e_init_OtherTowns, e_init_TooMany]
def bx (K : PySem.W.Frag) : Bool := (MP.xtabB [("BadText", "ValueError"), ("BadLine", "ValueError"), ("Impossible", "ValueError"), ("Misfit", "ValueError"), ("Noted", "ValueError"), ("OtherTowns", "ValueError"), ("NoTown", "LookupError"), ("NoTime", "LookupError"), ("NoNote", "LookupError"), ("NoNumber", "LookupError"), ("NoOperation", "LookupError"), ("Blocked", "RuntimeError"), ("Closed", "RuntimeError"), ("NoLeaf", "RuntimeError"), ("TooMany", "OverflowError")] K) && ((MP.xinB "BadLine" "ValueError" "ValueError.__new__" "ValueError.__init__" [.type "ValueError", .type "Exception", .type "BaseException", .type "object"] ["number"] K) && ((MP.xinB "BadText" "ValueError" "ValueError.__new__" "ValueError.__init__" [.type "ValueError", .type "Exception", .type "BaseException", .type "object"] ["text"] K) && ((MP.xinB "Blocked" "RuntimeError" "RuntimeError.__new__" "RuntimeError.__init__" [.type "RuntimeError", .type "Exception", .type "BaseException", .type "object"] ["pair"] K) && ((MP.xinB "Closed" "RuntimeError" "RuntimeError.__new__" "RuntimeError.__init__" [.type "RuntimeError", .type "Exception", .type "BaseException", .type "object"] ["town"] K) && ((MP.xinB "Impossible" "ValueError" "ValueError.__new__" "ValueError.__init__" [.type "ValueError", .type "Exception", .type "BaseException", .type "object"] ["evidence"] K) && ((MP.xinB "Misfit" "ValueError" "ValueError.__new__" "ValueError.__init__" [.type "ValueError", .type "Exception", .type "BaseException", .type "object"] ["time"] K) && ((MP.xinB "NoLeaf" "RuntimeError" "RuntimeError.__new__" "RuntimeError.__init__" [.type "RuntimeError", .type "Exception", .type "BaseException", .type "object"] ["town"] K) && ((MP.xinB "NoNote" "LookupError" "LookupError.__new__" "LookupError.__init__" [.type "LookupError", .type "Exception", .type "BaseException", .type "object"] ["note"] K) && ((MP.xinB "NoNumber" "LookupError" "LookupError.__new__" "LookupError.__init__" [.type "LookupError", .type "Exception", .type "BaseException", .type "object"] ["number"] K) && ((MP.xinB "NoOperation" "LookupError" "LookupError.__new__" "LookupError.__init__" [.type "LookupError", .type "Exception", .type "BaseException", .type "object"] ["many"] K) && ((MP.xinB "NoTime" "LookupError" "LookupError.__new__" "LookupError.__init__" [.type "LookupError", .type "Exception", .type "BaseException", .type "object"] ["time"] K) && ((MP.xinB "NoTown" "LookupError" "LookupError.__new__" "LookupError.__init__" [.type "LookupError", .type "Exception", .type "BaseException", .type "object"] ["town"] K) && ((MP.xinB "Noted" "ValueError" "ValueError.__new__" "ValueError.__init__" [.type "ValueError", .type "Exception", .type "BaseException", .type "object"] ["note"] K) && ((MP.xinB "OtherTowns" "ValueError" "ValueError.__new__" "ValueError.__init__" [.type "ValueError", .type "Exception", .type "BaseException", .type "object"] [] K) && ((MP.xinB "TooMany" "OverflowError" "OverflowError.__new__" "OverflowError.__init__" [.type "OverflowError", .type "ArithmeticError", .type "Exception", .type "BaseException", .type "object"] ["many"] K) && ((MP.xmoreB [("BadText", "ValueError"), ("BadLine", "ValueError"), ("Impossible", "ValueError"), ("Misfit", "ValueError"), ("Noted", "ValueError"), ("OtherTowns", "ValueError"), ("NoTown", "LookupError"), ("NoTime", "LookupError"), ("NoNote", "LookupError"), ("NoNumber", "LookupError"), ("NoOperation", "LookupError"), ("Blocked", "RuntimeError"), ("Closed", "RuntimeError"), ("NoLeaf", "RuntimeError"), ("TooMany", "OverflowError")] K) && (true)))))))))))))))))
def fa_0 : List He.Fa := [.glo "_law_cell_at", .glo "_law_box", .glo "_law_take", .glo "_law_same", .glo "_law_flags", .glo "_law_one_right", .glo "_law_right", .glo "law", .free "IndexError", .free "KeyError", .free "LookupError", .int "MOST" 300, .free "NotImplementedError", .free "OverflowError", .free "RuntimeError", .free "ValueError", .free "abs", .free "all", .free "bool", .free "int", .free "isinstance", .free "len", .free "list", .free "min", .free "range"]
def fa_1 : List He.Fa := [.free "str", .free "tuple", .free "zip", .glo "BadLine", .glo "BadText", .glo "Blocked", .glo "Closed", .glo "Impossible", .glo "Misfit", .glo "NoLeaf", .glo "NoNote", .glo "NoNumber", .glo "NoOperation", .glo "NoTime", .glo "NoTown", .glo "Noted", .glo "OtherTowns", .glo "TooMany"]
def fa : List He.Fa := fa_0 ++ fa_1
abbrev Rw : PySem.W.OpenRow := PySem.W.OpenLaw.row PySem.Challenge.rw_lastroads_k15_errors_by_hand
abbrev hk : PySem.W.Hook := MP.hookX 5 bx fa fn
def ob (s : PySem.W.SharedT) : Bool × He.AlD := MP.obsXG 5 bx fa fn (HandSHeadRun.getT s)
theorem ob_eq (s : PySem.W.SharedT) : ob s = hk.obs s.abs := MP.obsXG_eq (HandSHeadRun.getT_eq s)
def names : List Str := ["_law_cell_at", "_law_box", "_law_take", "_law_same", "_law_flags", "_law_one_right", "_law_right", "BadText", "BadLine", "Impossible", "Misfit", "Noted", "OtherTowns", "NoTown", "NoTime", "NoNote", "NoNumber", "NoOperation", "Blocked", "Closed", "NoLeaf", "TooMany", "MOST"]
theorem run (w : World) : HandSHeadRun.RunEq Rw (PySem.W.view Rw.prog [25]) hk ob 4000 names w := by
  intro os
  kernel_rfl
theorem facts {K : PySem.W.Frag} {h : Heap} {mg : Str → Option Value} (X : K.In h) (G : h.Ns mainGlobals mg) (cb : bx K = true) (c : He.SaysD fa fn K) : Facts K mg where
  d28 := by
    obtain ⟨fd, F⟩ := c.def_ 0 (d := e28) rfl
    exact ⟨_, fd, F, He.glo_ok X G (c.fact 0 (f := .glo "_law_cell_at") rfl)⟩
  d24 := by
    obtain ⟨fd, F⟩ := c.def_ 1 (d := e24) rfl
    exact ⟨_, fd, F, He.glo_ok X G (c.fact 1 (f := .glo "_law_box") rfl)⟩
  d238 := by
    obtain ⟨fd, F⟩ := c.def_ 2 (d := e238) rfl
    exact ⟨_, fd, F, He.glo_ok X G (c.fact 2 (f := .glo "_law_take") rfl)⟩
  d213 := by
    obtain ⟨fd, F⟩ := c.def_ 3 (d := e213) rfl
    exact ⟨_, fd, F, He.glo_ok X G (c.fact 3 (f := .glo "_law_same") rfl)⟩
  d64 := by
    obtain ⟨fd, F⟩ := c.def_ 4 (d := e64) rfl
    exact ⟨_, fd, F, He.glo_ok X G (c.fact 4 (f := .glo "_law_flags") rfl)⟩
  d111 := by
    obtain ⟨fd, F⟩ := c.def_ 5 (d := e111) rfl
    exact ⟨_, fd, F, He.glo_ok X G (c.fact 5 (f := .glo "_law_one_right") rfl)⟩
  d161 := by
    obtain ⟨fd, F⟩ := c.def_ 6 (d := e161) rfl
    exact ⟨_, fd, F, He.glo_ok X G (c.fact 6 (f := .glo "_law_right") rfl)⟩
  d337 := by
    obtain ⟨fd, F⟩ := c.def_ 7 (d := e337) rfl
    exact ⟨_, fd, F, He.glo_ok X G (c.fact 7 (f := .glo "law") rfl)⟩
  m_IndexError := He.free_ok X G (c.fact 8 (f := .free "IndexError") rfl)
  m_KeyError := He.free_ok X G (c.fact 9 (f := .free "KeyError") rfl)
  m_LookupError := He.free_ok X G (c.fact 10 (f := .free "LookupError") rfl)
  g_MOST := He.int_ok X G (c.fact 11 (f := .int "MOST" 300) rfl)
  m_NotImplementedError := He.free_ok X G (c.fact 12 (f := .free "NotImplementedError") rfl)
  m_OverflowError := He.free_ok X G (c.fact 13 (f := .free "OverflowError") rfl)
  m_RuntimeError := He.free_ok X G (c.fact 14 (f := .free "RuntimeError") rfl)
  m_ValueError := He.free_ok X G (c.fact 15 (f := .free "ValueError") rfl)
  m_abs := He.free_ok X G (c.fact 16 (f := .free "abs") rfl)
  m_all := He.free_ok X G (c.fact 17 (f := .free "all") rfl)
  m_bool := He.free_ok X G (c.fact 18 (f := .free "bool") rfl)
  m_int := He.free_ok X G (c.fact 19 (f := .free "int") rfl)
  m_isinstance := He.free_ok X G (c.fact 20 (f := .free "isinstance") rfl)
  m_len := He.free_ok X G (c.fact 21 (f := .free "len") rfl)
  m_list := He.free_ok X G (c.fact 22 (f := .free "list") rfl)
  m_min := He.free_ok X G (c.fact 23 (f := .free "min") rfl)
  m_range := He.free_ok X G (c.fact 24 (f := .free "range") rfl)
  m_str := He.free_ok X G (c.fact 25 (f := .free "str") rfl)
  m_tuple := He.free_ok X G (c.fact 26 (f := .free "tuple") rfl)
  m_zip := He.free_ok X G (c.fact 27 (f := .free "zip") rfl)
  c_BadLine := He.glo_ok X G (c.fact 28 (f := .glo "BadLine") rfl)
  c_BadText := He.glo_ok X G (c.fact 29 (f := .glo "BadText") rfl)
  c_Blocked := He.glo_ok X G (c.fact 30 (f := .glo "Blocked") rfl)
  c_Closed := He.glo_ok X G (c.fact 31 (f := .glo "Closed") rfl)
  c_Impossible := He.glo_ok X G (c.fact 32 (f := .glo "Impossible") rfl)
  c_Misfit := He.glo_ok X G (c.fact 33 (f := .glo "Misfit") rfl)
  c_NoLeaf := He.glo_ok X G (c.fact 34 (f := .glo "NoLeaf") rfl)
  c_NoNote := He.glo_ok X G (c.fact 35 (f := .glo "NoNote") rfl)
  c_NoNumber := He.glo_ok X G (c.fact 36 (f := .glo "NoNumber") rfl)
  c_NoOperation := He.glo_ok X G (c.fact 37 (f := .glo "NoOperation") rfl)
  c_NoTime := He.glo_ok X G (c.fact 38 (f := .glo "NoTime") rfl)
  c_NoTown := He.glo_ok X G (c.fact 39 (f := .glo "NoTown") rfl)
  c_Noted := He.glo_ok X G (c.fact 40 (f := .glo "Noted") rfl)
  c_OtherTowns := He.glo_ok X G (c.fact 41 (f := .glo "OtherTowns") rfl)
  c_TooMany := He.glo_ok X G (c.fact 42 (f := .glo "TooMany") rfl)
  t_BadText_BadLine_Impossible_Misfit_Noted_OtherTowns_NoTown_NoTime_NoNote_NoNumber_NoOperation_Blocked_Closed_NoLeaf_TooMany := MP.xtabB_ok (MP.andL cb)
  mor := MP.xmoreB_ok (MP.andL (MP.andR (MP.andR (MP.andR (MP.andR (MP.andR (MP.andR (MP.andR (MP.andR (MP.andR (MP.andR (MP.andR (MP.andR (MP.andR (MP.andR (MP.andR (MP.andR cb)))))))))))))))))
  x_BadLine := fun P w base => by
    obtain ⟨fd, F⟩ := c.def_ 8 (d := e_init_BadLine) rfl
    have xi := MP.xinB_ok (MP.andL (MP.andR cb))
    have bt : mg "ValueError" = none := He.free_ok X G (c.fact 15 (f := .free "ValueError") rfl)
    have bi := F.bindsN (ps := ["self", "number"]) (fun _ _ _ _ _ _ us hl => match us, hl with | [_, _], _ => rfl)
    have fo := MP.init_fnG (P := P) (w := w) (mg := mg) (base := base) (newId := "ValueError.__new__") (bm := [.type "ValueError", .type "Exception", .type "BaseException", .type "object"]) (fl := "number") (Fp := MP.FmtOk K) F s_init_BadLine rfl rfl (fun cdv A outer s H E hr => MP.init_run MP.bf_ValueError rfl hr.units rfl bt xi.c rfl rfl (by first | exact Or.inl rfl | exact Or.inr (Or.inl rfl) | exact Or.inr (Or.inr rfl)) (by first | exact Or.inl rfl | exact Or.inr (Or.inl rfl) | exact Or.inr (Or.inr rfl)) (by decide) (by decide) (by decide) (by decide) (by decide +kernel) (.inr ⟨_, _, _, by decide +kernel, rfl⟩))
    exact ⟨⟨_, _, _, _, _, fd, _, MP.bf_ValueError, xi.o, xi.i, xi.t, xi.f _ List.mem_cons_self, fo, bi, MP.kwI_of F fun _ _ _ _ _ _ _ _ => rfl⟩, He.glo_ok X G (c.fact 28 (f := .glo "BadLine") rfl)⟩
  x_BadText := fun P w base => by
    obtain ⟨fd, F⟩ := c.def_ 9 (d := e_init_BadText) rfl
    have xi := MP.xinB_ok (MP.andL (MP.andR (MP.andR cb)))
    have bt : mg "ValueError" = none := He.free_ok X G (c.fact 15 (f := .free "ValueError") rfl)
    have bi := F.bindsN (ps := ["self", "text"]) (fun _ _ _ _ _ _ us hl => match us, hl with | [_, _], _ => rfl)
    have fo := MP.init_fnG (P := P) (w := w) (mg := mg) (base := base) (newId := "ValueError.__new__") (bm := [.type "ValueError", .type "Exception", .type "BaseException", .type "object"]) (fl := "text") (Fp := MP.FmtR) F s_init_BadText rfl rfl (fun cdv A outer s H E hr => MP.init_runR MP.bf_ValueError rfl rfl bt xi.c rfl rfl (by first | exact Or.inl rfl | exact Or.inr (Or.inl rfl) | exact Or.inr (Or.inr rfl)) (by first | exact Or.inl rfl | exact Or.inr (Or.inl rfl) | exact Or.inr (Or.inr rfl)) (by decide) (by decide) (by decide) (by decide) (by decide +kernel))
    exact ⟨⟨_, _, _, _, _, fd, _, MP.bf_ValueError, xi.o, xi.i, xi.t, xi.f _ List.mem_cons_self, fo, bi, MP.kwI_of F fun _ _ _ _ _ _ _ _ => rfl⟩, He.glo_ok X G (c.fact 29 (f := .glo "BadText") rfl)⟩
  x_Blocked := fun P w base => by
    obtain ⟨fd, F⟩ := c.def_ 10 (d := e_init_Blocked) rfl
    have xi := MP.xinB_ok (MP.andL (MP.andR (MP.andR (MP.andR cb))))
    have bt : mg "RuntimeError" = none := He.free_ok X G (c.fact 14 (f := .free "RuntimeError") rfl)
    have bi := F.bindsN (ps := ["self", "pair"]) (fun _ _ _ _ _ _ us hl => match us, hl with | [_, _], _ => rfl)
    have fo := MP.init_fnG (P := P) (w := w) (mg := mg) (base := base) (newId := "RuntimeError.__new__") (bm := [.type "RuntimeError", .type "Exception", .type "BaseException", .type "object"]) (fl := "pair") (Fp := MP.FmtOk K) F s_init_Blocked rfl rfl (fun cdv A outer s H E hr => MP.init_run MP.bf_RuntimeError rfl hr.units rfl bt xi.c rfl rfl (by first | exact Or.inl rfl | exact Or.inr (Or.inl rfl) | exact Or.inr (Or.inr rfl)) (by first | exact Or.inl rfl | exact Or.inr (Or.inl rfl) | exact Or.inr (Or.inr rfl)) (by decide) (by decide) (by decide) (by decide) (by decide +kernel) (.inl rfl))
    exact ⟨⟨_, _, _, _, _, fd, _, MP.bf_RuntimeError, xi.o, xi.i, xi.t, xi.f _ List.mem_cons_self, fo, bi, MP.kwI_of F fun _ _ _ _ _ _ _ _ => rfl⟩, He.glo_ok X G (c.fact 30 (f := .glo "Blocked") rfl)⟩
  x_Closed := fun P w base => by
    obtain ⟨fd, F⟩ := c.def_ 11 (d := e_init_Closed) rfl
    have xi := MP.xinB_ok (MP.andL (MP.andR (MP.andR (MP.andR (MP.andR cb)))))
    have bt : mg "RuntimeError" = none := He.free_ok X G (c.fact 14 (f := .free "RuntimeError") rfl)
    have bi := F.bindsN (ps := ["self", "town"]) (fun _ _ _ _ _ _ us hl => match us, hl with | [_, _], _ => rfl)
    have fo := MP.init_fnG (P := P) (w := w) (mg := mg) (base := base) (newId := "RuntimeError.__new__") (bm := [.type "RuntimeError", .type "Exception", .type "BaseException", .type "object"]) (fl := "town") (Fp := MP.FmtOk K) F s_init_Closed rfl rfl (fun cdv A outer s H E hr => MP.init_run MP.bf_RuntimeError rfl hr.units rfl bt xi.c rfl rfl (by first | exact Or.inl rfl | exact Or.inr (Or.inl rfl) | exact Or.inr (Or.inr rfl)) (by first | exact Or.inl rfl | exact Or.inr (Or.inl rfl) | exact Or.inr (Or.inr rfl)) (by decide) (by decide) (by decide) (by decide) (by decide +kernel) (.inr ⟨_, _, _, by decide +kernel, rfl⟩))
    exact ⟨⟨_, _, _, _, _, fd, _, MP.bf_RuntimeError, xi.o, xi.i, xi.t, xi.f _ List.mem_cons_self, fo, bi, MP.kwI_of F fun _ _ _ _ _ _ _ _ => rfl⟩, He.glo_ok X G (c.fact 31 (f := .glo "Closed") rfl)⟩
  x_Impossible := fun P w base => by
    obtain ⟨fd, F⟩ := c.def_ 12 (d := e_init_Impossible) rfl
    have xi := MP.xinB_ok (MP.andL (MP.andR (MP.andR (MP.andR (MP.andR (MP.andR cb))))))
    have bt : mg "ValueError" = none := He.free_ok X G (c.fact 15 (f := .free "ValueError") rfl)
    have bi := F.bindsN (ps := ["self", "evidence"]) (fun _ _ _ _ _ _ us hl => match us, hl with | [_, _], _ => rfl)
    have fo := MP.init_fnG (P := P) (w := w) (mg := mg) (base := base) (newId := "ValueError.__new__") (bm := [.type "ValueError", .type "Exception", .type "BaseException", .type "object"]) (fl := "evidence") (Fp := MP.FmtOk K) F s_init_Impossible rfl rfl (fun cdv A outer s H E hr => MP.init_run MP.bf_ValueError rfl hr.units rfl bt xi.c rfl rfl (by first | exact Or.inl rfl | exact Or.inr (Or.inl rfl) | exact Or.inr (Or.inr rfl)) (by first | exact Or.inl rfl | exact Or.inr (Or.inl rfl) | exact Or.inr (Or.inr rfl)) (by decide) (by decide) (by decide) (by decide) (by decide +kernel) (.inl rfl))
    exact ⟨⟨_, _, _, _, _, fd, _, MP.bf_ValueError, xi.o, xi.i, xi.t, xi.f _ List.mem_cons_self, fo, bi, MP.kwI_of F fun _ _ _ _ _ _ _ _ => rfl⟩, He.glo_ok X G (c.fact 32 (f := .glo "Impossible") rfl)⟩
  x_Misfit := fun P w base => by
    obtain ⟨fd, F⟩ := c.def_ 13 (d := e_init_Misfit) rfl
    have xi := MP.xinB_ok (MP.andL (MP.andR (MP.andR (MP.andR (MP.andR (MP.andR (MP.andR cb)))))))
    have bt : mg "ValueError" = none := He.free_ok X G (c.fact 15 (f := .free "ValueError") rfl)
    have bi := F.bindsN (ps := ["self", "time"]) (fun _ _ _ _ _ _ us hl => match us, hl with | [_, _], _ => rfl)
    have fo := MP.init_fnG (P := P) (w := w) (mg := mg) (base := base) (newId := "ValueError.__new__") (bm := [.type "ValueError", .type "Exception", .type "BaseException", .type "object"]) (fl := "time") (Fp := MP.FmtOk K) F s_init_Misfit rfl rfl (fun cdv A outer s H E hr => MP.init_run MP.bf_ValueError rfl hr.units rfl bt xi.c rfl rfl (by first | exact Or.inl rfl | exact Or.inr (Or.inl rfl) | exact Or.inr (Or.inr rfl)) (by first | exact Or.inl rfl | exact Or.inr (Or.inl rfl) | exact Or.inr (Or.inr rfl)) (by decide) (by decide) (by decide) (by decide) (by decide +kernel) (.inl rfl))
    exact ⟨⟨_, _, _, _, _, fd, _, MP.bf_ValueError, xi.o, xi.i, xi.t, xi.f _ List.mem_cons_self, fo, bi, MP.kwI_of F fun _ _ _ _ _ _ _ _ => rfl⟩, He.glo_ok X G (c.fact 33 (f := .glo "Misfit") rfl)⟩
  x_NoLeaf := fun P w base => by
    obtain ⟨fd, F⟩ := c.def_ 14 (d := e_init_NoLeaf) rfl
    have xi := MP.xinB_ok (MP.andL (MP.andR (MP.andR (MP.andR (MP.andR (MP.andR (MP.andR (MP.andR cb))))))))
    have bt : mg "RuntimeError" = none := He.free_ok X G (c.fact 14 (f := .free "RuntimeError") rfl)
    have bi := F.bindsN (ps := ["self", "town"]) (fun _ _ _ _ _ _ us hl => match us, hl with | [_, _], _ => rfl)
    have fo := MP.init_fnG (P := P) (w := w) (mg := mg) (base := base) (newId := "RuntimeError.__new__") (bm := [.type "RuntimeError", .type "Exception", .type "BaseException", .type "object"]) (fl := "town") (Fp := MP.FmtOk K) F s_init_NoLeaf rfl rfl (fun cdv A outer s H E hr => MP.init_run MP.bf_RuntimeError rfl hr.units rfl bt xi.c rfl rfl (by first | exact Or.inl rfl | exact Or.inr (Or.inl rfl) | exact Or.inr (Or.inr rfl)) (by first | exact Or.inl rfl | exact Or.inr (Or.inl rfl) | exact Or.inr (Or.inr rfl)) (by decide) (by decide) (by decide) (by decide) (by decide +kernel) (.inr ⟨_, _, _, by decide +kernel, rfl⟩))
    exact ⟨⟨_, _, _, _, _, fd, _, MP.bf_RuntimeError, xi.o, xi.i, xi.t, xi.f _ List.mem_cons_self, fo, bi, MP.kwI_of F fun _ _ _ _ _ _ _ _ => rfl⟩, He.glo_ok X G (c.fact 34 (f := .glo "NoLeaf") rfl)⟩
  x_NoNote := fun P w base => by
    obtain ⟨fd, F⟩ := c.def_ 15 (d := e_init_NoNote) rfl
    have xi := MP.xinB_ok (MP.andL (MP.andR (MP.andR (MP.andR (MP.andR (MP.andR (MP.andR (MP.andR (MP.andR cb)))))))))
    have bt : mg "LookupError" = none := He.free_ok X G (c.fact 10 (f := .free "LookupError") rfl)
    have bi := F.bindsN (ps := ["self", "note"]) (fun _ _ _ _ _ _ us hl => match us, hl with | [_, _], _ => rfl)
    have fo := MP.init_fnG (P := P) (w := w) (mg := mg) (base := base) (newId := "LookupError.__new__") (bm := [.type "LookupError", .type "Exception", .type "BaseException", .type "object"]) (fl := "note") (Fp := MP.FmtOk K) F s_init_NoNote rfl rfl (fun cdv A outer s H E hr => MP.init_run MP.bf_LookupError rfl hr.units rfl bt xi.c rfl rfl (by first | exact Or.inl rfl | exact Or.inr (Or.inl rfl) | exact Or.inr (Or.inr rfl)) (by first | exact Or.inl rfl | exact Or.inr (Or.inl rfl) | exact Or.inr (Or.inr rfl)) (by decide) (by decide) (by decide) (by decide) (by decide +kernel) (.inl rfl))
    exact ⟨⟨_, _, _, _, _, fd, _, MP.bf_LookupError, xi.o, xi.i, xi.t, xi.f _ List.mem_cons_self, fo, bi, MP.kwI_of F fun _ _ _ _ _ _ _ _ => rfl⟩, He.glo_ok X G (c.fact 35 (f := .glo "NoNote") rfl)⟩
  x_NoNumber := fun P w base => by
    obtain ⟨fd, F⟩ := c.def_ 16 (d := e_init_NoNumber) rfl
    have xi := MP.xinB_ok (MP.andL (MP.andR (MP.andR (MP.andR (MP.andR (MP.andR (MP.andR (MP.andR (MP.andR (MP.andR cb))))))))))
    have bt : mg "LookupError" = none := He.free_ok X G (c.fact 10 (f := .free "LookupError") rfl)
    have bi := F.bindsN (ps := ["self", "number"]) (fun _ _ _ _ _ _ us hl => match us, hl with | [_, _], _ => rfl)
    have fo := MP.init_fnG (P := P) (w := w) (mg := mg) (base := base) (newId := "LookupError.__new__") (bm := [.type "LookupError", .type "Exception", .type "BaseException", .type "object"]) (fl := "number") (Fp := MP.FmtOk K) F s_init_NoNumber rfl rfl (fun cdv A outer s H E hr => MP.init_run MP.bf_LookupError rfl hr.units rfl bt xi.c rfl rfl (by first | exact Or.inl rfl | exact Or.inr (Or.inl rfl) | exact Or.inr (Or.inr rfl)) (by first | exact Or.inl rfl | exact Or.inr (Or.inl rfl) | exact Or.inr (Or.inr rfl)) (by decide) (by decide) (by decide) (by decide) (by decide +kernel) (.inl rfl))
    exact ⟨⟨_, _, _, _, _, fd, _, MP.bf_LookupError, xi.o, xi.i, xi.t, xi.f _ List.mem_cons_self, fo, bi, MP.kwI_of F fun _ _ _ _ _ _ _ _ => rfl⟩, He.glo_ok X G (c.fact 36 (f := .glo "NoNumber") rfl)⟩
  x_NoOperation := fun P w base => by
    obtain ⟨fd, F⟩ := c.def_ 17 (d := e_init_NoOperation) rfl
    have xi := MP.xinB_ok (MP.andL (MP.andR (MP.andR (MP.andR (MP.andR (MP.andR (MP.andR (MP.andR (MP.andR (MP.andR (MP.andR cb)))))))))))
    have bt : mg "LookupError" = none := He.free_ok X G (c.fact 10 (f := .free "LookupError") rfl)
    have bi := F.bindsN (ps := ["self", "many"]) (fun _ _ _ _ _ _ us hl => match us, hl with | [_, _], _ => rfl)
    have fo := MP.init_fnG (P := P) (w := w) (mg := mg) (base := base) (newId := "LookupError.__new__") (bm := [.type "LookupError", .type "Exception", .type "BaseException", .type "object"]) (fl := "many") (Fp := MP.FmtOk K) F s_init_NoOperation rfl rfl (fun cdv A outer s H E hr => MP.init_run MP.bf_LookupError rfl hr.units rfl bt xi.c rfl rfl (by first | exact Or.inl rfl | exact Or.inr (Or.inl rfl) | exact Or.inr (Or.inr rfl)) (by first | exact Or.inl rfl | exact Or.inr (Or.inl rfl) | exact Or.inr (Or.inr rfl)) (by decide) (by decide) (by decide) (by decide) (by decide +kernel) (.inr ⟨_, _, _, by decide +kernel, rfl⟩))
    exact ⟨⟨_, _, _, _, _, fd, _, MP.bf_LookupError, xi.o, xi.i, xi.t, xi.f _ List.mem_cons_self, fo, bi, MP.kwI_of F fun _ _ _ _ _ _ _ _ => rfl⟩, He.glo_ok X G (c.fact 37 (f := .glo "NoOperation") rfl)⟩
  x_NoTime := fun P w base => by
    obtain ⟨fd, F⟩ := c.def_ 18 (d := e_init_NoTime) rfl
    have xi := MP.xinB_ok (MP.andL (MP.andR (MP.andR (MP.andR (MP.andR (MP.andR (MP.andR (MP.andR (MP.andR (MP.andR (MP.andR (MP.andR cb))))))))))))
    have bt : mg "LookupError" = none := He.free_ok X G (c.fact 10 (f := .free "LookupError") rfl)
    have bi := F.bindsN (ps := ["self", "time"]) (fun _ _ _ _ _ _ us hl => match us, hl with | [_, _], _ => rfl)
    have fo := MP.init_fnG (P := P) (w := w) (mg := mg) (base := base) (newId := "LookupError.__new__") (bm := [.type "LookupError", .type "Exception", .type "BaseException", .type "object"]) (fl := "time") (Fp := MP.FmtOk K) F s_init_NoTime rfl rfl (fun cdv A outer s H E hr => MP.init_run MP.bf_LookupError rfl hr.units rfl bt xi.c rfl rfl (by first | exact Or.inl rfl | exact Or.inr (Or.inl rfl) | exact Or.inr (Or.inr rfl)) (by first | exact Or.inl rfl | exact Or.inr (Or.inl rfl) | exact Or.inr (Or.inr rfl)) (by decide) (by decide) (by decide) (by decide) (by decide +kernel) (.inl rfl))
    exact ⟨⟨_, _, _, _, _, fd, _, MP.bf_LookupError, xi.o, xi.i, xi.t, xi.f _ List.mem_cons_self, fo, bi, MP.kwI_of F fun _ _ _ _ _ _ _ _ => rfl⟩, He.glo_ok X G (c.fact 38 (f := .glo "NoTime") rfl)⟩
  x_NoTown := fun P w base => by
    obtain ⟨fd, F⟩ := c.def_ 19 (d := e_init_NoTown) rfl
    have xi := MP.xinB_ok (MP.andL (MP.andR (MP.andR (MP.andR (MP.andR (MP.andR (MP.andR (MP.andR (MP.andR (MP.andR (MP.andR (MP.andR (MP.andR cb)))))))))))))
    have bt : mg "LookupError" = none := He.free_ok X G (c.fact 10 (f := .free "LookupError") rfl)
    have bi := F.bindsN (ps := ["self", "town"]) (fun _ _ _ _ _ _ us hl => match us, hl with | [_, _], _ => rfl)
    have fo := MP.init_fnG (P := P) (w := w) (mg := mg) (base := base) (newId := "LookupError.__new__") (bm := [.type "LookupError", .type "Exception", .type "BaseException", .type "object"]) (fl := "town") (Fp := MP.FmtOk K) F s_init_NoTown rfl rfl (fun cdv A outer s H E hr => MP.init_run MP.bf_LookupError rfl hr.units rfl bt xi.c rfl rfl (by first | exact Or.inl rfl | exact Or.inr (Or.inl rfl) | exact Or.inr (Or.inr rfl)) (by first | exact Or.inl rfl | exact Or.inr (Or.inl rfl) | exact Or.inr (Or.inr rfl)) (by decide) (by decide) (by decide) (by decide) (by decide +kernel) (.inl rfl))
    exact ⟨⟨_, _, _, _, _, fd, _, MP.bf_LookupError, xi.o, xi.i, xi.t, xi.f _ List.mem_cons_self, fo, bi, MP.kwI_of F fun _ _ _ _ _ _ _ _ => rfl⟩, He.glo_ok X G (c.fact 39 (f := .glo "NoTown") rfl)⟩
  x_Noted := fun P w base => by
    obtain ⟨fd, F⟩ := c.def_ 20 (d := e_init_Noted) rfl
    have xi := MP.xinB_ok (MP.andL (MP.andR (MP.andR (MP.andR (MP.andR (MP.andR (MP.andR (MP.andR (MP.andR (MP.andR (MP.andR (MP.andR (MP.andR (MP.andR cb))))))))))))))
    have bt : mg "ValueError" = none := He.free_ok X G (c.fact 15 (f := .free "ValueError") rfl)
    have bi := F.bindsN (ps := ["self", "note"]) (fun _ _ _ _ _ _ us hl => match us, hl with | [_, _], _ => rfl)
    have fo := MP.init_fnG (P := P) (w := w) (mg := mg) (base := base) (newId := "ValueError.__new__") (bm := [.type "ValueError", .type "Exception", .type "BaseException", .type "object"]) (fl := "note") (Fp := MP.FmtOk K) F s_init_Noted rfl rfl (fun cdv A outer s H E hr => MP.init_run MP.bf_ValueError rfl hr.units rfl bt xi.c rfl rfl (by first | exact Or.inl rfl | exact Or.inr (Or.inl rfl) | exact Or.inr (Or.inr rfl)) (by first | exact Or.inl rfl | exact Or.inr (Or.inl rfl) | exact Or.inr (Or.inr rfl)) (by decide) (by decide) (by decide) (by decide) (by decide +kernel) (.inl rfl))
    exact ⟨⟨_, _, _, _, _, fd, _, MP.bf_ValueError, xi.o, xi.i, xi.t, xi.f _ List.mem_cons_self, fo, bi, MP.kwI_of F fun _ _ _ _ _ _ _ _ => rfl⟩, He.glo_ok X G (c.fact 40 (f := .glo "Noted") rfl)⟩
  x_OtherTowns := fun P w base => by
    obtain ⟨fd, F⟩ := c.def_ 21 (d := e_init_OtherTowns) rfl
    have xi := MP.xinB_ok (MP.andL (MP.andR (MP.andR (MP.andR (MP.andR (MP.andR (MP.andR (MP.andR (MP.andR (MP.andR (MP.andR (MP.andR (MP.andR (MP.andR (MP.andR cb)))))))))))))))
    have bt : mg "ValueError" = none := He.free_ok X G (c.fact 15 (f := .free "ValueError") rfl)
    have bi := F.bindsN (ps := ["self"]) (fun _ _ _ _ _ _ us hl => match us, hl with | [_], _ => rfl)
    have fo := MP.init_fn0 (P := P) (w := w) (mg := mg) (base := base) (newId := "ValueError.__new__") (bm := [.type "ValueError", .type "Exception", .type "BaseException", .type "object"]) F s_init_OtherTowns rfl rfl (fun cdv A outer s H E hr => MP.init_run0 MP.bf_ValueError rfl rfl bt xi.c rfl (by first | exact Or.inl rfl | exact Or.inr (Or.inl rfl) | exact Or.inr (Or.inr rfl)) (by decide) (by decide))
    exact ⟨⟨_, _, _, _, _, fd, _, MP.bf_ValueError, xi.o, xi.i, xi.t, fo, bi⟩, He.glo_ok X G (c.fact 41 (f := .glo "OtherTowns") rfl)⟩
  x_TooMany := fun P w base => by
    obtain ⟨fd, F⟩ := c.def_ 22 (d := e_init_TooMany) rfl
    have xi := MP.xinB_ok (MP.andL (MP.andR (MP.andR (MP.andR (MP.andR (MP.andR (MP.andR (MP.andR (MP.andR (MP.andR (MP.andR (MP.andR (MP.andR (MP.andR (MP.andR (MP.andR cb))))))))))))))))
    have bt : mg "OverflowError" = none := He.free_ok X G (c.fact 13 (f := .free "OverflowError") rfl)
    have bi := F.bindsN (ps := ["self", "many"]) (fun _ _ _ _ _ _ us hl => match us, hl with | [_, _], _ => rfl)
    have fo := MP.init_fnG (P := P) (w := w) (mg := mg) (base := base) (newId := "OverflowError.__new__") (bm := [.type "OverflowError", .type "ArithmeticError", .type "Exception", .type "BaseException", .type "object"]) (fl := "many") (Fp := MP.FmtOk K) F s_init_TooMany rfl rfl (fun cdv A outer s H E hr => MP.init_run MP.bf_OverflowError rfl hr.units rfl bt xi.c rfl rfl (by first | exact Or.inl rfl | exact Or.inr (Or.inl rfl) | exact Or.inr (Or.inr rfl)) (by first | exact Or.inl rfl | exact Or.inr (Or.inl rfl) | exact Or.inr (Or.inr rfl)) (by decide) (by decide) (by decide) (by decide) (by decide +kernel) (.inl rfl))
    exact ⟨⟨_, _, _, _, _, fd, _, MP.bf_OverflowError, xi.o, xi.i, xi.t, xi.f _ List.mem_cons_self, fo, bi, MP.kwI_of F fun _ _ _ _ _ _ _ _ => rfl⟩, He.glo_ok X G (c.fact 42 (f := .glo "TooMany") rfl)⟩
end K15

namespace K15
open PySem PySem.Spec MP
/-! ### an error, its kinds -/
theorem one0 (n : Nat) (S : Sto) : callN B (n + 2) 111 [.ex0 "OtherTowns", .int 0] S = .ok (.v (.bl true)) S := by kernel_rfl
theorem one_BadText (n : Nat) (v : D) (S : Sto) : callN B (n + 2) 111 [.ex "BadText" "text" v, .int 0] S = .ok (.v (.bl true)) S := by kernel_rfl
theorem one_BadLine (n : Nat) (v : D) (S : Sto) : callN B (n + 2) 111 [.ex "BadLine" "number" v, .int 0] S = .ok (.v (.bl true)) S := by kernel_rfl
theorem one_Impossible (n : Nat) (v : D) (S : Sto) : callN B (n + 2) 111 [.ex "Impossible" "evidence" v, .int 0] S = .ok (.v (.bl true)) S := by kernel_rfl
theorem one_Misfit (n : Nat) (v : D) (S : Sto) : callN B (n + 2) 111 [.ex "Misfit" "time" v, .int 0] S = .ok (.v (.bl true)) S := by kernel_rfl
theorem one_Noted (n : Nat) (v : D) (S : Sto) : callN B (n + 2) 111 [.ex "Noted" "note" v, .int 0] S = .ok (.v (.bl true)) S := by kernel_rfl
theorem one_NoTown (n : Nat) (v : D) (S : Sto) : callN B (n + 2) 111 [.ex "NoTown" "town" v, .int 1] S = .ok (.v (.bl true)) S := by kernel_rfl
theorem one_NoTime (n : Nat) (v : D) (S : Sto) : callN B (n + 2) 111 [.ex "NoTime" "time" v, .int 1] S = .ok (.v (.bl true)) S := by kernel_rfl
theorem one_NoNote (n : Nat) (v : D) (S : Sto) : callN B (n + 2) 111 [.ex "NoNote" "note" v, .int 1] S = .ok (.v (.bl true)) S := by kernel_rfl
theorem one_NoNumber (n : Nat) (v : D) (S : Sto) : callN B (n + 2) 111 [.ex "NoNumber" "number" v, .int 1] S = .ok (.v (.bl true)) S := by kernel_rfl
theorem one_NoOperation (n : Nat) (v : D) (S : Sto) : callN B (n + 2) 111 [.ex "NoOperation" "many" v, .int 1] S = .ok (.v (.bl true)) S := by kernel_rfl
theorem one_Blocked (n : Nat) (v : D) (S : Sto) : callN B (n + 2) 111 [.ex "Blocked" "pair" v, .int 2] S = .ok (.v (.bl true)) S := by kernel_rfl
theorem one_Closed (n : Nat) (v : D) (S : Sto) : callN B (n + 2) 111 [.ex "Closed" "town" v, .int 2] S = .ok (.v (.bl true)) S := by kernel_rfl
theorem one_NoLeaf (n : Nat) (v : D) (S : Sto) : callN B (n + 2) 111 [.ex "NoLeaf" "town" v, .int 2] S = .ok (.v (.bl true)) S := by kernel_rfl
theorem one_TooMany (n : Nat) (v : D) (S : Sto) : callN B (n + 2) 111 [.ex "TooMany" "many" v, .int 3] S = .ok (.v (.bl true)) S := by kernel_rfl
/-! ### items of a list of fourteen -/
section
variable (a0 a1 a2 a3 a4 a5 a6 a7 a8 a9 a10 a11 a12 a13 : D) (S : Sto)
theorem jx0 : ixD [a0, a1, a2, a3, a4, a5, a6, a7, a8, a9, a10, a11, a12, a13] 0 = some a0 := rfl
theorem jx1 : ixD [a0, a1, a2, a3, a4, a5, a6, a7, a8, a9, a10, a11, a12, a13] 1 = some a1 := rfl
theorem jx2 : ixD [a0, a1, a2, a3, a4, a5, a6, a7, a8, a9, a10, a11, a12, a13] 2 = some a2 := rfl
theorem jx3 : ixD [a0, a1, a2, a3, a4, a5, a6, a7, a8, a9, a10, a11, a12, a13] 3 = some a3 := rfl
theorem jx4 : ixD [a0, a1, a2, a3, a4, a5, a6, a7, a8, a9, a10, a11, a12, a13] 4 = some a4 := rfl
theorem jx5 : ixD [a0, a1, a2, a3, a4, a5, a6, a7, a8, a9, a10, a11, a12, a13] 5 = some a5 := rfl
theorem jx6 : ixD [a0, a1, a2, a3, a4, a5, a6, a7, a8, a9, a10, a11, a12, a13] 6 = some a6 := rfl
theorem jx7 : ixD [a0, a1, a2, a3, a4, a5, a6, a7, a8, a9, a10, a11, a12, a13] 7 = some a7 := rfl
theorem jx8 : ixD [a0, a1, a2, a3, a4, a5, a6, a7, a8, a9, a10, a11, a12, a13] 8 = some a8 := rfl
theorem jx9 : ixD [a0, a1, a2, a3, a4, a5, a6, a7, a8, a9, a10, a11, a12, a13] 9 = some a9 := rfl
theorem jx10 : ixD [a0, a1, a2, a3, a4, a5, a6, a7, a8, a9, a10, a11, a12, a13] 10 = some a10 := rfl
theorem jx11 : ixD [a0, a1, a2, a3, a4, a5, a6, a7, a8, a9, a10, a11, a12, a13] 11 = some a11 := rfl
theorem jx12 : ixD [a0, a1, a2, a3, a4, a5, a6, a7, a8, a9, a10, a11, a12, a13] 12 = some a12 := rfl
theorem jx13 : ixD [a0, a1, a2, a3, a4, a5, a6, a7, a8, a9, a10, a11, a12, a13] 13 = some a13 := rfl
theorem ix0 : fIx (.lst [a0, a1, a2, a3, a4, a5, a6, a7, a8, a9, a10, a11, a12, a13]) (.int 0) S = .ok (.v a0) S := rfl
theorem ix1 : fIx (.lst [a0, a1, a2, a3, a4, a5, a6, a7, a8, a9, a10, a11, a12, a13]) (.int 1) S = .ok (.v a1) S := rfl
theorem ix2 : fIx (.lst [a0, a1, a2, a3, a4, a5, a6, a7, a8, a9, a10, a11, a12, a13]) (.int 2) S = .ok (.v a2) S := rfl
theorem ix3 : fIx (.lst [a0, a1, a2, a3, a4, a5, a6, a7, a8, a9, a10, a11, a12, a13]) (.int 3) S = .ok (.v a3) S := rfl
theorem ix4 : fIx (.lst [a0, a1, a2, a3, a4, a5, a6, a7, a8, a9, a10, a11, a12, a13]) (.int 4) S = .ok (.v a4) S := rfl
theorem ix5 : fIx (.lst [a0, a1, a2, a3, a4, a5, a6, a7, a8, a9, a10, a11, a12, a13]) (.int 5) S = .ok (.v a5) S := rfl
theorem ix6 : fIx (.lst [a0, a1, a2, a3, a4, a5, a6, a7, a8, a9, a10, a11, a12, a13]) (.int 6) S = .ok (.v a6) S := rfl
theorem ix7 : fIx (.lst [a0, a1, a2, a3, a4, a5, a6, a7, a8, a9, a10, a11, a12, a13]) (.int 7) S = .ok (.v a7) S := rfl
theorem ix8 : fIx (.lst [a0, a1, a2, a3, a4, a5, a6, a7, a8, a9, a10, a11, a12, a13]) (.int 8) S = .ok (.v a8) S := rfl
theorem ix9 : fIx (.lst [a0, a1, a2, a3, a4, a5, a6, a7, a8, a9, a10, a11, a12, a13]) (.int 9) S = .ok (.v a9) S := rfl
theorem ix10 : fIx (.lst [a0, a1, a2, a3, a4, a5, a6, a7, a8, a9, a10, a11, a12, a13]) (.int 10) S = .ok (.v a10) S := rfl
theorem ix11 : fIx (.lst [a0, a1, a2, a3, a4, a5, a6, a7, a8, a9, a10, a11, a12, a13]) (.int 11) S = .ok (.v a11) S := rfl
theorem ix12 : fIx (.lst [a0, a1, a2, a3, a4, a5, a6, a7, a8, a9, a10, a11, a12, a13]) (.int 12) S = .ok (.v a12) S := rfl
theorem ix13 : fIx (.lst [a0, a1, a2, a3, a4, a5, a6, a7, a8, a9, a10, a11, a12, a13]) (.int 13) S = .ok (.v a13) S := rfl
end
/-! ### an error is made -/
def newR (n f : Str) (b : D → Bool) (v : D) (S : Sto) : Res D := if b v = true then .ok (.ex n f v) S else .bad
theorem newR_ok {n f : Str} {b : D → Bool} {v : D} {S : Sto} (h : b v = true) : newR n f b v S = .ok (.ex n f v) S := if_pos h
theorem okE_dNewX (n f : Str) (b : D → Bool) (de : DE) (env : Envm) (S : Sto) (Q : D → Sto → Prop) : okE (dNewX n f b de env S) Q = okE (de env S) fun v S1 => okE (newR n f b v S1) Q := by
  unfold dNewX
  cases de env S with
  | ok d S1 =>
    rw [okE_ok]
    rfl
  | xn c x S1 => rw [show (okE (Res.xn c x S1) fun v S1 => okE (newR n f b v S1) Q) = False from propext ⟨fun ⟨_, _, h, _⟩ => (nomatch h), fun h => h.elim⟩]; exact okE_bad _
  | bad => rw [okE_bad]; exact (okE_bad _).symm
theorem okE_dNew0 (n : Str) (env : Envm) (S : Sto) (Q : D → Sto → Prop) : okE (dNew0 n env S) Q = Q (.ex0 n) S := okE_ok _ _ _
def tabA : List (Str × String) := [("BadText", "ValueError"), ("BadLine", "ValueError"), ("Impossible", "ValueError"), ("Misfit", "ValueError"), ("Noted", "ValueError"), ("OtherTowns", "ValueError"), ("NoTown", "LookupError"), ("NoTime", "LookupError"), ("NoNote", "LookupError"), ("NoNumber", "LookupError"), ("NoOperation", "LookupError"), ("Blocked", "RuntimeError"), ("Closed", "RuntimeError"), ("NoLeaf", "RuntimeError"), ("TooMany", "OverflowError")]
theorem xf_BadText (x : D) (S : Sto) : xfR [("BadText", "ValueError"), ("BadLine", "ValueError"), ("Impossible", "ValueError"), ("Misfit", "ValueError"), ("Noted", "ValueError"), ("OtherTowns", "ValueError"), ("NoTown", "LookupError"), ("NoTime", "LookupError"), ("NoNote", "LookupError"), ("NoNumber", "LookupError"), ("NoOperation", "LookupError"), ("Blocked", "RuntimeError"), ("Closed", "RuntimeError"), ("NoLeaf", "RuntimeError"), ("TooMany", "OverflowError")] "text" (.ex "BadText" "text" x) S = .ok x S := by kernel_rfl
theorem xf_BadLine (x : D) (S : Sto) : xfR [("BadText", "ValueError"), ("BadLine", "ValueError"), ("Impossible", "ValueError"), ("Misfit", "ValueError"), ("Noted", "ValueError"), ("OtherTowns", "ValueError"), ("NoTown", "LookupError"), ("NoTime", "LookupError"), ("NoNote", "LookupError"), ("NoNumber", "LookupError"), ("NoOperation", "LookupError"), ("Blocked", "RuntimeError"), ("Closed", "RuntimeError"), ("NoLeaf", "RuntimeError"), ("TooMany", "OverflowError")] "number" (.ex "BadLine" "number" x) S = .ok x S := by kernel_rfl
theorem xf_Impossible (x : D) (S : Sto) : xfR [("BadText", "ValueError"), ("BadLine", "ValueError"), ("Impossible", "ValueError"), ("Misfit", "ValueError"), ("Noted", "ValueError"), ("OtherTowns", "ValueError"), ("NoTown", "LookupError"), ("NoTime", "LookupError"), ("NoNote", "LookupError"), ("NoNumber", "LookupError"), ("NoOperation", "LookupError"), ("Blocked", "RuntimeError"), ("Closed", "RuntimeError"), ("NoLeaf", "RuntimeError"), ("TooMany", "OverflowError")] "evidence" (.ex "Impossible" "evidence" x) S = .ok x S := by kernel_rfl
theorem xf_Misfit (x : D) (S : Sto) : xfR [("BadText", "ValueError"), ("BadLine", "ValueError"), ("Impossible", "ValueError"), ("Misfit", "ValueError"), ("Noted", "ValueError"), ("OtherTowns", "ValueError"), ("NoTown", "LookupError"), ("NoTime", "LookupError"), ("NoNote", "LookupError"), ("NoNumber", "LookupError"), ("NoOperation", "LookupError"), ("Blocked", "RuntimeError"), ("Closed", "RuntimeError"), ("NoLeaf", "RuntimeError"), ("TooMany", "OverflowError")] "time" (.ex "Misfit" "time" x) S = .ok x S := by kernel_rfl
theorem xf_Noted (x : D) (S : Sto) : xfR [("BadText", "ValueError"), ("BadLine", "ValueError"), ("Impossible", "ValueError"), ("Misfit", "ValueError"), ("Noted", "ValueError"), ("OtherTowns", "ValueError"), ("NoTown", "LookupError"), ("NoTime", "LookupError"), ("NoNote", "LookupError"), ("NoNumber", "LookupError"), ("NoOperation", "LookupError"), ("Blocked", "RuntimeError"), ("Closed", "RuntimeError"), ("NoLeaf", "RuntimeError"), ("TooMany", "OverflowError")] "note" (.ex "Noted" "note" x) S = .ok x S := by kernel_rfl
theorem xf_NoTown (x : D) (S : Sto) : xfR [("BadText", "ValueError"), ("BadLine", "ValueError"), ("Impossible", "ValueError"), ("Misfit", "ValueError"), ("Noted", "ValueError"), ("OtherTowns", "ValueError"), ("NoTown", "LookupError"), ("NoTime", "LookupError"), ("NoNote", "LookupError"), ("NoNumber", "LookupError"), ("NoOperation", "LookupError"), ("Blocked", "RuntimeError"), ("Closed", "RuntimeError"), ("NoLeaf", "RuntimeError"), ("TooMany", "OverflowError")] "town" (.ex "NoTown" "town" x) S = .ok x S := by kernel_rfl
theorem xf_NoTime (x : D) (S : Sto) : xfR [("BadText", "ValueError"), ("BadLine", "ValueError"), ("Impossible", "ValueError"), ("Misfit", "ValueError"), ("Noted", "ValueError"), ("OtherTowns", "ValueError"), ("NoTown", "LookupError"), ("NoTime", "LookupError"), ("NoNote", "LookupError"), ("NoNumber", "LookupError"), ("NoOperation", "LookupError"), ("Blocked", "RuntimeError"), ("Closed", "RuntimeError"), ("NoLeaf", "RuntimeError"), ("TooMany", "OverflowError")] "time" (.ex "NoTime" "time" x) S = .ok x S := by kernel_rfl
theorem xf_NoNote (x : D) (S : Sto) : xfR [("BadText", "ValueError"), ("BadLine", "ValueError"), ("Impossible", "ValueError"), ("Misfit", "ValueError"), ("Noted", "ValueError"), ("OtherTowns", "ValueError"), ("NoTown", "LookupError"), ("NoTime", "LookupError"), ("NoNote", "LookupError"), ("NoNumber", "LookupError"), ("NoOperation", "LookupError"), ("Blocked", "RuntimeError"), ("Closed", "RuntimeError"), ("NoLeaf", "RuntimeError"), ("TooMany", "OverflowError")] "note" (.ex "NoNote" "note" x) S = .ok x S := by kernel_rfl
theorem xf_NoNumber (x : D) (S : Sto) : xfR [("BadText", "ValueError"), ("BadLine", "ValueError"), ("Impossible", "ValueError"), ("Misfit", "ValueError"), ("Noted", "ValueError"), ("OtherTowns", "ValueError"), ("NoTown", "LookupError"), ("NoTime", "LookupError"), ("NoNote", "LookupError"), ("NoNumber", "LookupError"), ("NoOperation", "LookupError"), ("Blocked", "RuntimeError"), ("Closed", "RuntimeError"), ("NoLeaf", "RuntimeError"), ("TooMany", "OverflowError")] "number" (.ex "NoNumber" "number" x) S = .ok x S := by kernel_rfl
theorem xf_NoOperation (x : D) (S : Sto) : xfR [("BadText", "ValueError"), ("BadLine", "ValueError"), ("Impossible", "ValueError"), ("Misfit", "ValueError"), ("Noted", "ValueError"), ("OtherTowns", "ValueError"), ("NoTown", "LookupError"), ("NoTime", "LookupError"), ("NoNote", "LookupError"), ("NoNumber", "LookupError"), ("NoOperation", "LookupError"), ("Blocked", "RuntimeError"), ("Closed", "RuntimeError"), ("NoLeaf", "RuntimeError"), ("TooMany", "OverflowError")] "many" (.ex "NoOperation" "many" x) S = .ok x S := by kernel_rfl
theorem xf_Blocked (x : D) (S : Sto) : xfR [("BadText", "ValueError"), ("BadLine", "ValueError"), ("Impossible", "ValueError"), ("Misfit", "ValueError"), ("Noted", "ValueError"), ("OtherTowns", "ValueError"), ("NoTown", "LookupError"), ("NoTime", "LookupError"), ("NoNote", "LookupError"), ("NoNumber", "LookupError"), ("NoOperation", "LookupError"), ("Blocked", "RuntimeError"), ("Closed", "RuntimeError"), ("NoLeaf", "RuntimeError"), ("TooMany", "OverflowError")] "pair" (.ex "Blocked" "pair" x) S = .ok x S := by kernel_rfl
theorem xf_Closed (x : D) (S : Sto) : xfR [("BadText", "ValueError"), ("BadLine", "ValueError"), ("Impossible", "ValueError"), ("Misfit", "ValueError"), ("Noted", "ValueError"), ("OtherTowns", "ValueError"), ("NoTown", "LookupError"), ("NoTime", "LookupError"), ("NoNote", "LookupError"), ("NoNumber", "LookupError"), ("NoOperation", "LookupError"), ("Blocked", "RuntimeError"), ("Closed", "RuntimeError"), ("NoLeaf", "RuntimeError"), ("TooMany", "OverflowError")] "town" (.ex "Closed" "town" x) S = .ok x S := by kernel_rfl
theorem xf_NoLeaf (x : D) (S : Sto) : xfR [("BadText", "ValueError"), ("BadLine", "ValueError"), ("Impossible", "ValueError"), ("Misfit", "ValueError"), ("Noted", "ValueError"), ("OtherTowns", "ValueError"), ("NoTown", "LookupError"), ("NoTime", "LookupError"), ("NoNote", "LookupError"), ("NoNumber", "LookupError"), ("NoOperation", "LookupError"), ("Blocked", "RuntimeError"), ("Closed", "RuntimeError"), ("NoLeaf", "RuntimeError"), ("TooMany", "OverflowError")] "town" (.ex "NoLeaf" "town" x) S = .ok x S := by kernel_rfl
theorem xf_TooMany (x : D) (S : Sto) : xfR [("BadText", "ValueError"), ("BadLine", "ValueError"), ("Impossible", "ValueError"), ("Misfit", "ValueError"), ("Noted", "ValueError"), ("OtherTowns", "ValueError"), ("NoTown", "LookupError"), ("NoTime", "LookupError"), ("NoNote", "LookupError"), ("NoNumber", "LookupError"), ("NoOperation", "LookupError"), ("Blocked", "RuntimeError"), ("Closed", "RuntimeError"), ("NoLeaf", "RuntimeError"), ("TooMany", "OverflowError")] "many" (.ex "TooMany" "many" x) S = .ok x S := by kernel_rfl
theorem fm_int {i : Int} (h : i.natAbs < 10000000000) : fmtD (.int i) = true := by
  have : i.natAbs.log2 < 1920 := by
    by_cases h0 : i.natAbs = 0
    · rw [h0]; decide
    · exact Nat.lt_of_lt_of_le ((Nat.log2_lt h0).mpr (Nat.lt_of_lt_of_le h (show 10000000000 ≤ 2 ^ 34 by decide))) (by decide)
  exact decide_eq_true this
theorem fm_i {i : Int} (h : i.natAbs < 10000000000) : fmtI (.int i) = true := fm_int h
theorem fm_x : fmtRD (.str "x") = true := by kernel_rfl
theorem fm_never : fmtI (.str "never") = true := by kernel_rfl
theorem fm_end : fmtI (.str "end") = true := by kernel_rfl
theorem fm_closed : fmtI (.str "closed") = true := by kernel_rfl
theorem fm_t2 {a b : D} (ha : fmtI a = true) (hb : fmtI b = true) : fmtD (.tup [a, b]) = true := by
  show (decide (2 ≤ 8) && (fmtI a && (fmtI b && true))) = true
  rw [ha, hb]; rfl
theorem fm_t3 {a b c : D} (ha : fmtI a = true) (hb : fmtI b = true) (hc : fmtI c = true) : fmtD (.tup [a, b, c]) = true := by
  show (decide (3 ≤ 8) && (fmtI a && (fmtI b && (fmtI c && true)))) = true
  rw [ha, hb, hc]; rfl
def vals (s f : Int) : List D := [.str "x", .int s, .tup [.str "never", .int s], .int s, .tup [.int s, .str "end", .int (s + 1)], .int (f - 500), .int (f - 7), .tup [.int s, .str "closed", .int s], .int f, .int (61 + s), .tup [.int s, .int (s + 1)], .int s, .int s, .int (301 + f)]
theorem same_vals {n : Nat} (s f : Int) (S : Sto) : callN B (n + 4) 213 [.lst (vals s f), .lst (vals s f)] S = .ok (.v (.bl true)) S := sp_same (B := B) (n := n + 1) rfl 2 _ S (by kernel_rfl)
end K15

namespace K15
open PySem PySem.Spec MP
theorem adl (xs ys : List D) (S : Sto) : fAdd (.lst xs) (.lst ys) S = if xs.length + ys.length ≤ 100000 then .ok (.o (.l (xs ++ ys))) S else .bad := rfl
def errs (s f : Int) : List D := [.ex "BadText" "text" (.str "x"), .ex "BadLine" "number" (.int s), .ex "Impossible" "evidence" (.tup [.str "never", .int s]), .ex "Misfit" "time" (.int s), .ex "Noted" "note" (.tup [.int s, .str "end", .int (s + 1)]), .ex "NoTown" "town" (.int (f - 500)), .ex "NoTime" "time" (.int (f - 7)), .ex "NoNote" "note" (.tup [.int s, .str "closed", .int s]), .ex "NoNumber" "number" (.int f), .ex "NoOperation" "many" (.int (61 + s)), .ex "Blocked" "pair" (.tup [.int s, .int (s + 1)]), .ex "Closed" "town" (.int s), .ex "NoLeaf" "town" (.int s), .ex "TooMany" "many" (.int (301 + f))]
def pairs (s f : Int) : List (D × Int) := [(.ex "BadText" "text" (.str "x"), 0), (.ex "BadLine" "number" (.int s), 0), (.ex "Impossible" "evidence" (.tup [.str "never", .int s]), 0), (.ex "Misfit" "time" (.int s), 0), (.ex "Noted" "note" (.tup [.int s, .str "end", .int (s + 1)]), 0), (.ex "NoTown" "town" (.int (f - 500)), 1), (.ex "NoTime" "time" (.int (f - 7)), 1), (.ex "NoNote" "note" (.tup [.int s, .str "closed", .int s]), 1), (.ex "NoNumber" "number" (.int f), 1), (.ex "NoOperation" "many" (.int (61 + s)), 1), (.ex "Blocked" "pair" (.tup [.int s, .int (s + 1)]), 2), (.ex "Closed" "town" (.int s), 2), (.ex "NoLeaf" "town" (.int s), 2), (.ex "TooMany" "many" (.int (301 + f)), 3)]
theorem one (n : Nat) (s f : Int) (S : Sto) : ∀ p ∈ pairs s f, callN B (n + 2) 111 [p.1, .int p.2] S = .ok (.v (.bl true)) S := by
  intro p hp
  simp only [pairs, List.mem_cons, List.not_mem_nil, or_false] at hp
  rcases hp with rfl | rfl | rfl | rfl | rfl | rfl | rfl | rfl | rfl | rfl | rfl | rfl | rfl | rfl
  · exact one_BadText n _ S
  · exact one_BadLine n _ S
  · exact one_Impossible n _ S
  · exact one_Misfit n _ S
  · exact one_Noted n _ S
  · exact one_NoTown n _ S
  · exact one_NoTime n _ S
  · exact one_NoNote n _ S
  · exact one_NoNumber n _ S
  · exact one_NoOperation n _ S
  · exact one_Blocked n _ S
  · exact one_Closed n _ S
  · exact one_NoLeaf n _ S
  · exact one_TooMany n _ S
theorem kin (S : Sto) : fMul (.lst [.int 0]) (.int 5) S = .ok (.o (.l [.int 0, .int 0, .int 0, .int 0, .int 0])) S := by kernel_rfl
theorem kin1 (S : Sto) : fMul (.lst [.int 1]) (.int 5) S = .ok (.o (.l [.int 1, .int 1, .int 1, .int 1, .int 1])) S := by kernel_rfl
theorem kin2 (S : Sto) : fMul (.lst [.int 2]) (.int 3) S = .ok (.o (.l [.int 2, .int 2, .int 2])) S := by kernel_rfl
theorem pw9 (S : Sto) : fPow (.int 10) (.int 9) S = .ok (.v (.int 1000000000)) S := by kernel_rfl
theorem eq3 (S : Sto) : fEq (.int 300) (.int 300) S = .ok (.v (.bl true)) S := by kernel_rfl
def bun_5 := And.intro @ev_dIndexD (And.intro @okE_dLend (And.intro @scR_bl (And.intro @lmap_n (And.intro @lmap_c (And.intro @lend_no (And.intro @lend_int (And.intro @lend_bl (@lend_str))))))))
local macro_rules | `(tactic| simp! only [$xs,*] $[$l:location]?) => `(tactic| simp only [bun_0, bun_1, bun_2, bun_3, bun_4, bun_5, sv_at, sv_ta, sv_it, sv_ti, sv_dt, sv_df, sv_ft, sv_nt, sv_nn, sv_tt, sv_fn, sv_c0, sv_c1, sv_c2, sv_c3, sv_c4, sv_c5, sv_c6, sv_dT, sv_dF, sv_nT, sv_nF, sv_ifT, sv_ifF, sv_iP, sv_iQ, reduceDIte, reduceIte, reduceCtorEq, Nat.reduceEqDiff, Nat.reduceGT, Nat.reduceSubDiff, Nat.reduceMod, Nat.reduceAdd, Nat.reduceBNe, Nat.reduceLeDiff, Nat.reduceSub, Nat.reduceDiv, Nat.reduceMul, Nat.reduceBEq, Nat.reduceSucc, Nat.reduceLT, Nat.reducePow, Int.reduceGE, Int.reduceToNat, Int.reduceEq, Int.reduceOfNat, Int.reduceGT, Int.reducePow, Int.reduceDiv, Int.reduceMul, Int.reduceBEq, Int.reduceNe, Int.reduceSub, Int.reduceLT, Int.reduceNeg, Int.reduceBNe, Int.reduceAdd, Int.reduceLE, Int.reduceMod, Int.reduceNegSucc, $xs,*] $[$l:location]?)
theorem right {n b k : Nat} {S : Sto} (hb : Bx S b (k + 3)) : ∃ S', callN B (n + 12) 161 [.loc b] S = .ok (.v (.bl true)) S' ∧ Bx S' b k := by
  suffices h : okE (callN B (n + 12) 161 [.loc b] S) fun x S' => x = .v (.bl true) ∧ Bx S' b k by
    obtain ⟨x, S', g1, rfl, g2⟩ := h
    exact ⟨_, g1, g2⟩
  refine ok_call (show B 161 = some q__law_right_k15 from rfl) rfl ?_
  unfold b__law_right_k15
  obtain ⟨s, S1, t1, s0, s1, b1⟩ := sp_take (B := B) (n := n + 10) (k := k + 2) (m := 13) rfl hb (by decide) (by decide)
  obtain ⟨f, S2, t2, f0, f1, b2⟩ := sp_takeB (B := B) (b := b) rfl 1 (n + 9) k S1 1000000000 b1 (by decide) (by decide) (by decide)
  have t1 : callN B (n + 11) 238 [.loc b, .int 13] S = .ok (.v (.int s)) S1 := t1
  have t2 : callN B (n + 11) 238 [.loc b, .int 1000000000] S1 = .ok (.v (.int f)) S2 := t2
  have h1 : fmtD (.int s) = true := fm_int (by omega)
  have h1i : fmtI (.int s) = true := fm_i (by omega)
  have h1j : fmtI (.int (s + 1)) = true := fm_i (by omega)
  have h2 : fmtD (.tup [.str "never", .int s]) = true := fm_t2 fm_never h1i
  have h4 : fmtD (.tup [.int s, .str "end", .int (s + 1)]) = true := fm_t3 h1i fm_end h1j
  have h5 : fmtD (.int (f - 500)) = true := fm_int (by omega)
  have h6 : fmtD (.int (f - 7)) = true := fm_int (by omega)
  have h7 : fmtD (.tup [.int s, .str "closed", .int s]) = true := fm_t3 h1i fm_closed h1i
  have h8 : fmtD (.int f) = true := fm_int (by omega)
  have h9 : fmtD (.int (61 + s)) = true := fm_int (by omega)
  have h10 : fmtD (.tup [.int s, .int (s + 1)]) = true := fm_t2 h1i h1j
  have h13 : fmtD (.int (301 + f)) = true := fm_int (by omega)
  refine ok_seqG fun N hN => ?_
  simp! only [t1, pw9, t2]
  refine hN _ _ ?_
  refine ok_seqG fun N hN => ?_
  simp! only [adl, List.cons_append, List.nil_append, okE_dNewX, newR_ok, fm_x, h1, h2, h4, h5, h6, h7, h8, h9, h10, h13, ix0, ix1, ix2, ix3, ix4, ix5, ix6, ix7, ix8, ix9, ix10, ix11, ix12, ix13, jx0, jx1, jx2, jx3, jx4, jx5, jx6, jx7, jx8, jx9, jx10, jx11, jx12, jx13]
  refine hN _ _ ?_
  refine ok_seqG fun N hN => ?_
  simp! only [adl, List.cons_append, List.nil_append, okE_dNewX, newR_ok, fm_x, h1, h2, h4, h5, h6, h7, h8, h9, h10, h13, ix0, ix1, ix2, ix3, ix4, ix5, ix6, ix7, ix8, ix9, ix10, ix11, ix12, ix13, jx0, jx1, jx2, jx3, jx4, jx5, jx6, jx7, jx8, jx9, jx10, jx11, jx12, jx13]
  refine hN _ _ ?_
  refine ok_seqG fun N hN => ?_
  simp! only [adl, List.cons_append, List.nil_append, okE_dNewX, newR_ok, fm_x, h1, h2, h4, h5, h6, h7, h8, h9, h10, h13, ix0, ix1, ix2, ix3, ix4, ix5, ix6, ix7, ix8, ix9, ix10, ix11, ix12, ix13, jx0, jx1, jx2, jx3, jx4, jx5, jx6, jx7, jx8, jx9, jx10, jx11, jx12, jx13]
  refine hN _ _ ?_
  refine ok_seqG fun N hN => ?_
  simp! only [adl, List.cons_append, List.nil_append, okE_dNewX, newR_ok, fm_x, h1, h2, h4, h5, h6, h7, h8, h9, h10, h13, ix0, ix1, ix2, ix3, ix4, ix5, ix6, ix7, ix8, ix9, ix10, ix11, ix12, ix13, jx0, jx1, jx2, jx3, jx4, jx5, jx6, jx7, jx8, jx9, jx10, jx11, jx12, jx13]
  refine hN _ _ ?_
  refine ok_seqG fun N hN => ?_
  simp! only [adl, List.cons_append, List.nil_append, okE_dNewX, newR_ok, fm_x, h1, h2, h4, h5, h6, h7, h8, h9, h10, h13, ix0, ix1, ix2, ix3, ix4, ix5, ix6, ix7, ix8, ix9, ix10, ix11, ix12, ix13, jx0, jx1, jx2, jx3, jx4, jx5, jx6, jx7, jx8, jx9, jx10, jx11, jx12, jx13]
  refine hN _ _ ?_
  refine ok_seqG fun N hN => ?_
  simp! only [adl, List.cons_append, List.nil_append, okE_dNewX, newR_ok, fm_x, h1, h2, h4, h5, h6, h7, h8, h9, h10, h13, ix0, ix1, ix2, ix3, ix4, ix5, ix6, ix7, ix8, ix9, ix10, ix11, ix12, ix13, jx0, jx1, jx2, jx3, jx4, jx5, jx6, jx7, jx8, jx9, jx10, jx11, jx12, jx13]
  refine hN _ _ ?_
  refine ok_seqG fun N hN => ?_
  simp! only [adl, List.cons_append, List.nil_append, okE_dNewX, newR_ok, fm_x, h1, h2, h4, h5, h6, h7, h8, h9, h10, h13, ix0, ix1, ix2, ix3, ix4, ix5, ix6, ix7, ix8, ix9, ix10, ix11, ix12, ix13, jx0, jx1, jx2, jx3, jx4, jx5, jx6, jx7, jx8, jx9, jx10, jx11, jx12, jx13]
  refine hN _ _ ?_
  refine ok_seqG fun N hN => ?_
  simp! only [adl, List.cons_append, List.nil_append, okE_dNewX, newR_ok, fm_x, h1, h2, h4, h5, h6, h7, h8, h9, h10, h13, ix0, ix1, ix2, ix3, ix4, ix5, ix6, ix7, ix8, ix9, ix10, ix11, ix12, ix13, jx0, jx1, jx2, jx3, jx4, jx5, jx6, jx7, jx8, jx9, jx10, jx11, jx12, jx13]
  refine hN _ _ ?_
  refine ok_seqG fun N hN => ?_
  simp! only [adl, List.cons_append, List.nil_append, okE_dNewX, newR_ok, fm_x, h1, h2, h4, h5, h6, h7, h8, h9, h10, h13, ix0, ix1, ix2, ix3, ix4, ix5, ix6, ix7, ix8, ix9, ix10, ix11, ix12, ix13, jx0, jx1, jx2, jx3, jx4, jx5, jx6, jx7, jx8, jx9, jx10, jx11, jx12, jx13]
  refine hN _ _ ?_
  refine ok_seqG fun N hN => ?_
  simp! only [adl, List.cons_append, List.nil_append, okE_dNewX, newR_ok, fm_x, h1, h2, h4, h5, h6, h7, h8, h9, h10, h13, ix0, ix1, ix2, ix3, ix4, ix5, ix6, ix7, ix8, ix9, ix10, ix11, ix12, ix13, jx0, jx1, jx2, jx3, jx4, jx5, jx6, jx7, jx8, jx9, jx10, jx11, jx12, jx13]
  refine hN _ _ ?_
  refine ok_seqG fun N hN => ?_
  simp! only [adl, List.cons_append, List.nil_append, okE_dNewX, newR_ok, fm_x, h1, h2, h4, h5, h6, h7, h8, h9, h10, h13, ix0, ix1, ix2, ix3, ix4, ix5, ix6, ix7, ix8, ix9, ix10, ix11, ix12, ix13, jx0, jx1, jx2, jx3, jx4, jx5, jx6, jx7, jx8, jx9, jx10, jx11, jx12, jx13]
  refine hN _ _ ?_
  refine ok_seqG fun N hN => ?_
  simp! only [adl, List.cons_append, List.nil_append, okE_dNewX, newR_ok, fm_x, h1, h2, h4, h5, h6, h7, h8, h9, h10, h13, ix0, ix1, ix2, ix3, ix4, ix5, ix6, ix7, ix8, ix9, ix10, ix11, ix12, ix13, jx0, jx1, jx2, jx3, jx4, jx5, jx6, jx7, jx8, jx9, jx10, jx11, jx12, jx13]
  refine hN _ _ ?_
  refine ok_seqG fun N hN => ?_
  simp! only []
  show okO (forL (.nm 4) _ (([0, 1] : List Nat).map fun _ => D.lst (errs s f)) _ _) _ _ _ _
  refine ok_for0 [1, 4, 7, 8] [0, 1] (fun _ => D.lst (errs s f)) (fun _ vs S' => S' = S2 ∧ ∃ x a c e, vs = [x, a, c, e] ∧ (x = .ow (.l (vals s f)) ∨ x = .va (.lst (vals s f)))) [_, _, _, _] rfl ⟨rfl, _, _, _, _, rfl, .inl rfl⟩ ?_ ?_
  · rintro N1 K1 T1 hK hT' j p vs S' hp ⟨rfl, x, a, c, e, rfl, hx⟩ hN1
    have fin : ∀ y : Sl, (y = .ow (.l (vals s f)) ∨ y = .va (.lst (vals s f))) → True := fun _ _ => trivial
    rcases hx with rfl | rfl
    all_goals
      have sv : ∀ S, callN B (n + 11) 213 [.lst (vals s f), .lst (vals s f)] S = .ok (.v (.bl true)) S := fun S => same_vals (n := n + 7) s f S
      unfold vals at sv
      simp! only [errs, vals, adl, List.cons_append, List.nil_append, ix0, ix1, ix2, ix3, ix4, ix5, ix6, ix7, ix8, ix9, ix10, ix11, ix12, ix13, jx0, jx1, jx2, jx3, jx4, jx5, jx6, jx7, jx8, jx9, jx10, jx11, jx12, jx13, xf_BadText, xf_BadLine, xf_Impossible, xf_Misfit, xf_Noted, xf_NoTown, xf_NoTime, xf_NoNote, xf_NoNumber, xf_NoOperation, xf_Blocked, xf_Closed, xf_NoLeaf, xf_TooMany, sv, kin, kin1, kin2]
      refine ok_compI (pairs s f) (fun p => D.tup [p.1, .int p.2]) (fun i ys S3 => S3 = S' ∧ ∀ y ∈ ys, y = .bl true) ?_ (show 14 ≤ 100000 by decide) ⟨rfl, fun y hy => (nomatch hy)⟩ ?_ ?_
      · simp! only []
        first | exact rfl | exact ⟨rfl, rfl⟩
      · rintro i p ys S3 hp ⟨rfl, hI⟩
        have o1 : ∀ S, callN B (n + 11) 111 [p.1, .int p.2] S = .ok (.v (.bl true)) S := fun S => one (n + 9) s f S p (List.mem_of_getElem? hp)
        simp! only [o1]
        have g : ∀ y ∈ ys ++ [D.bl true], y = D.bl true := fun y hy => by
          rcases List.mem_append.mp hy with hy | hy
          · exact hI y hy
          · exact List.mem_singleton.mp hy
        first | exact g | exact ⟨rfl, g⟩ | exact ⟨trivial, g⟩
      · rintro ys S3 ⟨rfl, hI⟩
        simp! only [bAll_true hI]
        exact hN1 [_, _, _, _] _ ⟨rfl, _, _, _, _, rfl, .inr rfl⟩
  · rintro vs S' ⟨rfl, x, a, c, e, rfl, hx⟩
    refine hN _ _ ?_
    have o0 : ∀ S, callN B (n + 11) 111 [.ex0 "OtherTowns", .int 0] S = .ok (.v (.bl true)) S := fun S => one0 (n + 9) S
    simp! only [okE_dNew0, o0, eq3]
    first | exact b2 | exact ⟨rfl, b2⟩ | exact ⟨trivial, b2⟩
theorem plain (ns : List Int) (hl : ns.length ≤ 63) : ∃ S', callN B 60 337 [.scr ns] [] = .ok (.v (.bl true)) S' :=
  lawC (B := B) (rid := 161) (lid := 337) (T := 1) (u := 3) (t := 1) (r := 3) (by decide) (by decide) hl rfl (by decide) rfl rfl rfl (by decide) fun S b k hb => right (n := 47) hb
end K15

open PySem PySem.W PySem.Calls PyProof.Rows
theorem PySem.Challenge.cw_lastroads_k15_errors_by_hand_holds : PySem.Challenge.rw_lastroads_k15_errors_by_hand.Holds := by
  w_on; o_law
  refine HandSHeadRun.head_any (r := OpenLaw.row PySem.Challenge.rw_lastroads_k15_errors_by_hand) (q := view (OpenLaw.row PySem.Challenge.rw_lastroads_k15_errors_by_hand).prog [25]) (H := K15.hk) (ob := K15.ob) (M := 4000) (loose := K15.names) (d := HandSHeadRun.topDef (OpenLaw.row PySem.Challenge.rw_lastroads_k15_errors_by_hand).prog 25) (kwd := []) K15.ob_eq
    (by kernel_rfl) (fun s => by kernel_rfl) K15.run (by kernel_rfl) (by kernel_rfl) (by kernel_rfl) (by rfl) (by first | assumption | decide +kernel) (by decide +kernel) ⟨rfl, rfl, rfl, rfl, rfl, by decide +kernel⟩ ?hw ?hc
  case hw => w_witness2
  case hc =>
    refine MP.walk_g (l := PySem.Challenge.rw_lastroads_k15_errors_by_hand) (n := 63) (k := 63) (x := "_law_script") (CX := L2.CX0) rfl (by decide) (by kernel_rfl) ⟨rfl, by decide, by decide⟩ ?F (fun _ _ _ _ z => z)
    intro w mg fa h Y G hmg0
    obtain ⟨K, KX, cb, c⟩ := Y
    have hmg : mg ("law" : PySem.Str) = some (.ref fa) := by
      have e : (HandSHeadRun.topDef (OpenLaw.row PySem.Challenge.rw_lastroads_k15_errors_by_hand).prog 25).name = ("law" : PySem.Str) := by kernel_rfl
      rw [← e]
      exact hmg0
    have fc := K15.facts KX G cb c
    obtain ⟨a0, fd0, F0, g0⟩ := fc.d337
    have hb := L2.FunD.bindsA (ps := ["_law_script"]) F0 fun _ _ _ _ _ _ us hl => match us, hl with | [_], _ => rfl
    have hall := fun base => MP.all_ok (P := PySem.Challenge.rw_lastroads_k15_errors_by_hand.prog) (w := w) (base := base) (K15.defs_ok fc) 59
    obtain rfl : a0 = fa := by
      rw [hmg] at g0
      cases g0
      rfl
    refine ⟨K, fd0, fun vs H Q _ => MP.spC K (MP.callN K15.B 60) 337 1 vs H Q L2.E0, KX, fun s v => hb s [v] rfl, fun H a ns hl _ hS => MP.law_sp (K15.plain ns hl) hS, fun base _ _ => ?_⟩
    exact MP.fn_down (MP.fn_step (P := PySem.Challenge.rw_lastroads_k15_errors_by_hand.prog) (w := w) (mg := mg) (base := base) (B := K15.B) (n := 59) (i := 337) (d := K15.q_law_k15) F0 K15.s_law rfl rfl rfl fun cdv A outer s H E gd hr => K15.p_law (hall base _ hr gd) fc.m_all fc.m_len fc.m_min fc.m_range)
