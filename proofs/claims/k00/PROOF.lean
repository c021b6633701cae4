import PyProof.Rows.All
import Wide.All
import OpenK.AllK
import Wide.FinOn
import HandS.ForMost
import HandS.Exc
import HandS.ExcOwn
import HandS.TryOnly
import HandS.WordsExc
import HandS.IsInst
import HandS.TupAny
import HandS.TupMul
import HandS.Flow
import HandS.Style
import HandS.Conv
import HandS.CallLocal
import HandS.Lambda
import HandS.HeadHook4
import HandS.HeadWalk
import HandS.Head4
import HandS.Small
import HandS.Zip
import HandS.Deep
import HandS.Wide
import HandS.More
import KE.GoesMore
import HandS.NoneIn
import HandS.NestedK
import PyProof.P3Eq
import PySem.Challenge.RW_fourninths_k00_whole_dishes_manners_and
set_option Elab.async false
set_option linter.all false
set_option maxRecDepth 100000
set_option maxHeartbeats 4000000
/-! Dn: denotations. Values as data, a store of mutable lists and dicts, each piece of syntax by a function of these. -/
namespace Dn
open PySem PySem.Spec L2
open PyProof.Rows hiding St

/-! ### data -/
/-- what a value is worth: flat things, tuples, lists and dicts that nobody turns any more, and the n-th thing of the store -/
inductive D where
  | non | bl (b : Bool) | int (i : Int) | str (x : Str) | fn (x : Str)
  | tup (l : List D) | lst (l : List D) | fls (l : List D) | loc (n : Nat)
  | clo (cells : List (Str × Addr)) (q : Str) (k : Nat) (syn : Arguments × Expr × Scope)

/-- a lambda that was made in a frame with these cells -/
def LamO (f : Addr) (cells : List (Str × Addr)) (q : Str) (syn : Arguments × Expr × Scope) (c' : Addr) : HO :=
  .ext fun h => ∃ pm ctv : Value, h.get? f = some (PySem.W.kla_obj "<lambda>" q syn.1 syn.2.1 syn.2.2 (cloFrom cells syn.2.2.names []) pm c' ctv)
/-- a dict whose keys are tuples of ints; the keys lie at these addresses -/
def DctO (a : Addr) (xs : List (List Int × Addr × V)) : HO := .ext fun h => ∃ us : List Value, Vals (xs.map fun x => x.2.2) us ∧ ∃ (o : Obj) (es : Array DictEntry) (ep : Nat), h.get? a = some o ∧ o.ExactDict ∧ o.data = .dict es ep ∧
  (∀ (P : Program) (w : World), es.toList = (xs.zip us).map fun p => entryOfKey (tupleKind (intKind P w)) (p.1.1, p.1.2.1, p.2)) ∧ (xs.map (·.1)).Nodup

/-- the addresses of the store, in order; all addresses that may be turned -/
structure Wl where
  A : List Addr
  F : List Addr
def Fresh (A : Wl) (a : Addr) : Prop := a ∉ A.F ∧ a ∉ A.A
/-- a tuple, a list that is read and stands still -/
def TpAt (K : PySem.W.Frag) (H : Hp) (A : Wl) (a : Addr) (xs : List V) : Prop := (Rd H a (.tup xs) ∧ Fresh A a) ∨
    ∃ (o : Obj) (its : Array Value) (n : Nat), K.lookup a = some o ∧ o.cls = .type "tuple" ∧ o.data = .seq its n ∧ its.size ≤ sizeLine ∧ Vals xs its.toList
def LsAt (H : Hp) (A : Wl) (a : Addr) (xs : List V) : Prop := H a = some (.lst xs) ∧ Fresh A a
/-- .. a locked one, or one of the module's top -/
def FlAt (K : PySem.W.Frag) (H : Hp) (A : Wl) (a : Addr) (xs : List V) : Prop := ((∃ u, H a = some (.frz u (.lst xs))) ∧ Fresh A a) ∨
    ∃ (o : Obj) (its : Array Value) (n : Nat), K.lookup a = some o ∧ o.cls = .type "list" ∧ o.dict = none ∧ o.data = .seq its n ∧ its.size ≤ sizeLine ∧ Vals xs its.toList
theorem TpAt.sq {K : PySem.W.Frag} {H : Hp} {A : Wl} {a : Addr} {xs : List V} (h : TpAt K H A a xs) : SqT K H a xs := by
  rcases h with ⟨h, _⟩ | h
  · exact .inl h
  · exact .inr h
theorem LsAt.sq {K : PySem.W.Frag} {H : Hp} {A : Wl} {a : Addr} {xs : List V} (h : LsAt H A a xs) : SqL K H a xs := .inl (.inl h.1)
theorem FlAt.sq {K : PySem.W.Frag} {H : Hp} {A : Wl} {a : Addr} {xs : List V} (h : FlAt K H A a xs) : SqL K H a xs := by
  rcases h with ⟨h, _⟩ | h
  · exact .inl (.inr h)
  · exact .inr h

mutual
inductive DV (K : PySem.W.Frag) (H : Hp) (A : Wl) : V → D → Prop
  | non : DV K H A .non .non
  | bl (b : Bool) : DV K H A (.bl b) (.bl b)
  | int (i : Int) : DV K H A (.int i) (.int i)
  | str (x : Str) : DV K H A (.str x) (.str x)
  | fn (x : Str) : DV K H A (.ref (He.ga K x)) (.fn x)
  | tup {a : Addr} {xs : List V} {ds : List D} : TpAt K H A a xs → DVs K H A xs ds → DV K H A (.ref a) (.tup ds)
  | lst {a : Addr} {xs : List V} {ds : List D} : LsAt H A a xs → DVs K H A xs ds → DV K H A (.ref a) (.lst ds)
  | fls {a : Addr} {xs : List V} {ds : List D} : FlAt K H A a xs → DVs K H A xs ds → DV K H A (.ref a) (.fls ds)
  | loc {a : Addr} {n : Nat} : A.A[n]? = some a → DV K H A (.ref a) (.loc n)
  | clo {f c' : Addr} {cells : List (Str × Addr)} {q : Str} {k : Nat} {syn : Arguments × Expr × Scope} : H f = some (LamO f cells q syn c') → Fresh A f → H c' = some (LamX.CodeO c' q) → Fresh A c' → DV K H A (.ref f) (.clo cells q k syn)
inductive DVs (K : PySem.W.Frag) (H : Hp) (A : Wl) : List V → List D → Prop
  | nil : DVs K H A [] []
  | cons {v : V} {vs : List V} {d : D} {ds : List D} : DV K H A v d → DVs K H A vs ds → DVs K H A (v :: vs) (d :: ds)
end

/-- the heap grows: what stands outside the store stays -/
structure Ext (A : Wl) (H : Hp) (A' : Wl) (H' : Hp) : Prop where
  sub : ∃ B, A'.A = A.A ++ B ∧ ∀ a ∈ B, H a = none
  mono : ∀ a ∈ A.F, a ∈ A'.F
  keep : ∀ b o, H b = some o → b ∉ A.A → H' b = some o
  fre : ∀ b o, H b = some o → b ∉ A.F → b ∉ A'.F
  there : ∀ b o, H b = some o → ∃ o', H' b = some o'
theorem Ext.refl {A : Wl} {H : Hp} : Ext A H A H := ⟨⟨[], by simp⟩, fun _ h => h, fun _ _ h _ => h, fun _ _ _ n => n, fun _ o h => ⟨o, h⟩⟩
theorem Ext.out {A A' : Wl} {H H' : Hp} (e : Ext A H A' H') {b : Addr} {o : HO} (h : H b = some o) (n : b ∉ A.A) : b ∉ A'.A := fun z => by
  obtain ⟨B, eB, fB⟩ := e.sub
  rw [eB] at z
  rcases List.mem_append.mp z with z | z
  · exact n z
  · rw [fB b z] at h
    cases h
theorem Ext.trans {A A1 A2 : Wl} {H H1 H2 : Hp} (a : Ext A H A1 H1) (b : Ext A1 H1 A2 H2) : Ext A H A2 H2 := by
  obtain ⟨B, e, fB⟩ := a.sub
  obtain ⟨C, e2, fC⟩ := b.sub
  refine ⟨⟨B ++ C, by rw [e2, e, List.append_assoc], fun c hc => (List.mem_append.mp hc).elim (fB c) fun z => ?_⟩, fun c hc => b.mono c (a.mono c hc), fun c o h n => b.keep c o (a.keep c o h n) (a.out h n), fun c o h n => ?_, fun c o h => ?_⟩
  · cases q : H c with
    | none => rfl
    | some o =>
      obtain ⟨o', q'⟩ := a.there c o q
      rw [fC c z] at q'
      cases q'
  · obtain ⟨o', q'⟩ := a.there c o h
    exact b.fre c o' q' (a.fre c o h n)
  · obtain ⟨o', q'⟩ := a.there c o h
    exact b.there c o' q'
theorem Ext.fresh {A A' : Wl} {H H' : Hp} (e : Ext A H A' H') {a : Addr} {o : HO} (h : H a = some o) (n : Fresh A a) : H' a = some o ∧ Fresh A' a := ⟨e.keep a o h n.2, e.fre a o h n.1, e.out h n.2⟩
theorem Ext.get {A A' : Wl} {H H' : Hp} (e : Ext A H A' H') {n : Nat} {a : Addr} (h : A.A[n]? = some a) : A'.A[n]? = some a := by
  obtain ⟨B, eB, _⟩ := e.sub
  obtain ⟨hl, _⟩ := List.getElem?_eq_some_iff.mp h
  rw [eB, List.getElem?_append_left hl]
  exact h
theorem Ext.rd {A A' : Wl} {H H' : Hp} (e : Ext A H A' H') {a : Addr} {o : HO} (h : Rd H a o) (n : Fresh A a) : Rd H' a o ∧ Fresh A' a := by
  rcases h with h | ⟨u, h⟩
  · exact ⟨.inl (e.fresh h n).1, (e.fresh h n).2⟩
  · exact ⟨.inr ⟨u, (e.fresh h n).1⟩, (e.fresh h n).2⟩
theorem TpAt.ext {K : PySem.W.Frag} {A A' : Wl} {H H' : Hp} {a : Addr} {xs : List V} (h : TpAt K H A a xs) (e : Ext A H A' H') : TpAt K H' A' a xs := by
  rcases h with ⟨h, n⟩ | h
  · exact .inl (e.rd h n)
  · exact .inr h
theorem LsAt.ext {A A' : Wl} {H H' : Hp} {a : Addr} {xs : List V} (h : LsAt H A a xs) (e : Ext A H A' H') : LsAt H' A' a xs := e.fresh h.1 h.2
theorem FlAt.ext {K : PySem.W.Frag} {A A' : Wl} {H H' : Hp} {a : Addr} {xs : List V} (h : FlAt K H A a xs) (e : Ext A H A' H') : FlAt K H' A' a xs := by
  rcases h with ⟨⟨u, h⟩, n⟩ | h
  · exact .inl ⟨⟨u, (e.fresh h n).1⟩, (e.fresh h n).2⟩
  · exact .inr h
mutual
theorem DV.ext {K : PySem.W.Frag} {A A' : Wl} {H H' : Hp} {v : V} {d : D} (e : Ext A H A' H') : DV K H A v d → DV K H' A' v d
  | .non => .non
  | .bl b => .bl b
  | .int i => .int i
  | .str x => .str x
  | .fn x => .fn x
  | .tup h r => .tup (h.ext e) (DVs.ext e r)
  | .lst h r => .lst (h.ext e) (DVs.ext e r)
  | .fls h r => .fls (h.ext e) (DVs.ext e r)
  | .loc h => .loc (e.get h)
  | .clo h1 f1 h2 f2 => .clo (e.fresh h1 f1).1 (e.fresh h1 f1).2 (e.fresh h2 f2).1 (e.fresh h2 f2).2
theorem DVs.ext {K : PySem.W.Frag} {A A' : Wl} {H H' : Hp} {vs : List V} {ds : List D} (e : Ext A H A' H') : DVs K H A vs ds → DVs K H' A' vs ds
  | .nil => .nil
  | .cons h r => .cons (DV.ext e h) (DVs.ext e r)
end
theorem DVs.length {K : PySem.W.Frag} {A : Wl} {H : Hp} : ∀ {vs : List V} {ds : List D}, DVs K H A vs ds → vs.length = ds.length
  | _, _, .nil => rfl
  | _, _, .cons _ r => congrArg (· + 1) (DVs.length r)
theorem DVs.get {K : PySem.W.Frag} {A : Wl} {H : Hp} : ∀ {vs : List V} {ds : List D} {i : Nat} {d : D}, DVs K H A vs ds → ds[i]? = some d → ∃ v, vs[i]? = some v ∧ DV K H A v d
  | _, _, _, _, .nil, e => by simp at e
  | _, _, 0, _, .cons h _, e => by
    simp at e
    subst e
    exact ⟨_, rfl, h⟩
  | _, _, i + 1, _, .cons _ r, e => by
    obtain ⟨v, h1, h2⟩ := DVs.get (i := i) r (by simpa using e)
    exact ⟨v, by simpa using h1, h2⟩
theorem DVs.getV {K : PySem.W.Frag} {A : Wl} {H : Hp} {vs : List V} {ds : List D} {i : Nat} {v : V} (h : DVs K H A vs ds) (e : vs[i]? = some v) : ∃ d, ds[i]? = some d ∧ DV K H A v d := by
  obtain ⟨hl, _⟩ := List.getElem?_eq_some_iff.mp e
  have hl2 : i < ds.length := by rw [← h.length]; exact hl
  obtain ⟨w, h1, h2⟩ := h.get (List.getElem?_eq_getElem hl2)
  rw [e] at h1
  cases h1
  exact ⟨_, List.getElem?_eq_getElem hl2, h2⟩
theorem DVs.append {K : PySem.W.Frag} {A : Wl} {H : Hp} : ∀ {vs ws : List V} {ds es : List D}, DVs K H A vs ds → DVs K H A ws es → DVs K H A (vs ++ ws) (ds ++ es)
  | _, _, _, _, .nil, s => s
  | _, _, _, _, .cons h r, s => .cons h (DVs.append r s)
theorem DVs.take {K : PySem.W.Frag} {A : Wl} {H : Hp} : ∀ {vs : List V} {ds : List D} (n : Nat), DVs K H A vs ds → DVs K H A (vs.take n) (ds.take n)
  | _, _, 0, _ => by simpa using DVs.nil
  | _, _, _ + 1, .nil => .nil
  | _, _, n + 1, .cons h r => .cons h (DVs.take n r)
theorem DVs.drop {K : PySem.W.Frag} {A : Wl} {H : Hp} : ∀ {vs : List V} {ds : List D} (n : Nat), DVs K H A vs ds → DVs K H A (vs.drop n) (ds.drop n)
  | _, _, 0, r => r
  | _, _, _ + 1, .nil => .nil
  | _, _, n + 1, .cons _ r => DVs.drop n r
theorem DVs.set {K : PySem.W.Frag} {A : Wl} {H : Hp} {v : V} {d : D} (hd : DV K H A v d) : ∀ {vs : List V} {ds : List D} (n : Nat), DVs K H A vs ds → DVs K H A (vs.set n v) (ds.set n d)
  | _, _, _, .nil => .nil
  | _, _, 0, .cons _ r => .cons hd r
  | _, _, n + 1, .cons h r => .cons h (DVs.set hd n r)
theorem DVs.reverse {K : PySem.W.Frag} {A : Wl} {H : Hp} : ∀ {vs : List V} {ds : List D}, DVs K H A vs ds → DVs K H A vs.reverse ds.reverse
  | _, _, .nil => .nil
  | _, _, .cons h r => by
    rw [List.reverse_cons, List.reverse_cons]
    exact (DVs.reverse r).append (.cons h .nil)
theorem DVs.eraseIdx {K : PySem.W.Frag} {A : Wl} {H : Hp} : ∀ {vs : List V} {ds : List D} (n : Nat), DVs K H A vs ds → DVs K H A (vs.eraseIdx n) (ds.eraseIdx n)
  | _, _, _, .nil => .nil
  | _, _, 0, .cons _ r => r
  | _, _, n + 1, .cons h r => .cons h (DVs.eraseIdx n r)
/-- flat lists -/
theorem DVs.ints {K : PySem.W.Frag} {A : Wl} {H : Hp} : ∀ {vs : List V} {ns : List Int}, DVs K H A vs (ns.map D.int) → vs = ns.map V.int
  | _, [], .nil => rfl
  | _, n :: ns, .cons h r => by
    have e := DVs.ints r
    cases h
    rw [e]
    rfl
theorem DVs.bls {K : PySem.W.Frag} {A : Wl} {H : Hp} : ∀ {vs : List V} {ns : List Bool}, DVs K H A vs (ns.map D.bl) → vs = ns.map V.bl
  | _, [], .nil => rfl
  | _, n :: ns, .cons h r => by
    have e := DVs.bls r
    cases h
    rw [e]
    rfl
theorem DVs.of_ints {K : PySem.W.Frag} {A : Wl} {H : Hp} : ∀ (ns : List Int), DVs K H A (ns.map V.int) (ns.map D.int)
  | [] => .nil
  | n :: ns => .cons (.int n) (DVs.of_ints ns)

/-! ### the store -/
inductive MO where
  | lst (l : List D) | tab (P : Addr) (q : Str) | dct (kvs : List (List Int × D))
/-- the table of a def that makes lambdas: each code object in it bears the name q -/
def TabD (H : Hp) (A : Wl) (P : Addr) (q : Str) : Prop := ∃ ps : Array Value, H P = some (.tbl ps) ∧ TriplesOk ps.toList ∧ ∀ (pos : Pos) (cv : Value), codeAmong pos ps.toList = some cv → ∃ c, cv = .ref c ∧ H c = some (LamX.CodeO c q) ∧ Fresh A c
def keyD (k : List Int) : D := .tup (k.map D.int)
abbrev Mu := List MO
abbrev Ro := List (Option D)
def MOk (K : PySem.W.Frag) (H : Hp) (A : Wl) (a : Addr) : MO → Prop
  | .lst l => ∃ xs, H a = some (.lst xs) ∧ DVs K H A xs l
  | .tab P q => a = P ∧ TabD H A P q
  | .dct kvs => ∃ xs : List (List Int × Addr × V), H a = some (DctO a xs) ∧ kvs.map (·.1) = xs.map (·.1) ∧ DVs K H A (xs.map fun x => V.ref x.2.1) (xs.map fun x => keyD x.1) ∧ DVs K H A (xs.map fun x => x.2.2) (kvs.map (·.2))
structure MuOk (K : PySem.W.Frag) (A : Wl) (μ : Mu) (H : Hp) : Prop where
  nd : A.A.Nodup
  len : A.A.length = μ.length
  sub : ∀ a ∈ A.A, a ∈ A.F
  there : ∀ a ∈ A.F, ∃ u, H a = some u
  mo : ∀ (n : Nat) (a : Addr) (o : MO), A.A[n]? = some a → μ[n]? = some o → MOk K H A a o
structure RhoOk (K : PySem.W.Frag) (A : Wl) (ρ : Ro) (σ : St) (H : Hp) : Prop where
  len : ρ.length = σ.length
  loc : ∀ (i : Nat) (d : D), ρ[i]? = some (some d) → ∃ v, σ[i]? = some (some v) ∧ DV K H A v d
theorem RhoOk.ext {K : PySem.W.Frag} {A A' : Wl} {ρ : Ro} {σ : St} {H H' : Hp} (r : RhoOk K A ρ σ H) (e : Ext A H A' H') : RhoOk K A' ρ σ H' :=
  ⟨r.len, fun i d h => let ⟨v, h1, h2⟩ := r.loc i d h; ⟨v, h1, h2.ext e⟩⟩
theorem RhoOk.set {K : PySem.W.Frag} {A : Wl} {ρ : Ro} {σ : St} {H : Hp} (r : RhoOk K A ρ σ H) {i : Nat} {v : V} {d : D} (h : DV K H A v d) : RhoOk K A (ρ.set i (some d)) (σ.set i (some v)) H := by
  refine ⟨by simp [r.len], fun j d' e => ?_⟩
  by_cases hj : i = j
  · subst hj
    obtain ⟨hl, e2⟩ := List.getElem?_eq_some_iff.mp e
    have hl2 : i < σ.length := by rw [← r.len]; simpa using hl
    rw [List.getElem_set_self] at e2
    cases e2
    exact ⟨v, List.getElem?_set_self hl2, h⟩
  · rw [List.getElem?_set_ne hj] at e
    obtain ⟨w, h1, h2⟩ := r.loc j d' e
    exact ⟨w, by rw [List.getElem?_set_ne hj]; exact h1, h2⟩
theorem RhoOk.wipe {K : PySem.W.Frag} {A : Wl} {ρ : Ro} {σ : St} {H : Hp} (r : RhoOk K A ρ σ H) (i : Nat) : RhoOk K A (ρ.set i none) (σ.set i none) H := by
  refine ⟨by simp [r.len], fun j d' e => ?_⟩
  by_cases hj : i = j
  · subst hj
    obtain ⟨hl, e2⟩ := List.getElem?_eq_some_iff.mp e
    rw [List.getElem_set_self] at e2
    cases e2
  · rw [List.getElem?_set_ne hj] at e
    obtain ⟨w, h1, h2⟩ := r.loc j d' e
    exact ⟨w, by rw [List.getElem?_set_ne hj]; exact h1, h2⟩

/-- a new thing that joins no store -/
theorem Ext.new {A : Wl} {H : Hp} {p : Addr} {o : HO} (n : H p = none) : Ext A H A (upd H p o) :=
  ⟨⟨[], by simp⟩, fun _ h => h, fun b u h nb => by rw [upd_ne (ne_of_none h n)]; exact h, fun _ _ _ nb => nb, fun b u h => ⟨u, by rw [upd_ne (ne_of_none h n)]; exact h⟩⟩
theorem TabD.ext {A A' : Wl} {H H' : Hp} {P : Addr} {q : Str} (h : TabD H A P q) (e : Ext A H A' H') (k : ∀ u, H P = some u → H' P = some u) : TabD H' A' P q := by
  obtain ⟨ps, h1, h2, h3⟩ := h
  refine ⟨ps, k _ h1, h2, fun pos cv hc => ?_⟩
  obtain ⟨c, e1, e2, e3⟩ := h3 pos cv hc
  exact ⟨c, e1, (e.fresh e2 e3).1, (e.fresh e2 e3).2⟩
theorem MOk.ext {K : PySem.W.Frag} {A A' : Wl} {H H' : Hp} {a : Addr} {o : MO} (h : MOk K H A a o) (e : Ext A H A' H') (k : ∀ u, H a = some u → H' a = some u) : MOk K H' A' a o := by
  cases o with
  | tab P q =>
    obtain ⟨rfl, h⟩ := h
    exact ⟨rfl, h.ext e k⟩
  | dct kvs =>
    obtain ⟨xs, h1, h2, h3, h4⟩ := h
    exact ⟨xs, k _ h1, h2, h3.ext e, h4.ext e⟩
  | lst l =>
    obtain ⟨xs, h1, h2⟩ := h
    exact ⟨xs, k _ h1, h2.ext e⟩
theorem MuOk.new {K : PySem.W.Frag} {A : Wl} {μ : Mu} {H : Hp} (m : MuOk K A μ H) {p : Addr} {o : HO} (n : H p = none) : MuOk K A μ (upd H p o) :=
  ⟨m.nd, m.len, m.sub, fun a ha => by
    obtain ⟨u, e⟩ := m.there a ha
    exact ⟨u, by rw [upd_ne (ne_of_none e n)]; exact e⟩, fun i a u h1 h2 => (m.mo i a u h1 h2).ext (Ext.new n) fun z hz => by rw [upd_ne (ne_of_none hz n)]; exact hz⟩
theorem MuOk.free {K : PySem.W.Frag} {A : Wl} {μ : Mu} {H : Hp} (m : MuOk K A μ H) {p : Addr} (n : H p = none) : p ∉ A.F := fun h => by
  obtain ⟨u, e⟩ := m.there p h
  rw [n] at e
  cases e
theorem MuOk.fresh {K : PySem.W.Frag} {A : Wl} {μ : Mu} {H : Hp} (m : MuOk K A μ H) {p : Addr} (n : H p = none) : Fresh A p := ⟨m.free n, fun h => m.free n (m.sub p h)⟩
theorem DV.new_tup {K : PySem.W.Frag} {A : Wl} {μ : Mu} {H : Hp} (m : MuOk K A μ H) {p : Addr} {xs : List V} {ds : List D} (n : H p = none) (h : DVs K H A xs ds) : DV K (upd H p (.tup xs)) A (.ref p) (.tup ds) :=
  .tup (.inl ⟨.inl upd_same, m.fresh n⟩) (h.ext (Ext.new n))
theorem DV.new_lst {K : PySem.W.Frag} {A : Wl} {μ : Mu} {H : Hp} (m : MuOk K A μ H) {p : Addr} {xs : List V} {ds : List D} (n : H p = none) (h : DVs K H A xs ds) : DV K (upd H p (.lst xs)) A (.ref p) (.lst ds) :=
  .lst ⟨upd_same, m.fresh n⟩ (h.ext (Ext.new n))
/-- a new list joins the store -/
def Wl.join (A : Wl) (p : Addr) : Wl := ⟨A.A ++ [p], p :: A.F⟩
theorem Ext.join {A : Wl} {H : Hp} {p : Addr} {o : HO} (n : H p = none) : Ext A H (A.join p) (upd H p o) :=
  ⟨⟨[p], rfl, fun a ha => by
    have e : a = p := by simpa using ha
    rw [e]
    exact n⟩, fun a h => List.mem_cons_of_mem _ h, fun b u h nb => by rw [upd_ne (ne_of_none h n)]; exact h, fun b u h nb z => by
    rcases List.mem_cons.mp z with z | z
    · exact ne_of_none h n z
    · exact nb z, fun b u h => ⟨u, by rw [upd_ne (ne_of_none h n)]; exact h⟩⟩
theorem MuOk.join {K : PySem.W.Frag} {A : Wl} {μ : Mu} {H : Hp} (m : MuOk K A μ H) {p : Addr} {xs : List V} {ds : List D} (n : H p = none) (h : DVs K H A xs ds) : MuOk K (A.join p) (μ ++ [.lst ds]) (upd H p (.lst xs)) := by
  refine ⟨List.nodup_append.mpr ⟨m.nd, by simp, fun a ha b hb => ?_⟩, by simp [Wl.join, m.len], fun a ha => ?_, fun a ha => ?_, fun i a u h1 h2 => ?_⟩
  · have e : b = p := by simpa using hb
    subst e
    exact fun z => m.free n (m.sub _ (z ▸ ha))
  · rcases List.mem_append.mp ha with ha | ha
    · exact List.mem_cons_of_mem _ (m.sub a ha)
    · have e : a = p := by simpa using ha
      rw [e]
      exact List.mem_cons_self
  · rcases List.mem_cons.mp ha with e | ha
    · rw [e]
      exact ⟨_, upd_same⟩
    · obtain ⟨u, e⟩ := m.there a ha
      exact ⟨u, by rw [upd_ne (ne_of_none e n)]; exact e⟩
  · have h1 : (A.A ++ [p])[i]? = some a := h1
    by_cases hi : i < A.A.length
    · rw [List.getElem?_append_left hi] at h1
      rw [List.getElem?_append_left (by rw [← m.len]; exact hi)] at h2
      exact (m.mo i a u h1 h2).ext (Ext.join n) fun z hz => by rw [upd_ne (ne_of_none hz n)]; exact hz
    · rw [List.getElem?_append_right (by omega)] at h1
      rw [List.getElem?_append_right (by rw [← m.len]; omega)] at h2
      rw [m.len] at h1
      cases hj : i - μ.length with
      | zero =>
        rw [hj] at h1 h2
        simp at h1 h2
        subst h1 h2
        exact ⟨xs, upd_same, h.ext (Ext.join n)⟩
      | succ j =>
        rw [hj] at h1
        simp at h1
/-- a list of the store is turned -/
theorem Ext.turn {A : Wl} {H : Hp} {p : Addr} {o : HO} (h : p ∈ A.A) : Ext A H A (upd H p o) :=
  ⟨⟨[], by simp⟩, fun _ h => h, fun b u e nb => by
    rw [upd_ne (show b ≠ p from fun z => nb (by rw [z]; exact h))]
    exact e, fun _ _ _ nb => nb, fun b u e => by
    by_cases z : b = p
    · rw [z]
      exact ⟨_, upd_same⟩
    · exact ⟨u, by rw [upd_ne z]; exact e⟩⟩
theorem MuOk.turn {K : PySem.W.Frag} {A : Wl} {μ : Mu} {H : Hp} (m : MuOk K A μ H) {p : Addr} {i : Nat} {xs : List V} {ds : List D} (hp : A.A[i]? = some p) (h : DVs K H A xs ds) : MuOk K A (μ.set i (.lst ds)) (upd H p (.lst xs)) := by
  have hm : p ∈ A.A := List.mem_of_getElem? hp
  have hil : i < A.A.length := (List.getElem?_eq_some_iff.mp hp).1
  refine ⟨m.nd, by simp [m.len], m.sub, fun a ha => ?_, fun j a u h1 h2 => ?_⟩
  · by_cases e : a = p
    · rw [e]
      exact ⟨_, upd_same⟩
    · obtain ⟨u, q⟩ := m.there a ha
      exact ⟨u, by rw [upd_ne e]; exact q⟩
  by_cases hj : i = j
  · subst hj
    rw [hp] at h1
    cases h1
    rw [List.getElem?_set_self (by rw [← m.len]; exact hil)] at h2
    cases h2
    exact ⟨xs, upd_same, h.ext (Ext.turn hm)⟩
  · rw [List.getElem?_set_ne hj] at h2
    refine (m.mo j a u h1 h2).ext (Ext.turn hm) fun z hz => ?_
    rw [upd_ne]
    · exact hz
    · intro e
      subst e
      obtain ⟨q1, e1⟩ := List.getElem?_eq_some_iff.mp hp
      obtain ⟨q2, e2⟩ := List.getElem?_eq_some_iff.mp h1
      exact hj ((List.getElem_inj m.nd).mp (e1.trans e2.symm))

/-! ### results -/
inductive R (α : Type) where
  | ok (a : α) (μ : Mu)
  | ex (c : Str) (μ : Mu)
abbrev M (α : Type) := Mu → Option (R α)
def M.ret {α : Type} (a : α) : M α := fun μ => some (.ok a μ)
def M.bnd {α β : Type} (m : M α) (k : α → M β) : M β := fun μ => match m μ with
  | none => none
  | some (.ex c μ1) => some (.ex c μ1)
  | some (.ok a μ1) => k a μ1
def M.of {α : Type} (o : Option α) : M α := fun μ => match o with
  | none => none
  | some a => some (.ok a μ)
def Post (K : PySem.W.Frag) (E : Value → Option Addr → Hp → Prop) (A : Wl) (H : Hp) {α β : Type} (rel : Hp → Wl → β → α → Prop) : R α → (β → Hp → Prop) → Prop
  | .ok a μ', Q => ∀ v A' H', Ext A H A' H' → MuOk K A' μ' H' → rel H' A' v a → Q v H'
  | .ex c μ', _ => ∀ dd A' H', Ext A H A' H' → MuOk K A' μ' H' → E (.ref (He.ga K c)) dd H'
/-- a computation with a known store -/
def At (K : PySem.W.Frag) (E : Value → Option Addr → Hp → Prop) (A : Wl) (μ : Mu) (H : Hp) {α β : Type} (rel : Hp → Wl → β → α → Prop) (m : M α) (Q : β → Hp → Prop) : Prop := ∃ r, m μ = some r ∧ Post K E A H rel r Q
theorem Post.mono {K : PySem.W.Frag} {E : Value → Option Addr → Hp → Prop} {A A1 : Wl} {H H1 : Hp} {α β : Type} {rel : Hp → Wl → β → α → Prop} {r : R α} {Q : β → Hp → Prop} (e : Ext A H A1 H1) (h : Post K E A H rel r Q) : Post K E A1 H1 rel r Q := by
  cases r with
  | ok a μ' => exact fun v A' H' e' m' rl => h v A' H' (e.trans e') m' rl
  | ex c μ' => exact fun dd A' H' e' m' => h dd A' H' (e.trans e') m'
/-- from the whole to its first part -/
theorem At.bnd {K : PySem.W.Frag} {E : Value → Option Addr → Hp → Prop} {A : Wl} {μ : Mu} {H : Hp} {α β γ δ : Type} {rel : Hp → Wl → β → α → Prop} {rel2 : Hp → Wl → δ → γ → Prop} {m : M α} {k : α → M γ} {Q : δ → Hp → Prop}
    (h : At K E A μ H rel2 (M.bnd m k) Q) {P : β → Hp → Prop} (hk : ∀ a μ1 v A1 H1, Ext A H A1 H1 → MuOk K A1 μ1 H1 → rel H1 A1 v a → At K E A1 μ1 H1 rel2 (k a) Q → P v H1) : At K E A μ H rel m P := by
  obtain ⟨r, e, hp⟩ := h
  unfold M.bnd at e
  cases hm : m μ with
  | none =>
    rw [hm] at e
    cases e
  | some z =>
    rw [hm] at e
    cases z with
    | ex c μ1 =>
      cases e
      exact ⟨.ex c μ1, hm, hp⟩
    | ok a μ1 => exact ⟨.ok a μ1, hm, fun v A1 H1 e1 m1 rl => hk a μ1 v A1 H1 e1 m1 rl ⟨r, e, hp.mono e1⟩⟩
theorem At.ret {K : PySem.W.Frag} {E : Value → Option Addr → Hp → Prop} {A : Wl} {μ : Mu} {H : Hp} {α β : Type} {rel : Hp → Wl → β → α → Prop} {a : α} {Q : β → Hp → Prop} (h : At K E A μ H rel (M.ret a) Q) (m : MuOk K A μ H) {v : β} (r : rel H A v a) : Q v H := by
  obtain ⟨_, e, hp⟩ := h
  cases e
  exact hp v A H Ext.refl m r
end Dn

set_option Elab.async false
set_option linter.all false
set_option maxRecDepth 100000
set_option maxHeartbeats 4000000
/-! DnB: expressions. -/
namespace Dn
open PySem PySem.Spec L2
open PyProof.Rows hiding St

theorem _root_.L2.PE.imp {X : Cx} {e : Expr} {t t' : TE} (h : PE X e t) (k : ∀ σ H Q, t' σ H Q → t σ H Q) : PE X e t' := ⟨fun pins s σ H Q I q => h.run pins s σ H Q I (k σ H Q q)⟩
theorem _root_.L2.PT.imp {X : Cx} {e : Expr} {t t' : TT} (h : PT X e t) (k : ∀ σ H Q, t' σ H Q → t σ H Q) : PT X e t' := ⟨fun pins s σ H Q I q => h.run pins s σ H Q I (k σ H Q q)⟩
theorem _root_.L2.PW.imp {X : Cx} {e : Expr} {t t' : TT} (h : PW X e t) (k : ∀ σ H Q, t' σ H Q → t σ H Q) : PW X e t' := ⟨fun w pins s σ H Q I q => h.run w pins s σ H Q I (k σ H Q q)⟩
theorem _root_.L2.PA.imp {X : Cx} {es : List Expr} {t t' : TA} (h : PA X es t) (k : ∀ σ H Q, t' σ H Q → t σ H Q) : PA X es t' := ⟨fun pos pins s σ H Q I q => h.run pos pins s σ H Q I (k σ H Q q)⟩
theorem _root_.L2.PS.imp {X : Cx} {st : Stmt} {t t' : TS} (h : PS X st t) (k : ∀ D σ H, t' D σ H → t D σ H) : PS X st t' := ⟨fun pins s σ H D I q => h.run pins s σ H D I (k D σ H q)⟩
theorem _root_.L2.PSs.imp {X : Cx} {st : List Stmt} {t t' : TS} (h : PSs X st t) (k : ∀ D σ H, t' D σ H → t D σ H) : PSs X st t' := ⟨fun pins s σ H D I q => h.run pins s σ H D I (k D σ H q)⟩

abbrev rD (K : PySem.W.Frag) : Hp → Wl → V → D → Prop := fun H A v d => DV K H A v d
abbrev rB : Hp → Wl → Bool → Bool → Prop := fun _ _ b c => b = c
abbrev rL (K : PySem.W.Frag) : Hp → Wl → List V → List D → Prop := fun H A vs ds => DVs K H A vs ds
abbrev WE (W : WX) (σ : St) : Value → Option Addr → Hp → Prop := fun c d H => W c d σ H

/-- the reading of a piece that is worth f -/
def tG (K : PySem.W.Frag) (W : WX) {α β : Type} (rel : Hp → Wl → β → α → Prop) (f : Ro → M α) : St → Hp → (β → Hp → Prop) → Prop :=
  fun σ H Q => ∃ A ρ μ, MuOk K A μ H ∧ RhoOk K A ρ σ H ∧ At K (WE W σ) A μ H rel (f ρ) Q
abbrev DE (X : Cx) (W : WX) (e : Expr) (f : Ro → M D) : Prop := PE X e (tG X.K W (rD X.K) f)
abbrev DT (X : Cx) (W : WX) (e : Expr) (f : Ro → M Bool) : Prop := PT X e (tG X.K W rB f)
abbrev DW (X : Cx) (W : WX) (e : Expr) (f : Ro → M Bool) : Prop := PW X e (tG X.K W rB f)
abbrev DA (X : Cx) (W : WX) (es : List Expr) (f : Ro → M (List D)) : Prop := PA X es (tG X.K W (rL X.K) f)

section
variable {K : PySem.W.Frag} {W : WX} {σ : St} {H : Hp}
theorem tG.bnd {α β γ δ : Type} {rel : Hp → Wl → β → α → Prop} {rel2 : Hp → Wl → δ → γ → Prop} {f : Ro → M α} {k : Ro → α → M γ} {Q : δ → Hp → Prop} {P : β → Hp → Prop}
    (h : tG K W rel2 (fun ρ => M.bnd (f ρ) (k ρ)) σ H Q)
    (hk : ∀ A ρ a μ v H1, MuOk K A μ H1 → RhoOk K A ρ σ H1 → rel H1 A v a → At K (WE W σ) A μ H1 rel2 (k ρ a) Q → P v H1) : tG K W rel f σ H P := by
  obtain ⟨A, ρ, μ, m, r, h⟩ := h
  exact ⟨A, ρ, μ, m, r, At.bnd h fun a μ1 v A1 H1 e1 m1 rl h1 => hk A1 ρ a μ1 v H1 m1 (r.ext e1) rl h1⟩
theorem tG.done {α β : Type} {rel : Hp → Wl → β → α → Prop} {a : Ro → α} {Q : β → Hp → Prop} (h : tG K W rel (fun ρ => M.ret (a ρ)) σ H Q) (v : β) (hv : ∀ A ρ μ, MuOk K A μ H → RhoOk K A ρ σ H → rel H A v (a ρ)) : Q v H := by
  obtain ⟨A, ρ, μ, m, r, h⟩ := h
  exact h.ret m (hv A ρ μ m r)
end

/-! ### names, constants -/
def eVar (i : Nat) : Ro → M D := fun ρ => M.of (ρ[i]?.join)
def eC (d : D) : Ro → M D := fun _ => M.ret d
section
variable {X : Cx} {W : WX} {pos : Pos}
theorem de_var (i : Nat) {x : Str} (hN : X.N[i]? = some x := by rfl) (hv : Vis X.env.scope x := by first | exact Or.inl rfl | exact Or.inr (Or.inl rfl) | exact Or.inr (Or.inr rfl)) (hd : (x == ("__debug__" : Str)) = false := by decide)
    (hcd : (x == ("__classdict__" : Str)) = false := by decide) : DE X W (.Name x pos) (eVar i) := by
  refine (pe_var hN hv hd hcd).imp fun σ H Q h => ?_
  obtain ⟨A, ρ, μ, m, r, z, e, hp⟩ := h
  unfold eVar M.of at e
  cases q : ρ[i]? with
  | none => simp [q] at e
  | some o =>
    cases o with
    | none => simp [q] at e
    | some d =>
      simp [q] at e
      subst e
      obtain ⟨v, h1, h2⟩ := r.loc i d q
      exact ⟨v, h1, hp v A H Ext.refl m h2⟩
theorem de_int {i : Int} {j : Nat} : DE X W (.Constant (.int i) j pos) (eC (.int i)) := pe_int.imp fun σ H Q h => tG.done h (.int i) fun _ _ _ _ _ => .int i
theorem de_bl {b : Bool} {j : Nat} : DE X W (.Constant (.bool b) j pos) (eC (.bl b)) := pe_bl.imp fun σ H Q h => tG.done h (.bl b) fun _ _ _ _ _ => .bl b
theorem de_non {j : Nat} : DE X W (.Constant .none j pos) (eC .non) := pe_non.imp fun σ H Q h => tG.done h .non fun _ _ _ _ _ => .non
theorem de_str {x : Str} {j : Nat} : DE X W (.Constant (.str x) j pos) (eC (.str x)) := pe_str.imp fun σ H Q h => tG.done h (.str x) fun _ _ _ _ _ => .str x
/-- what a module's name is worth, whatever the heap -/
def GlV (K : PySem.W.Frag) (u : Value) (d : D) : Prop := ∃ v, RelV v u ∧ ∀ H A, DV K H A v d
theorem de_glob {x : Str} {u : Value} {d : D} (hg : Gl X x) (hm : X.mg x = some u) (g : GlV X.K u d) (hd : (x == ("__debug__" : Str)) = false := by decide) : DE X W (.Name x pos) (eC d) := by
  obtain ⟨v, r, hv⟩ := g
  exact (pe_glob hg hm r hd).imp fun σ H Q h => tG.done h v fun A _ _ _ _ => hv H A
theorem GlV.int {K : PySem.W.Frag} {i : Int} {t : Tok} : GlV K (.int i t) (.int i) := ⟨.int i, ⟨t, rfl⟩, fun _ _ => .int i⟩
theorem GlV.fn {K : PySem.W.Frag} {x : Str} : GlV K (.ref (He.ga K x)) (.fn x) := ⟨.ref (He.ga K x), rfl, fun _ _ => .fn x⟩
end

/-! ### primitives -/
/-- a rule by values does what p says -/
def P1 (K : PySem.W.Frag) (r : V → Hp → VK → Prop) (p : D → M D) : Prop := ∀ (A : Wl) (μ : Mu) (H : Hp) (v : V) (a : D) (E : Value → Option Addr → Hp → Prop) (Q : VK), MuOk K A μ H → DV K H A v a → At K E A μ H (rD K) (p a) Q → r v H Q
def P2 (K : PySem.W.Frag) (r : R2) (p : D → D → M D) : Prop := ∀ (A : Wl) (μ : Mu) (H : Hp) (v w : V) (a b : D) (E : Value → Option Addr → Hp → Prop) (Q : VK), MuOk K A μ H → DV K H A v a → DV K H A w b → At K E A μ H (rD K) (p a b) Q → r v w H Q
def PL (K : PySem.W.Frag) (r : List V → Hp → VK → Prop) (p : List D → M D) : Prop := ∀ (A : Wl) (μ : Mu) (H : Hp) (vs : List V) (ds : List D) (E : Value → Option Addr → Hp → Prop) (Q : VK), MuOk K A μ H → DVs K H A vs ds → At K E A μ H (rD K) (p ds) Q → r vs H Q
def e1 (p : D → M D) (f : Ro → M D) : Ro → M D := fun ρ => M.bnd (f ρ) p
def e2 (p : D → D → M D) (f g : Ro → M D) : Ro → M D := fun ρ => M.bnd (f ρ) fun x => M.bnd (g ρ) fun y => p x y
def eL (p : List D → M D) (f : Ro → M (List D)) : Ro → M D := fun ρ => M.bnd (f ρ) p
def aNil : Ro → M (List D) := fun _ => M.ret []
def aCons (f : Ro → M D) (g : Ro → M (List D)) : Ro → M (List D) := fun ρ => M.bnd (f ρ) fun x => M.bnd (g ρ) fun xs => M.ret (x :: xs)
section
variable {K : PySem.W.Frag} {W : WX} {σ : St} {H : Hp} {f g : Ro → M D} {Q : VK}
theorem r1_imp {r : V → Hp → VK → Prop} {p : D → M D} (hp : P1 K r p) (h : tG K W (rD K) (e1 p f) σ H Q) : tUn r (tG K W (rD K) f) σ H Q :=
  tG.bnd h fun A ρ a μ v H1 m rr rl h1 => hp A μ H1 v a _ Q m rl h1
theorem r2_imp {r : R2} {p : D → D → M D} (hp : P2 K r p) (h : tG K W (rD K) (e2 p f g) σ H Q) : tOp r (tG K W (rD K) f) (tG K W (rD K) g) σ H Q :=
  tG.bnd h fun A ρ a μ v H1 m rr rl h1 => ⟨A, ρ, μ, m, rr, At.bnd h1 fun b μ2 w A2 H2 x2 m2 rl2 h2 => hp A2 μ2 H2 v w a b _ Q m2 (rl.ext x2) rl2 h2⟩
theorem rL_imp {r : List V → Hp → VK → Prop} {p : List D → M D} {fl : Ro → M (List D)} (hp : PL K r p) (h : tG K W (rD K) (eL p fl) σ H Q) : tCB r (tG K W (rL K) fl) σ H Q :=
  tG.bnd h fun A ρ a μ v H1 m rr rl h1 => hp A μ H1 v a _ Q m rl h1
end
section
variable {X : Cx} {W : WX} {pos : Pos} {e a b c : Expr} {es : List Expr} {f g : Ro → M D} {fl : Ro → M (List D)}
theorem da_nil : DA X W [] aNil := pa_nil.imp fun σ H Q h => tG.done h [] fun _ _ _ _ _ => .nil
theorem da_cons (ha : DE X W e f) (hr : DA X W es fl) (hs : starEach (e :: es) X.env = (false, eval e X.env) :: starEach es X.env := by rfl) : DA X W (e :: es) (aCons f fl) :=
  (pa_cons ha hr hs).imp fun σ H Q h => tG.bnd h fun A ρ a μ v H1 m rr rl h1 => ⟨A, ρ, μ, m, rr, At.bnd h1 fun b μ2 w A2 H2 x2 m2 rl2 h2 => h2.ret m2 (.cons (rl.ext x2) rl2)⟩
theorem de_op {op : Operator} {r : R2} {p : D → D → M D} (ho : OpR X (binaryOp op) r) (hp : P2 X.K r p) (ha : DE X W a f) (hb : DE X W b g) : DE X W (.BinOp a op b pos) (e2 p f g) := (pe_op ho ha hb).imp fun σ H Q h => r2_imp hp h
theorem de_un {op : UnaryOp} {r : V → Hp → VK → Prop} {p : D → M D} (ho : UnR X (unaryOp op) r) (hp : P1 X.K r p) (ha : DE X W a f) : DE X W (.UnaryOp op a pos) (e1 p f) := (pe_un ho ha).imp fun σ H Q h => r1_imp hp h
theorem de_cmp {op : CmpOp} {r : R2} {p : D → D → M D} (ho : OpR X (compareOp op) r) (hp : P2 X.K r p) (ha : DE X W a f) (hb : DE X W b g) (hm : behindInMarks op b = false := by first | exact nomark _ | rfl) : DE X W (.Compare a [op] [b] pos) (e2 p f g) :=
  (pe_cmpR ho ha hb hm).imp fun σ H Q h => r2_imp hp h
theorem de_ix {r : R2} {p : D → D → M D} (hr : IxR X r) (hp : P2 X.K r p) (ha : DE X W a f) (hb : DE X W b g) (hs : PlainIx b := by exact fun _ _ => rfl) : DE X W (.Subscript a b pos) (e2 p f g) := (pe_ix hr ha hb hs).imp fun σ H Q h => r2_imp hp h
/-! ### truths -/
def asB : D → M Bool
  | .bl b => M.ret b
  | _ => fun _ => none
def tV (f : Ro → M D) : Ro → M Bool := fun ρ => M.bnd (f ρ) asB
theorem tB_imp {K : PySem.W.Frag} {σ : St} {H : Hp} {Q : Bool → Hp → Prop} (h : tG K W rB (tV f) σ H Q) : tB (tG K W (rD K) f) σ H Q :=
  tG.bnd h fun A ρ a μ v H1 m rr rl h1 => by
    cases rl with
    | bl b => exact ⟨b, rfl, h1.ret m rfl⟩
    | _ =>
      obtain ⟨_, e, _⟩ := h1
      cases e
theorem dt_val (h : DE X W e f) (he : ∀ whole, isTrue e X.env whole = (do let v ← whole; standAt e.pos; holding [v] (truthy v)) := by intro _; rfl) : DT X W e (tV f) := (pt_val h he).imp fun σ H Q q => tB_imp q
theorem dt_cmp {op : CmpOp} {r : R2} {p : D → D → M D} (ho : OpR X (compareOp op) r) (hp : P2 X.K r p) (ha : DE X W a f) (hb : DE X W b g) (hm : behindInMarks op b = false := by first | exact nomark _ | rfl) : DT X W (.Compare a [op] [b] pos) (tV (e2 p f g)) :=
  (pt_cmpR ho ha hb hm).imp fun σ H Q h => by
    have h2 : tB (tG X.K W (rD X.K) (e2 p f g)) σ H Q := tB_imp h
    exact r2_imp hp h2
variable {ft gt : Ro → M Bool} {rest : List Expr}
def tAnd' (f g : Ro → M Bool) : Ro → M Bool := fun ρ => M.bnd (f ρ) fun c => if c = true then g ρ else M.ret false
def tOr' (f g : Ro → M Bool) : Ro → M Bool := fun ρ => M.bnd (f ρ) fun c => if c = true then M.ret true else g ρ
def tNot' (f : Ro → M Bool) : Ro → M Bool := fun ρ => M.bnd (f ρ) fun c => M.ret (!c)
theorem dw_and1 (ha : DT X W a ft) : DW X W (.BoolOp .And [a] pos) ft := pw_and1 ha
theorem dw_or1 (ha : DT X W a ft) : DW X W (.BoolOp .Or [a] pos) ft := pw_or1 ha
theorem dw_and (ha : DT X W a ft) (hb : DW X W (.BoolOp .And (b :: rest) pos) gt) : DW X W (.BoolOp .And (a :: b :: rest) pos) (tAnd' ft gt) :=
  (pw_and ha hb).imp fun σ H Q h => tG.bnd h fun A ρ a μ v H1 m rr rl h1 => by
    cases (show v = a from rl)
    cases a with
    | true => exact iteT ⟨A, ρ, μ, m, rr, by simpa using h1⟩
    | false =>
      refine iteF ?_
      have h1 : At X.K (WE W σ) A μ H1 rB (M.ret false) Q := by simpa using h1
      exact h1.ret m rfl
theorem dw_or (ha : DT X W a ft) (hb : DW X W (.BoolOp .Or (b :: rest) pos) gt) : DW X W (.BoolOp .Or (a :: b :: rest) pos) (tOr' ft gt) :=
  (pw_or ha hb).imp fun σ H Q h => tG.bnd h fun A ρ a μ v H1 m rr rl h1 => by
    cases (show v = a from rl)
    cases a with
    | false => exact iteF ⟨A, ρ, μ, m, rr, by simpa using h1⟩
    | true =>
      refine iteT ?_
      have h1 : At X.K (WE W σ) A μ H1 rB (M.ret true) Q := by simpa using h1
      exact h1.ret m rfl
theorem dt_not (ha : DT X W a ft) : DT X W (.UnaryOp .Not a pos) (tNot' ft) :=
  (pt_not ha).imp fun σ H Q h => tG.bnd h fun A ρ a μ v H1 m rr rl h1 => by
    cases (show v = a from rl)
    exact h1.ret m rfl
theorem DW.dt (h : DW X W e ft) : DT X W e ft := PW.pt h
/-! ### and, or, not as values; a if t else b -/
def vAnd (f g : Ro → M D) : Ro → M D := fun ρ => M.bnd (f ρ) fun x => M.bnd (asB x) fun c => if c = true then g ρ else M.ret (.bl false)
def vOr (f g : Ro → M D) : Ro → M D := fun ρ => M.bnd (f ρ) fun x => M.bnd (asB x) fun c => if c = true then M.ret (.bl true) else g ρ
def vNot (f : Ro → M D) : Ro → M D := fun ρ => M.bnd (f ρ) fun x => M.bnd (asB x) fun c => M.ret (.bl (!c))
theorem asB_bnd {K : PySem.W.Frag} {E : Value → Option Addr → Hp → Prop} {A : Wl} {μ : Mu} {H : Hp} {γ δ : Type} {rel : Hp → Wl → δ → γ → Prop} {d : D} {v : V} {k : Bool → M γ} {Q : δ → Hp → Prop}
    (h : At K E A μ H rel (M.bnd (asB d) k) Q) (rl : DV K H A v d) : ∃ c, v = .bl c ∧ At K E A μ H rel (k c) Q := by
  obtain ⟨r, e, hp⟩ := h
  cases rl with
  | bl b => exact ⟨b, rfl, r, e, hp⟩
  | _ => cases e
theorem de_one {op : BoolOp} (h : DE X W a f) : DE X W (.BoolOp op [a] pos) f := pe_one h
theorem de_and (ha : DE X W a f) (hb : DE X W (.BoolOp .And (b :: rest) pos) g) : DE X W (.BoolOp .And (a :: b :: rest) pos) (vAnd f g) :=
  (pe_and ha hb).imp fun σ H Q h => tG.bnd h fun A ρ a μ v H1 m rr rl h1 => by
    obtain ⟨c, rfl, h2⟩ := asB_bnd h1 rl
    refine ⟨c, rfl, ?_⟩
    cases c with
    | true => exact iteT ⟨A, ρ, μ, m, rr, by simpa using h2⟩
    | false =>
      refine iteF ?_
      have h2 : At X.K (WE W σ) A μ H1 (rD X.K) (M.ret (.bl false)) Q := by simpa using h2
      exact h2.ret m (.bl false)
theorem de_or (ha : DE X W a f) (hb : DE X W (.BoolOp .Or (b :: rest) pos) g) : DE X W (.BoolOp .Or (a :: b :: rest) pos) (vOr f g) :=
  (pe_or ha hb).imp fun σ H Q h => tG.bnd h fun A ρ a μ v H1 m rr rl h1 => by
    obtain ⟨c, rfl, h2⟩ := asB_bnd h1 rl
    refine ⟨c, rfl, ?_⟩
    cases c with
    | false => exact iteF ⟨A, ρ, μ, m, rr, by simpa using h2⟩
    | true =>
      refine iteT ?_
      have h2 : At X.K (WE W σ) A μ H1 (rD X.K) (M.ret (.bl true)) Q := by simpa using h2
      exact h2.ret m (.bl true)
theorem de_not (ha : DE X W a f) : DE X W (.UnaryOp .Not a pos) (vNot f) :=
  (pe_not ha).imp fun σ H Q h => tG.bnd h fun A ρ a μ v H1 m rr rl h1 => by
    obtain ⟨c, rfl, h2⟩ := asB_bnd h1 rl
    exact ⟨c, rfl, h2.ret m (.bl _)⟩
def vIf (t : Ro → M Bool) (f g : Ro → M D) : Ro → M D := fun ρ => M.bnd (t ρ) fun c => if c = true then f ρ else g ρ
theorem de_if (hc : DT X W c ft) (ha : DE X W a f) (hb : DE X W b g) : DE X W (.IfExp c a b pos) (vIf ft f g) :=
  (pe_ifExp hc ha hb).imp fun σ H Q h => tG.bnd h fun A ρ a μ v H1 m rr rl h1 => by
    cases (show v = a from rl)
    cases a with
    | true => exact iteT ⟨A, ρ, μ, m, rr, by simpa using h1⟩
    | false => exact iteF ⟨A, ρ, μ, m, rr, by simpa using h1⟩
/-- a < b < c -/
def vChain (p q : D → D → M D) (f g h : Ro → M D) : Ro → M D := fun ρ => M.bnd (f ρ) fun x => M.bnd (g ρ) fun y => M.bnd (p x y) fun z => M.bnd (asB z) fun c => if c = true then M.bnd (h ρ) fun u => q y u else M.ret (.bl false)
section
variable {fh : Ro → M D} {op op' : CmpOp} {r r' : R2} {p q : D → D → M D}
/-- the first comparison hands on what p says -/
theorem chain_imp {K : PySem.W.Frag} {σ : St} {H : Hp} {Q : VK} (hp : P2 K r p) (hq : P2 K r' q) (h : tG K W (rD K) (vChain p q f g fh) σ H Q) : tChain r r' (tG K W (rD K) f) (tG K W (rD K) g) (tG K W (rD K) fh) σ H Q :=
  tG.bnd h fun A ρ a μ v H1 m rr rl h1 => ⟨A, ρ, μ, m, rr, At.bnd h1 fun b μ2 w A2 H2 x2 m2 rl2 h2 => by
    have rr2 := rr.ext x2
    refine hp A2 μ2 H2 v w a b (WE W σ) _ m2 (rl.ext x2) rl2 (At.bnd h2 fun z μ3 zv A3 H3 x3 m3 rl3 h3 => ?_)
    obtain ⟨k, rfl, h4⟩ := asB_bnd h3 rl3
    refine ⟨k, rfl, ?_⟩
    cases k with
    | true =>
      refine iteT ⟨A3, ρ, μ3, m3, rr2.ext x3, At.bnd (by simpa using h4) fun u μ4 uv A4 H4 x4 m4 rl4 h5 => ?_⟩
      exact hq A4 μ4 H4 w uv b u (WE W σ) _ m4 ((rl2.ext x3).ext x4) rl4 h5
    | false =>
      refine iteF ?_
      have h4 : At K (WE W σ) A3 μ3 H3 (rD K) (M.ret (.bl false)) Q := by simpa using h4
      exact h4.ret m3 (.bl false)⟩
theorem de_chain (ho : OpR X (compareOp op) r) (ho' : OpR X (compareOp op') r') (hp : P2 X.K r p) (hq : P2 X.K r' q) (ha : DE X W a f) (hb : DE X W b g) (hc : DE X W c fh)
    (hm : lastMarks [op, op'] [b, c] = false := by with_unfolding_all rfl) : DE X W (.Compare a [op, op'] [b, c] pos) (vChain p q f g fh) := (pe_chain ho ho' ha hb hc hm).imp fun σ H Q z => chain_imp hp hq z
theorem dt_chain (ho : OpR X (compareOp op) r) (ho' : OpR X (compareOp op') r') (hp : P2 X.K r p) (hq : P2 X.K r' q) (ha : DE X W a f) (hb : DE X W b g) (hc : DE X W c fh)
    (hm : lastMarks [op, op'] [b, c] = false := by with_unfolding_all rfl) : DT X W (.Compare a [op, op'] [b, c] pos) (tV (vChain p q f g fh)) := (pt_chain ho ho' ha hb hc hm).imp fun σ H Q z => by
  have z2 : tB (tG X.K W (rD X.K) (vChain p q f g fh)) σ H Q := tB_imp z
  exact chain_imp hp hq z2
end
end
end Dn

set_option Elab.async false
set_option linter.all false
set_option maxRecDepth 100000
set_option maxHeartbeats 4000000
/-! DnC: primitives. -/
namespace Dn
open PySem PySem.Spec L2
open PyProof.Rows hiding St

def fail {α : Type} : M α := fun _ => none
@[simp] theorem M.ret_ap {α : Type} (a : α) (μ : Mu) : M.ret a μ = some (.ok a μ) := rfl
@[simp] theorem fail_ap {α : Type} (μ : Mu) : (fail : M α) μ = none := rfl
@[simp] theorem M.ret_bnd {α β : Type} (a : α) (k : α → M β) : M.bnd (M.ret a) k = k a := rfl
@[simp] theorem M.fail_bnd {α β : Type} (k : α → M β) : M.bnd fail k = fail := rfl
@[simp] theorem M.of_some {α : Type} (a : α) : M.of (some a) = M.ret a := rfl
@[simp] theorem M.of_none {α : Type} : M.of (none : Option α) = fail := rfl
theorem M.bnd_bnd {α β γ : Type} (m : M α) (k : α → M β) (l : β → M γ) : M.bnd (M.bnd m k) l = M.bnd m fun a => M.bnd (k a) l := by
  funext μ
  unfold M.bnd
  cases m μ with
  | none => rfl
  | some r => cases r <;> rfl
theorem At.no {K : PySem.W.Frag} {E : Value → Option Addr → Hp → Prop} {A : Wl} {μ : Mu} {H : Hp} {α β : Type} {rel : Hp → Wl → β → α → Prop} {Q : β → Hp → Prop} (h : At K E A μ H rel (fail : M α) Q) : False := by
  obtain ⟨_, e, _⟩ := h
  cases e
theorem At.guard {K : PySem.W.Frag} {E : Value → Option Addr → Hp → Prop} {A : Wl} {μ : Mu} {H : Hp} {α β : Type} {rel : Hp → Wl → β → α → Prop} {Q : β → Hp → Prop} {c : Prop} [Decidable c] {m : M α} (h : At K E A μ H rel (if c then m else fail) Q) : c ∧ At K E A μ H rel m Q := by
  by_cases hc : c
  · rw [if_pos hc] at h
    exact ⟨hc, h⟩
  · rw [if_neg hc] at h
    exact h.no.elim
/-- a new tuple, a new list as data -/
theorem At.tup {K : PySem.W.Frag} {E : Value → Option Addr → Hp → Prop} {A : Wl} {μ : Mu} {H : Hp} {ds : List D} {Q : VK} (h : At K E A μ H (rD K) (M.ret (.tup ds)) Q) (m : MuOk K A μ H) {vs : List V} (r : DVs K H A vs ds) : ∀ p, H p = none → Q (.ref p) (upd H p (.tup vs)) := fun p n => by
  obtain ⟨_, e, hp⟩ := h
  cases e
  exact hp _ A _ (Ext.new n) (m.new n) (DV.new_tup m n r)
theorem At.lst {K : PySem.W.Frag} {E : Value → Option Addr → Hp → Prop} {A : Wl} {μ : Mu} {H : Hp} {ds : List D} {Q : VK} (h : At K E A μ H (rD K) (M.ret (.lst ds)) Q) (m : MuOk K A μ H) {vs : List V} (r : DVs K H A vs ds) : ∀ p, H p = none → Q (.ref p) (upd H p (.lst vs)) := fun p n => by
  obtain ⟨_, e, hp⟩ := h
  cases e
  exact hp _ A _ (Ext.new n) (m.new n) (DV.new_lst m n r)
theorem DVs.unique {K : PySem.W.Frag} {A : Wl} {H : Hp} {a : Addr} {ds : List D} (h : DV K H A (.ref a) (.tup ds)) : ∃ xs, TpAt K H A a xs ∧ DVs K H A xs ds := by
  cases h with
  | tup h r => exact ⟨_, h, r⟩

/-! ### ints -/
def p2I (C : Int → Int → Bool) (g : Int → Int → D) : D → D → M D
  | .int i, .int j => if C i j = true then M.ret (g i j) else fail
  | _, _ => fail
theorem p2I_ok {K : PySem.W.Frag} {C : Int → Int → Prop} {Cb : Int → Int → Bool} {gV : Int → Int → V} {g : Int → Int → D} (hC : ∀ i j, Cb i j = true → C i j) (hg : ∀ H A i j, DV K H A (gV i j) (g i j)) : P2 K (rI C gV) (p2I Cb g) := by
  intro A μ H v w a b E Q m hv hw h
  cases hv with
  | int i => cases hw with
    | int j =>
      obtain ⟨c, h⟩ := At.guard (c := Cb i j = true) h
      exact ⟨i, j, rfl, rfl, hC i j c, h.ret m (hg H A i j)⟩
    | _ => exact h.no.elim
  | _ => exact h.no.elim
def p2I0 (g : Int → Int → D) : D → D → M D
  | .int i, .int j => M.ret (g i j)
  | _, _ => fail
theorem p2I0_ok {K : PySem.W.Frag} {gV : Int → Int → V} {g : Int → Int → D} (hg : ∀ H A i j, DV K H A (gV i j) (g i j)) : P2 K (rI0 gV) (p2I0 g) := by
  intro A μ H v w a b E Q m hv hw h
  cases hv with
  | int i => cases hw with
    | int j => exact ⟨i, j, rfl, rfl, h.ret m (hg H A i j)⟩
    | _ => exact h.no.elim
  | _ => exact h.no.elim
def pSub := p2I0 fun i j => .int (i - j)
def pMul := p2I (fun i j => (decide (-(2 ^ 64) < i) && decide (i < 2 ^ 64)) || (decide (-(2 ^ 64) < j) && decide (j < 2 ^ 64))) fun i j => .int (i * j)
def pDiv := p2I (fun i j => decide (0 < j) && decide (j < 2 ^ 200)) fun i j => .int (i / j)
def pMod := p2I (fun _ j => decide (0 < j)) fun i j => .int (i % j)
def pPow := p2I (fun i j => decide (0 ≤ j) && decide (j ≤ 1000) && decide (i.natAbs < 1000)) fun i j => .int (i ^ j.toNat)
def pLt := p2I0 fun i j => .bl (decide (i < j))
def pLe := p2I0 fun i j => .bl (decide (i ≤ j))
def pGt := p2I0 fun i j => .bl (decide (j < i))
def pGe := p2I0 fun i j => .bl (decide (j ≤ i))
section
variable {K : PySem.W.Frag}
theorem pSub_ok : P2 K (rI0 fun i j => .int (i - j)) pSub := p2I0_ok fun _ _ _ _ => .int _
theorem pMul_ok : P2 K (rI CMul fun i j => .int (i * j)) pMul := p2I_ok (fun i j h => by
  simp only [Bool.or_eq_true, Bool.and_eq_true, decide_eq_true_eq] at h
  exact h) fun _ _ _ _ => .int _
theorem pDiv_ok : P2 K (rI CDivW fun i j => .int (i / j)) pDiv := p2I_ok (fun i j h => by
  simp only [Bool.and_eq_true, decide_eq_true_eq] at h
  exact wide_div (b := 200) h.1 (by omega) (by omega) (by omega)) fun _ _ _ _ => .int _
theorem pMod_ok : P2 K (rI (fun _ j => 0 < j) fun i j => .int (i % j)) pMod := p2I_ok (fun i j h => of_decide_eq_true h) fun _ _ _ _ => .int _
theorem pPow_ok : P2 K (rI CPow fun i j => .int (i ^ j.toNat)) pPow := p2I_ok (fun i j h => by
  simp only [Bool.and_eq_true, decide_eq_true_eq] at h
  exact ⟨h.1.1, by omega, by omega⟩) fun _ _ _ _ => .int _
theorem pLt_ok : P2 K (rI0 fun i j => .bl (decide (i < j))) pLt := p2I0_ok fun _ _ _ _ => .bl _
theorem pLe_ok : P2 K (rI0 fun i j => .bl (decide (i ≤ j))) pLe := p2I0_ok fun _ _ _ _ => .bl _
theorem pGt_ok : P2 K (rI0 fun i j => .bl (decide (j < i))) pGt := p2I0_ok fun _ _ _ _ => .bl _
theorem pGe_ok : P2 K (rI0 fun i j => .bl (decide (j ≤ i))) pGe := p2I0_ok fun _ _ _ _ => .bl _
def pNeg : D → M D
  | .int i => M.ret (.int (-i))
  | _ => fail
theorem pNeg_ok : P1 K (rU fun i => .int (-i)) pNeg := by
  intro A μ H v a E Q m hv h
  cases hv with
  | int i => exact ⟨i, rfl, h.ret m (.int _)⟩
  | _ => exact h.no.elim
/-! ### + of ints, tuples, lists -/
def rPlus (K : PySem.W.Frag) : R2 := fun x y H Q => rI0 (fun i j => .int (i + j)) x y H Q ∨ rCatA K x y H Q ∨ rCat x y H Q
theorem op_plus {X : Cx} : OpR X (binaryOp .Add) (rPlus X.K) := op_add.or (op_catA.or op_cat)
def small (n : Nat) : Bool := decide (n ≤ 1000000)
theorem small_le {n : Nat} (h : small n = true) : n ≤ sizeLine := Nat.le_trans (of_decide_eq_true h) (by rw [sizeLine_eq]; decide)
theorem small_lt {n : Nat} (h : small n = true) : n < sizeLine := Nat.lt_of_le_of_lt (of_decide_eq_true h) (by rw [sizeLine_eq]; decide)
def pAdd : D → D → M D
  | .int i, .int j => M.ret (.int (i + j))
  | .tup a, .tup b => if small (a.length + b.length) = true then M.ret (.tup (a ++ b)) else fail
  | .lst a, .lst b => if small (a.length + b.length) = true then M.ret (.lst (a ++ b)) else fail
  | _, _ => fail
theorem pAdd_ok : P2 K (rPlus K) pAdd := by
  intro A μ H v w a b E Q m hv hw h
  cases hv with
  | int i => cases hw with
    | int j => exact .inl ⟨i, j, rfl, rfl, h.ret m (.int _)⟩
    | _ => exact h.no.elim
  | @tup p xs ds hp hx => cases hw with
    | @tup q ys es hq hy =>
      obtain ⟨c, h⟩ := At.guard (c := small (ds.length + es.length) = true) h
      have hz := small_le c
      refine .inr (.inl ⟨p, q, xs, ys, rfl, rfl, hp.sq, hq.sq, by rw [hx.length, hy.length]; exact hz, fun e => ?_, fun e1 e2 => ?_, fun e1 e2 => At.tup h m (hx.append hy)⟩)
      · subst e
        cases hx
        exact h.ret m (by simpa using DV.tup hq hy)
      · subst e2
        cases hy
        exact h.ret m (by simpa using DV.tup hp hx)
    | _ => exact h.no.elim
  | @lst p xs ds hp hx => cases hw with
    | @lst q ys es hq hy =>
      obtain ⟨c, h⟩ := At.guard (c := small (ds.length + es.length) = true) h
      exact .inr (.inr ⟨p, q, xs, ys, rfl, rfl, hp.1, hq.1, by rw [hx.length, hy.length]; exact small_le c, At.lst h m (hx.append hy)⟩)
    | _ => exact h.no.elim
  | _ => exact h.no.elim
/-! ### items, slices -/
def pIx : D → D → M D
  | .tup l, .int i => M.of (atI l i)
  | .lst l, .int i => M.of (atI l i)
  | .fls l, .int i => M.of (atI l i)
  | .loc n, .int i => fun μ => match μ[n]? with
    | some (.lst l) => (M.of (atI l i) : M D) μ
    | _ => none
  | _, _ => fail
theorem DVs.atI {A : Wl} {H : Hp} {vs : List V} {ds : List D} {i : Int} {d : D} (h : DVs K H A vs ds) (e : atI ds i = some d) : ∃ v, L2.atI vs i = some v ∧ DV K H A v d := by
  unfold L2.atI at e ⊢
  rw [h.length]
  cases q : ixN ds.length i with
  | none => simp [q] at e
  | some j =>
    simp [q] at e
    obtain ⟨v, h1, h2⟩ := h.get e
    exact ⟨v, by simpa using h1, h2⟩
theorem At.of {E : Value → Option Addr → Hp → Prop} {A : Wl} {μ : Mu} {H : Hp} {α β : Type} {rel : Hp → Wl → β → α → Prop} {Q : β → Hp → Prop} {o : Option α} (h : At K E A μ H rel (M.of o) Q) : ∃ a, o = some a ∧ At K E A μ H rel (M.ret a) Q := by
  cases o with
  | none => exact h.no.elim
  | some a => exact ⟨a, rfl, h⟩
theorem pIx_ok : P2 K (rIx K) pIx := by
  intro A μ H v w a b E Q m hv hw h
  cases hw with
  | int i => cases hv with
    | @tup p xs ds hp hx =>
      obtain ⟨d, e, h⟩ := At.of (o := atI ds i) h
      obtain ⟨u, e1, r⟩ := hx.atI e
      exact .inr (.inl ⟨p, xs, i, u, rfl, rfl, hp.sq, e1, h.ret m r⟩)
    | @lst p xs ds hp hx =>
      obtain ⟨d, e, h⟩ := At.of (o := atI ds i) h
      obtain ⟨u, e1, r⟩ := hx.atI e
      exact .inl ⟨p, xs, i, u, rfl, rfl, hp.sq, e1, h.ret m r⟩
    | @fls p xs ds hp hx =>
      obtain ⟨d, e, h⟩ := At.of (o := atI ds i) h
      obtain ⟨u, e1, r⟩ := hx.atI e
      exact .inl ⟨p, xs, i, u, rfl, rfl, hp.sq, e1, h.ret m r⟩
    | @loc p n hn =>
      obtain ⟨r, e, hp⟩ := h
      cases q : μ[n]? with
      | none => simp [pIx, q] at e
      | some o =>
        cases o with
        | tab _ _ => simp [pIx, q] at e
        | dct _ => simp [pIx, q] at e
        | lst l =>
          obtain ⟨xs, hl, hx⟩ := m.mo n p _ hn q
          have e : (M.of (atI l i) : M D) μ = some r := by simpa [pIx, q] using e
          obtain ⟨d, e2, h⟩ := At.of (o := atI l i) (⟨r, e, hp⟩ : At K E A μ H (rD K) (M.of (atI l i)) Q)
          obtain ⟨u, e1, rr⟩ := hx.atI e2
          exact .inl ⟨p, xs, i, u, rfl, rfl, .of hl, e1, h.ret m rr⟩
    | _ => exact h.no.elim
  | _ => cases hv <;> exact h.no.elim
end
end Dn

set_option Elab.async false
set_option linter.all false
set_option maxRecDepth 100000
set_option maxHeartbeats 4000000
/-! DnD: more primitives: calls of built-ins, equality. -/
namespace Dn
open PySem PySem.Spec L2
open PyProof.Rows hiding St

/-! ### the items of what is a row -/
def items (μ : Mu) : D → Option (List D)
  | .tup l => some l
  | .lst l => some l
  | .fls l => some l
  | .loc n => match μ[n]? with
    | some (.lst l) => some l
    | _ => none
  | _ => none
theorem items_sq {K : PySem.W.Frag} {A : Wl} {μ : Mu} {H : Hp} {v : V} {a : D} {l : List D} (m : MuOk K A μ H) (h : DV K H A v a) (e : items μ a = some l) : ∃ p xs, v = .ref p ∧ (SqL K H p xs ∨ SqT K H p xs) ∧ DVs K H A xs l := by
  cases h with
  | @tup p xs ds hp hx =>
    cases e
    exact ⟨p, xs, rfl, .inr hp.sq, hx⟩
  | @lst p xs ds hp hx =>
    cases e
    exact ⟨p, xs, rfl, .inl hp.sq, hx⟩
  | @fls p xs ds hp hx =>
    cases e
    exact ⟨p, xs, rfl, .inl hp.sq, hx⟩
  | @loc p n hn =>
    unfold items at e
    cases q : μ[n]? with
    | none => simp [q] at e
    | some o =>
      cases o with
      | tab _ _ => simp [q] at e
      | dct _ => simp [q] at e
      | lst l' =>
        simp [q] at e
        subst e
        obtain ⟨xs, hl, hx⟩ := m.mo n p _ hn q
        exact ⟨p, xs, rfl, .inl (.of hl), hx⟩
  | _ => cases e
/-- with the items of the only argument -/
def onItems {α : Type} (k : List D → M α) : List D → M α
  | [d] => fun μ => match items μ d with
    | some l => k l μ
    | none => none
  | _ => fail
theorem onItems_ok {K : PySem.W.Frag} {A : Wl} {μ : Mu} {H : Hp} {vs : List V} {ds : List D} {E : Value → Option Addr → Hp → Prop} {α β : Type} {rel : Hp → Wl → β → α → Prop} {k : List D → M α} {Q : β → Hp → Prop} (m : MuOk K A μ H) (h : DVs K H A vs ds)
    (q : At K E A μ H rel (onItems k ds) Q) : ∃ p xs l d, vs = [V.ref p] ∧ ds = [d] ∧ items μ d = some l ∧ (SqL K H p xs ∨ SqT K H p xs) ∧ DVs K H A xs l ∧ At K E A μ H rel (k l) Q := by
  cases h with
  | nil => exact q.no.elim
  | @cons v vs d ds h r => cases r with
    | nil =>
      obtain ⟨r, e, hp⟩ := q
      unfold onItems at e
      cases hi : items μ d with
      | none => simp [hi] at e
      | some l =>
        obtain ⟨p, xs, rfl, sq, hx⟩ := items_sq m h hi
        exact ⟨p, xs, l, d, rfl, rfl, hi, sq, hx, r, by simpa [hi] using e, hp⟩
    | cons _ _ => exact q.no.elim
section
variable {K : PySem.W.Frag}
/-! ### len, list, tuple -/
def pLen : List D → M D := onItems fun l => M.ret (.int l.length)
theorem pLen_ok : PL K (fun xs H Q => ∃ p ys, xs = [V.ref p] ∧ (SqL K H p ys ∨ SqT K H p ys) ∧ Q (.int ys.length) H) pLen := by
  intro A μ H vs ds E Q m h q
  obtain ⟨p, xs, l, d, rfl, rfl, _, sq, hx, q⟩ := onItems_ok m h q
  refine ⟨p, xs, rfl, sq, ?_⟩
  rw [hx.length]
  exact q.ret m (.int _)
def pList : List D → M D := onItems fun l => M.ret (.lst l)
theorem pList_ok : PL K (fun xs H Q => ∃ p ys, xs = [V.ref p] ∧ (SqL K H p ys ∨ SqT K H p ys) ∧ ∀ l, H l = none → Q (.ref l) (upd H l (.lst ys))) pList := by
  intro A μ H vs ds E Q m h q
  obtain ⟨p, xs, l, d, rfl, rfl, _, sq, hx, q⟩ := onItems_ok m h q
  exact ⟨p, xs, rfl, sq, q.lst m hx⟩
def pTuple : List D → M D := onItems fun l => M.ret (.tup l)
theorem pTuple_ok : PL K (fun xs H Q => ∃ p ys, xs = [V.ref p] ∧ ((SqL K H p ys ∧ ∀ l, H l = none → Q (.ref l) (upd H l (.tup ys))) ∨ (SqT K H p ys ∧ Q (.ref p) H))) pTuple := by
  intro A μ H vs ds E Q m h q
  obtain ⟨p, xs, l, d, rfl, rfl, hi, sq, hx, q⟩ := onItems_ok m h q
  cases h with
  | cons h r => cases r with
    | nil => cases h with
      | @tup p xs' ds hp hx' =>
        simp [items] at hi
        subst hi
        exact ⟨p, xs', rfl, .inr ⟨hp.sq, q.ret m (.tup hp hx')⟩⟩
      | @lst p xs' ds hp hx' =>
        simp [items] at hi
        subst hi
        exact ⟨p, xs', rfl, .inl ⟨hp.sq, q.tup m hx'⟩⟩
      | @fls p xs' ds hp hx' =>
        simp [items] at hi
        subst hi
        exact ⟨p, xs', rfl, .inl ⟨hp.sq, q.tup m hx'⟩⟩
      | @loc p n hn =>
        unfold items at hi
        cases z : μ[n]? with
        | none => simp [z] at hi
        | some o =>
          cases o with
          | tab _ _ => simp [z] at hi
          | dct _ => simp [z] at hi
          | lst l' =>
            simp [z] at hi
            subst hi
            obtain ⟨xs, hl, hx⟩ := m.mo n p _ hn z
            exact ⟨p, xs, rfl, .inl ⟨.of hl, q.tup m hx⟩⟩
      | fn a => cases hi
      | clo _ _ _ _ => cases hi
/-! ### rows of intsOf, of truths -/
def intsOf : List D → Option (List Int)
  | [] => some []
  | .int i :: r => (intsOf r).map (i :: ·)
  | _ :: _ => none
theorem intsOf_eq : ∀ {l : List D} {ns : List Int}, intsOf l = some ns → l = ns.map D.int
  | [], ns, e => by
    cases e
    rfl
  | d :: r, ns, e => by
    cases d with
    | int i =>
      simp [intsOf] at e
      obtain ⟨ms, h1, rfl⟩ := e
      rw [intsOf_eq h1]
      rfl
    | _ => cases e
@[simp] theorem intsOf_map : ∀ ns : List Int, intsOf (ns.map D.int) = some ns
  | [] => rfl
  | n :: ns => by simp [intsOf, intsOf_map ns]
def boolsOf : List D → Option (List Bool)
  | [] => some []
  | .bl i :: r => (boolsOf r).map (i :: ·)
  | _ :: _ => none
theorem boolsOf_eq : ∀ {l : List D} {ns : List Bool}, boolsOf l = some ns → l = ns.map D.bl
  | [], ns, e => by
    cases e
    rfl
  | d :: r, ns, e => by
    cases d with
    | bl i =>
      simp [boolsOf] at e
      obtain ⟨ms, h1, rfl⟩ := e
      rw [boolsOf_eq h1]
      rfl
    | _ => cases e
@[simp] theorem boolsOf_map : ∀ ns : List Bool, boolsOf (ns.map D.bl) = some ns
  | [] => rfl
  | n :: ns => by simp [boolsOf, boolsOf_map ns]
def onInts (k : List Int → M D) : List D → M D := onItems fun l => M.bnd (M.of (intsOf l)) k
def onBools (k : List Bool → M D) : List D → M D := onItems fun l => M.bnd (M.of (boolsOf l)) k
theorem of_bnd {E : Value → Option Addr → Hp → Prop} {A : Wl} {μ : Mu} {H : Hp} {α β γ : Type} {rel : Hp → Wl → β → α → Prop} {Q : β → Hp → Prop} {o : Option γ} {k : γ → M α} (h : At K E A μ H rel (M.bnd (M.of o) k) Q) : ∃ a, o = some a ∧ At K E A μ H rel (k a) Q := by
  cases o with
  | none => exact h.no.elim
  | some a => exact ⟨a, rfl, h⟩
def pSum : List D → M D := onInts fun ns => M.ret (.int ns.sum)
def maxL : List Int → Int
  | [] => 0
  | n :: ns => ns.foldl max n
def minL : List Int → Int
  | [] => 0
  | n :: ns => ns.foldl min n
theorem foldl_max : ∀ (ns : List Int) (n : Int), (ns.foldl max n ∈ n :: ns) ∧ ∀ y ∈ n :: ns, y ≤ ns.foldl max n
  | [], n => by simp
  | m :: ns, n => by
    obtain ⟨h1, h2⟩ := foldl_max ns (max n m)
    rw [List.foldl_cons]
    refine ⟨?_, fun y hy => ?_⟩
    · rcases List.mem_cons.mp h1 with e | e
      · rw [e]
        by_cases h : n ≤ m
        · rw [Int.max_eq_right h]
          simp
        · rw [Int.max_eq_left (by omega)]
          simp
      · exact List.mem_cons_of_mem _ (List.mem_cons_of_mem _ e)
    · have h0 := h2 (max n m) (by simp)
      rcases List.mem_cons.mp hy with e | hy
      · subst e
        omega
      · rcases List.mem_cons.mp hy with e | hy
        · subst e
          omega
        · exact h2 y (List.mem_cons_of_mem _ hy)
theorem foldl_min : ∀ (ns : List Int) (n : Int), (ns.foldl min n ∈ n :: ns) ∧ ∀ y ∈ n :: ns, ns.foldl min n ≤ y
  | [], n => by simp
  | m :: ns, n => by
    obtain ⟨h1, h2⟩ := foldl_min ns (min n m)
    rw [List.foldl_cons]
    refine ⟨?_, fun y hy => ?_⟩
    · rcases List.mem_cons.mp h1 with e | e
      · rw [e]
        by_cases h : n ≤ m
        · rw [Int.min_eq_left h]
          simp
        · rw [Int.min_eq_right (by omega)]
          simp
      · exact List.mem_cons_of_mem _ (List.mem_cons_of_mem _ e)
    · have h0 := h2 (min n m) (by simp)
      rcases List.mem_cons.mp hy with e | hy
      · subst e
        omega
      · rcases List.mem_cons.mp hy with e | hy
        · subst e
          omega
        · exact h2 y (List.mem_cons_of_mem _ hy)
theorem maxL_spec {ns : List Int} (h : ns ≠ []) : maxL ns ∈ ns ∧ ∀ y ∈ ns, y ≤ maxL ns := by
  cases ns with
  | nil => exact absurd rfl h
  | cons n ns => exact foldl_max ns n
theorem minL_spec {ns : List Int} (h : ns ≠ []) : minL ns ∈ ns ∧ ∀ y ∈ ns, minL ns ≤ y := by
  cases ns with
  | nil => exact absurd rfl h
  | cons n ns => exact foldl_min ns n
theorem maxL_uniq {ns : List Int} {m : Int} (h1 : m ∈ ns) (h2 : ∀ y ∈ ns, y ≤ m) : m = maxL ns := by
  obtain ⟨a, b⟩ := maxL_spec (List.ne_nil_of_mem h1)
  have := h2 _ a
  have := b _ h1
  omega
theorem minL_uniq {ns : List Int} {m : Int} (h1 : m ∈ ns) (h2 : ∀ y ∈ ns, m ≤ y) : m = minL ns := by
  obtain ⟨a, b⟩ := minL_spec (List.ne_nil_of_mem h1)
  have := h2 _ a
  have := b _ h1
  omega
def pMax1 : List D → M D := onInts fun ns => if ns.isEmpty = true then fail else M.ret (.int (maxL ns))
def pMin1 : List D → M D := onInts fun ns => if ns.isEmpty = true then fail else M.ret (.int (minL ns))
def pMax : List D → M D
  | [.int i, .int j] => M.ret (.int (max i j))
  | l => pMax1 l
def pMin : List D → M D
  | [.int i, .int j] => M.ret (.int (min i j))
  | l => pMin1 l
def pAll : List D → M D := onBools fun ns => M.ret (.bl (ns.all id))
def pAny : List D → M D := onBools fun ns => M.ret (.bl (ns.any id))
def pAbs : List D → M D
  | [.int i] => M.ret (.int (if i < 0 then -i else i))
  | _ => fail
def pInt : List D → M D
  | [.int i] => M.ret (.int i)
  | _ => fail
theorem pAbs_ok : PL K (fun xs H Q => ∃ i, xs = [V.int i] ∧ Q (.int (if i < 0 then -i else i)) H) pAbs := by
  intro A μ H vs ds E Q m h q
  cases h with
  | nil => exact q.no.elim
  | cons h r => cases r with
    | nil => cases h with
      | int i => exact ⟨i, rfl, q.ret m (.int _)⟩
      | _ => exact q.no.elim
    | cons _ _ =>
      cases h <;> exact q.no.elim
theorem pInt_ok : PL K (fun xs H Q => (∃ i, xs = [V.int i] ∧ Q (.int i) H) ∨ ∃ k, xs = [V.bl k] ∧ Q (.int (if k then 1 else 0)) H) pInt := by
  intro A μ H vs ds E Q m h q
  cases h with
  | nil => exact q.no.elim
  | cons h r => cases r with
    | nil => cases h with
      | int i => exact .inl ⟨i, rfl, q.ret m (.int _)⟩
      | _ => exact q.no.elim
    | cons _ _ =>
      cases h <;> exact q.no.elim
end
end Dn

set_option Elab.async false
set_option linter.all false
set_option maxRecDepth 100000
set_option maxHeartbeats 4000000
/-! DnE: built-ins over tuples, isinstance, equality, in. -/
namespace Dn
open PySem PySem.Spec L2
open PyProof.Rows hiding St

section
variable {prog : Program} {w : World} {A : Around} {E : Value → Shared → Prop} {s : Shared} {l : Addr} {xs : Array (Int × Tok)} {its : List Value} {ns : List Int} {Q : Value → Shared → Prop}
theorem tup_iter {items : Array Value} (hl : s.heap.IsTuple l items)
    (h : ∀ s₂ : Shared, s₂ = { s with heap := s.heap.push { cls := .type "tuple_iterator", data := .fields #[.ref l, .int 0 0] } } →
      (s₂.heap.IsTupleIter s.heap.objs.size l 0 ∧ s₂.heap.IsTuple l items) → (∀ b ∈ [s.heap.objs.size, l], b < s₂.heap.objs.size) → l ≠ s.heap.objs.size → Q (.ref s.heap.objs.size) s₂) :
    wpAny (model prog w) A (pyIter (.ref l)) Q E s := by
  have hlt : l < s.heap.objs.size := by
    obtain ⟨_, e, _⟩ := id hl
    exact Heap.lt_size e
  refine wpAny_pyIter_tuple hl (h _ rfl ⟨⟨_, Heap.get?_push_size _ rfl, rfl, rfl⟩, hl.push _⟩ (fun b hb => ?_) (Nat.ne_of_lt hlt))
  show b < (s.heap.push _).objs.size
  rw [Heap.size_push]
  rcases List.mem_cons.mp hb with rfl | hb
  · exact Nat.lt_succ_self _
  · rcases List.mem_cons.mp hb with rfl | hb
    · exact Nat.lt_succ_of_lt hlt
    · cases hb
theorem tup_old {h' : Heap} (hk : ∀ b o, b ∉ [s.heap.objs.size] → (s.heap.push { cls := .type "tuple_iterator", data := .fields #[.ref l, .int 0 0] }).get? b = some o → h'.get? b = some o) :
    ∀ b o, s.heap.get? b = some o → h'.get? b = some o := fun b o e => by
  refine hk b o (fun hm => ?_) (Heap.get?_push_of_some _ e)
  rcases List.mem_cons.mp hm with e1 | hm
  · exact absurd (e1 ▸ Heap.lt_size e) (Nat.lt_irrefl _)
  · cases hm
theorem sum_tupRaw (hh : A.handled = none) (hl : s.heap.IsTuple l its.toArray) (hi : IntsAre its ns)
    (h : ∀ h' tk t', (∀ b o, s.heap.get? b = some o → h'.get? b = some o) → Q (.int ns.sum t') { s with heap := h', toks := tk }) : wpAny (model prog w) A (call (.builtin "sum") [.ref l]) Q E s := by
  obtain ⟨xs, e⟩ := hi.allInts.items
  have hn : numsOf (intItems xs).toList = ns := by
    rw [← e]
    exact hi.numsOf
  rw [nums_intItems] at hn
  rw [e] at hl
  refine call_sum_walkG (tup_iter hl fun s₂ e st hfp hne => ?_)
  subst e
  refine ⟨_, _, _, _, _, _, numAt xs, rfl, Walks.tuple (A := A.in1) hh _ l hne (intItems xs), st, hfp, (fun _ _ => intItems_at), fun h' tk t' hk => ?_⟩
  have q := h h' tk t' (tup_old hk)
  have e3 : preSum (numAt xs) (intItems xs).size = ns.sum := by
    rw [preSum_eq, List.take_of_length_le (by simp [intItems]), hn]
  rw [e3]
  exact q
theorem max_tupRaw (hh : A.handled = none) (hl : s.heap.IsTuple l its.toArray) (hi : IntsAre its ns) (hne : 0 < ns.length)
    (h : ∀ h' tk M t', (∀ b o, s.heap.get? b = some o → h'.get? b = some o) → M ∈ ns → (∀ a, a ∈ ns → a ≤ M) → Q (.int M t') { s with heap := h', toks := tk }) : wpAny (model prog w) A (call (.builtin "max") [.ref l]) Q E s := by
  obtain ⟨xs, e⟩ := hi.allInts.items
  have hn : numsOf (intItems xs).toList = ns := by
    rw [← e]
    exact hi.numsOf
  rw [nums_intItems] at hn
  subst hn
  rw [e] at hl
  have hsz : 0 < xs.size := by simpa using hne
  refine call_max_walk (tup_iter hl fun s₂ e st hfp hlI => ?_)
  subst e
  refine ⟨_, _, _, _, _, _, _, rfl, Walks.tuple (A := A.in1) hh _ l hlI (intItems xs), st, hfp, by simpa [intItems] using hne, CmpOf.ints_gt (numAt xs) (fun _ _ => intItems_at), fun v h' tk hP hk => ?_⟩
  obtain ⟨t, rfl⟩ := intItems_at hP
  obtain ⟨h1, h2⟩ := argBest_gt (numAt xs) ((intItems xs).size - 1)
  have hs2 : (intItems xs).size = xs.size := by simp [intItems]
  refine h h' tk _ t (tup_old hk) ?_ fun a ha => ?_
  · rw [numAt_eq]
    exact PySem.getD_mem (by
      rw [List.length_map, Array.length_toList]
      rw [hs2] at h1 ⊢
      omega)
  · obtain ⟨j, hj, rfl⟩ := mem_getD ha
    rw [List.length_map, Array.length_toList] at hj
    rw [← numAt_eq]
    exact h2 j (by omega)
theorem min_tupRaw (hh : A.handled = none) (hl : s.heap.IsTuple l its.toArray) (hi : IntsAre its ns) (hne : 0 < ns.length)
    (h : ∀ h' tk M t', (∀ b o, s.heap.get? b = some o → h'.get? b = some o) → M ∈ ns → (∀ a, a ∈ ns → M ≤ a) → Q (.int M t') { s with heap := h', toks := tk }) : wpAny (model prog w) A (call (.builtin "min") [.ref l]) Q E s := by
  obtain ⟨xs, e⟩ := hi.allInts.items
  have hn : numsOf (intItems xs).toList = ns := by
    rw [← e]
    exact hi.numsOf
  rw [nums_intItems] at hn
  subst hn
  rw [e] at hl
  have hsz : 0 < xs.size := by simpa using hne
  refine call_min_walk (tup_iter hl fun s₂ e st hfp hlI => ?_)
  subst e
  refine ⟨_, _, _, _, _, _, _, rfl, Walks.tuple (A := A.in1) hh _ l hlI (intItems xs), st, hfp, by simpa [intItems] using hne, CmpOf.ints_lt (numAt xs) (fun _ _ => intItems_at), fun v h' tk hP hk => ?_⟩
  obtain ⟨t, rfl⟩ := intItems_at hP
  obtain ⟨h1, h2⟩ := argBest_lt (numAt xs) ((intItems xs).size - 1)
  have hs2 : (intItems xs).size = xs.size := by simp [intItems]
  refine h h' tk _ t (tup_old hk) ?_ fun a ha => ?_
  · rw [numAt_eq]
    exact PySem.getD_mem (by
      rw [List.length_map, Array.length_toList]
      rw [hs2] at h1 ⊢
      omega)
  · obtain ⟨j, hj, rfl⟩ := mem_getD ha
    rw [List.length_map, Array.length_toList] at hj
    rw [← numAt_eq]
    exact h2 j (by omega)
end
section
variable {X : Cx}
def rSumA (K : PySem.W.Frag) : List V → Hp → VK → Prop := fun vs H Q => ∃ (a : Addr) (ns : List Int), vs = [V.ref a] ∧ (SqL K H a (ns.map V.int) ∨ SqT K H a (ns.map V.int)) ∧ Q (.int ns.sum) H
def rMaxA (K : PySem.W.Frag) : List V → Hp → VK → Prop := fun vs H Q => (∃ i j, vs = [V.int i, V.int j] ∧ Q (.int (if j > i then j else i)) H) ∨ ∃ (a : Addr) (ns : List Int), vs = [V.ref a] ∧ (SqL K H a (ns.map V.int) ∨ SqT K H a (ns.map V.int)) ∧ 0 < ns.length ∧ ∀ m, m ∈ ns → (∀ y, y ∈ ns → y ≤ m) → Q (.int m) H
def rMinA (K : PySem.W.Frag) : List V → Hp → VK → Prop := fun vs H Q => (∃ i j, vs = [V.int i, V.int j] ∧ Q (.int (if j < i then j else i)) H) ∨ ∃ (a : Addr) (ns : List Int), vs = [V.ref a] ∧ (SqL K H a (ns.map V.int) ∨ SqT K H a (ns.map V.int)) ∧ 0 < ns.length ∧ ∀ m, m ∈ ns → (∀ y, y ∈ ns → m ≤ y) → Q (.int m) H
theorem tup_isTuple {h : Heap} {a : Addr} {its : List Value} (p : IsTup h a its.toArray) : h.IsTuple a its.toArray := p
theorem call_sumA (hc : X.calm = true) : CallR X (.builtin "sum") (rSumA X.K) := by
  intro pins s σ H vs us Q I r h
  obtain ⟨a, ns, rfl, hs | hs, q⟩ := h
  · exact cr_sum hc pins s σ H _ us Q I r ⟨a, ns, rfl, hs, q⟩
  · obtain ⟨its, rv, hl, _⟩ := I.tuple hs
    rw [Vals.ref1 r]
    exact sum_tupRaw (I.ok.hd hc) (tup_isTuple hl) rv.ints fun h' tk t' hk => ⟨.int _, H, I.kept hk, ⟨_, rfl⟩, q⟩
theorem call_maxA (hc : X.calm = true) : CallR X (.builtin "max") (rMaxA X.K) := by
  intro pins s σ H vs us Q I r h
  rcases h with h | ⟨a, ns, rfl, hs | hs, hne, q⟩
  · exact call_max2 hc pins s σ H _ us Q I r h
  · exact cr_max hc pins s σ H _ us Q I r ⟨a, ns, rfl, hs, hne, q⟩
  · obtain ⟨its, rv, hl, _⟩ := I.tuple hs
    rw [Vals.ref1 r]
    exact max_tupRaw (I.ok.hd hc) (tup_isTuple hl) rv.ints hne fun h' tk m t' hk h1 h2 => ⟨.int _, H, I.kept hk, ⟨_, rfl⟩, q m h1 h2⟩
theorem call_minA (hc : X.calm = true) : CallR X (.builtin "min") (rMinA X.K) := by
  intro pins s σ H vs us Q I r h
  rcases h with h | ⟨a, ns, rfl, hs | hs, hne, q⟩
  · exact call_min2 hc pins s σ H _ us Q I r h
  · exact cr_min hc pins s σ H _ us Q I r ⟨a, ns, rfl, hs, hne, q⟩
  · obtain ⟨its, rv, hl, _⟩ := I.tuple hs
    rw [Vals.ref1 r]
    exact min_tupRaw (I.ok.hd hc) (tup_isTuple hl) rv.ints hne fun h' tk m t' hk h1 h2 => ⟨.int _, H, I.kept hk, ⟨_, rfl⟩, q m h1 h2⟩
variable {K : PySem.W.Frag}
theorem onInts_ok {A : Wl} {μ : Mu} {H : Hp} {vs : List V} {ds : List D} {E : Value → Option Addr → Hp → Prop} {k : List Int → M D} {Q : VK} (m : MuOk K A μ H) (h : DVs K H A vs ds)
    (q : At K E A μ H (rD K) (onInts k ds) Q) : ∃ p ns, vs = [V.ref p] ∧ (SqL K H p (ns.map V.int) ∨ SqT K H p (ns.map V.int)) ∧ At K E A μ H (rD K) (k ns) Q := by
  obtain ⟨p, xs, l, d, rfl, rfl, _, sq, hx, q⟩ := onItems_ok m h q
  obtain ⟨ns, e, q2⟩ := of_bnd q
  have el := intsOf_eq e
  subst el
  have ex := DVs.ints hx
  subst ex
  exact ⟨p, ns, rfl, sq, q2⟩
theorem pSum_ok : PL K (rSumA K) pSum := by
  intro A μ H vs ds E Q m h q
  obtain ⟨p, ns, rfl, sq, q⟩ := onInts_ok m h q
  exact ⟨p, ns, rfl, sq, q.ret m (.int _)⟩
theorem guardN {E : Value → Option Addr → Hp → Prop} {A : Wl} {μ : Mu} {H : Hp} {ns : List Int} {d : D} {Q : VK} (q : At K E A μ H (rD K) (if ns.isEmpty = true then fail else M.ret d) Q) : ns ≠ [] ∧ At K E A μ H (rD K) (M.ret d) Q := by
  cases ns with
  | nil => exact q.no.elim
  | cons n ns => exact ⟨List.cons_ne_nil _ _, q⟩
theorem pMax1_ok {A : Wl} {μ : Mu} {H : Hp} {vs : List V} {ds : List D} {E : Value → Option Addr → Hp → Prop} {Q : VK} (m : MuOk K A μ H) (h : DVs K H A vs ds) (q : At K E A μ H (rD K) (pMax1 ds) Q) : rMaxA K vs H Q := by
  obtain ⟨p, ns, rfl, sq, q⟩ := onInts_ok m h q
  obtain ⟨hn, q⟩ := guardN q
  refine .inr ⟨p, ns, rfl, sq, List.length_pos_iff.mpr hn, fun z h1 h2 => ?_⟩
  rw [maxL_uniq h1 h2]
  exact q.ret m (.int _)
theorem pMin1_ok {A : Wl} {μ : Mu} {H : Hp} {vs : List V} {ds : List D} {E : Value → Option Addr → Hp → Prop} {Q : VK} (m : MuOk K A μ H) (h : DVs K H A vs ds) (q : At K E A μ H (rD K) (pMin1 ds) Q) : rMinA K vs H Q := by
  obtain ⟨p, ns, rfl, sq, q⟩ := onInts_ok m h q
  obtain ⟨hn, q⟩ := guardN q
  refine .inr ⟨p, ns, rfl, sq, List.length_pos_iff.mpr hn, fun z h1 h2 => ?_⟩
  rw [minL_uniq h1 h2]
  exact q.ret m (.int _)
theorem pMax_ok : PL K (rMaxA K) pMax := by
  intro A μ H vs ds E Q m h q
  by_cases c : ∃ i j, ds = [.int i, .int j]
  · obtain ⟨i, j, rfl⟩ := c
    cases h with
    | cons h1 r => cases r with
      | cons h2 r => cases r with
        | nil =>
          cases h1
          cases h2
          have e : (if j > i then j else i) = max i j := by
            by_cases hh : j > i
            · rw [if_pos hh]
              omega
            · rw [if_neg hh]
              omega
          exact .inl ⟨i, j, rfl, by rw [e]; exact q.ret m (.int _)⟩
  · have e : pMax ds = pMax1 ds := by
      unfold pMax
      split
      · rename_i i j
        exact absurd ⟨i, j, rfl⟩ c
      · rfl
    rw [e] at q
    exact pMax1_ok m h q
theorem pMin_ok : PL K (rMinA K) pMin := by
  intro A μ H vs ds E Q m h q
  by_cases c : ∃ i j, ds = [.int i, .int j]
  · obtain ⟨i, j, rfl⟩ := c
    cases h with
    | cons h1 r => cases r with
      | cons h2 r => cases r with
        | nil =>
          cases h1
          cases h2
          have e : (if j < i then j else i) = min i j := by
            by_cases hh : j < i
            · rw [if_pos hh]
              omega
            · rw [if_neg hh]
              omega
          exact .inl ⟨i, j, rfl, by rw [e]; exact q.ret m (.int _)⟩
  · have e : pMin ds = pMin1 ds := by
      unfold pMin
      split
      · rename_i i j
        exact absurd ⟨i, j, rfl⟩ c
      · rfl
    rw [e] at q
    exact pMin1_ok m h q
/-- all, any: of lists -/
def onBoolsL (k : List Bool → M D) : List D → M D
  | [.lst l] => M.bnd (M.of (boolsOf l)) k
  | _ => fail
def pAllL : List D → M D := onBoolsL fun ns => M.ret (.bl (ns.all id))
def pAnyL : List D → M D := onBoolsL fun ns => M.ret (.bl (ns.any id))
theorem onBools_ok {A : Wl} {μ : Mu} {H : Hp} {vs : List V} {ds : List D} {E : Value → Option Addr → Hp → Prop} {k : List Bool → M D} {Q : VK} (m : MuOk K A μ H) (h : DVs K H A vs ds)
    (q : At K E A μ H (rD K) (onBoolsL k ds) Q) : ∃ p ns, vs = [V.ref p] ∧ SqL K H p (ns.map V.bl) ∧ At K E A μ H (rD K) (k ns) Q := by
  cases h with
  | nil => exact q.no.elim
  | cons h r => cases r with
    | nil => cases h with
      | @lst p xs ds hp hx =>
        obtain ⟨ns, e, q2⟩ := of_bnd q
        have el := boolsOf_eq e
        subst el
        have ex := DVs.bls hx
        subst ex
        exact ⟨p, ns, rfl, hp.sq, q2⟩
      | _ => exact q.no.elim
    | cons _ _ => cases h <;> exact q.no.elim
theorem pAllL_ok : PL K (rAll K) pAllL := by
  intro A μ H vs ds E Q m h q
  obtain ⟨p, ns, rfl, sq, q⟩ := onBools_ok m h q
  exact ⟨p, ns, rfl, sq, q.ret m (.bl _)⟩
theorem pAnyL_ok : PL K (rAny K) pAnyL := by
  intro A μ H vs ds E Q m h q
  obtain ⟨p, ns, rfl, sq, q⟩ := onBools_ok m h q
  exact ⟨p, ns, rfl, sq, q.ret m (.bl _)⟩
end
end Dn

set_option Elab.async false
set_option linter.all false
set_option maxRecDepth 100000
set_option maxHeartbeats 4000000
/-! DnF: equality, in, is, isinstance, displays. -/
namespace Dn
open PySem PySem.Spec L2
open PyProof.Rows hiding St

def mapO {α β : Type} (f : α → Option β) : List α → Option (List β)
  | [] => some []
  | x :: r => match f x with
    | none => none
    | some y => match mapO f r with
      | none => none
      | some ys => some (y :: ys)
/-- the plain data of a value -/
def res : Nat → Mu → D → Option PyData
  | _, _, .non => some .none
  | _, _, .bl b => some (.bool b)
  | _, _, .int i => some (.int i)
  | _, _, .str x => if PyData.canLay0 (.str x) = true then some (.str x) else none
  | n + 1, μ, .tup l => match mapO (res n μ) l with
    | some ps => some (.tuple ps)
    | none => none
  | n + 1, μ, .lst l => match mapO (res n μ) l with
    | some ps => some (.list ps)
    | none => none
  | n + 1, μ, .fls l => match mapO (res n μ) l with
    | some ps => some (.list ps)
    | none => none
  | n + 1, μ, .loc k => match μ[k]? with
    | some (.lst l) => (match mapO (res n μ) l with
      | some ps => some (.list ps)
      | none => none)
    | _ => none
  | _, _, _ => none
section
variable {K : PySem.W.Frag} {A : Wl} {μ : Mu} {H : Hp}
theorem mapO_dp {f : D → Option PyData} {n : Nat} (hf : ∀ v d p, DV K H A v d → f d = some p → Dp K H v p ∧ p.canLay0 = true ∧ p.depth ≤ n) : ∀ {vs : List V} {ds : List D} {ps : List PyData}, DVs K H A vs ds → mapO f ds = some ps → DpAll K H vs ps ∧ PyData.canLayAll0 ps = true ∧ PyData.depthAll ps ≤ n
  | _, _, ps, .nil, e => by
    cases e
    exact ⟨.nil, by simp [PyData.canLayAll0], by simp [PyData.depthAll]⟩
  | _, _, ps, @DVs.cons _ _ _ v vs d ds h r, e => by
    unfold mapO at e
    cases h1 : f d with
    | none => simp [h1] at e
    | some p =>
      cases h2 : mapO f ds with
      | none => simp [h1, h2] at e
      | some qs =>
        simp [h1, h2] at e
        subst e
        obtain ⟨a1, a2, a3⟩ := hf v d p h h1
        obtain ⟨b1, b2, b3⟩ := mapO_dp hf r h2
        refine ⟨.cons a1 b1, by simp [PyData.canLayAll0, a2, b2], ?_⟩
        simp only [PyData.depthAll]
        omega
theorem res_dp (m : MuOk K A μ H) : ∀ (n : Nat) (v : V) (d : D) (p : PyData), DV K H A v d → res n μ d = some p → Dp K H v p ∧ p.canLay0 = true ∧ p.depth ≤ n := by
  intro n
  induction n with
  | zero =>
    intro v d p h e
    cases h with
    | non => cases e; exact ⟨.non, by simp [PyData.canLay0], by simp [PyData.depth]⟩
    | bl b => cases e; exact ⟨.bl b, by simp [PyData.canLay0], by simp [PyData.depth]⟩
    | int i => cases e; exact ⟨.int i, by simp [PyData.canLay0], by simp [PyData.depth]⟩
    | str x =>
      simp only [res] at e
      by_cases c : PyData.canLay0 (.str x) = true
      · rw [if_pos c] at e
        cases e
        exact ⟨.str x, c, by simp [PyData.depth]⟩
      · rw [if_neg c] at e
        cases e
    | _ => cases e
  | succ n ih =>
    intro v d p h e
    cases h with
    | non => cases e; exact ⟨.non, by simp [PyData.canLay0], by simp [PyData.depth]⟩
    | bl b => cases e; exact ⟨.bl b, by simp [PyData.canLay0], by simp [PyData.depth]⟩
    | int i => cases e; exact ⟨.int i, by simp [PyData.canLay0], by simp [PyData.depth]⟩
    | str x =>
      simp only [res] at e
      by_cases c : PyData.canLay0 (.str x) = true
      · rw [if_pos c] at e
        cases e
        exact ⟨.str x, c, by simp [PyData.depth]⟩
      · rw [if_neg c] at e
        cases e
    | fn a => cases e
    | clo _ _ _ _ => cases e
    | @tup a xs ds hp hx =>
      simp only [res] at e
      cases q : mapO (res n μ) ds with
      | none => simp [q] at e
      | some ps =>
        simp [q] at e
        subst e
        obtain ⟨a1, a2, a3⟩ := mapO_dp ih hx q
        exact ⟨.tup hp.sq a1, by simp only [PyData.canLay0]; exact a2, by simp only [PyData.depth]; omega⟩
    | @lst a xs ds hp hx =>
      simp only [res] at e
      cases q : mapO (res n μ) ds with
      | none => simp [q] at e
      | some ps =>
        simp [q] at e
        subst e
        obtain ⟨a1, a2, a3⟩ := mapO_dp ih hx q
        exact ⟨.lst hp.sq a1, by simp only [PyData.canLay0]; exact a2, by simp only [PyData.depth]; omega⟩
    | @fls a xs ds hp hx =>
      simp only [res] at e
      cases q : mapO (res n μ) ds with
      | none => simp [q] at e
      | some ps =>
        simp [q] at e
        subst e
        obtain ⟨a1, a2, a3⟩ := mapO_dp ih hx q
        exact ⟨.lst hp.sq a1, by simp only [PyData.canLay0]; exact a2, by simp only [PyData.depth]; omega⟩
    | @loc a k hk =>
      simp only [res] at e
      cases z : μ[k]? with
      | none => simp [z] at e
      | some o =>
        cases o with
        | tab _ _ => simp [z] at e
        | dct _ => simp [z] at e
        | lst l =>
          simp only [z] at e
          obtain ⟨xs, hl, hx⟩ := m.mo k a _ hk z
          cases q : mapO (res n μ) l with
          | none => simp [q] at e
          | some ps =>
            simp [q] at e
            subst e
            obtain ⟨a1, a2, a3⟩ := mapO_dp ih hx q
            exact ⟨.lst (.of hl) a1, by simp only [PyData.canLay0]; exact a2, by simp only [PyData.depth]; omega⟩
theorem shaped_of {p : PyData} {n : Nat} (h : p.canLay0 = true) (d : p.depth ≤ n) (hn : n ≤ 64) : SeqAt.shaped p = true := by
  show (p.canLay0 && decide (p.depth ≤ 64)) = true
  rw [h, Bool.true_and]
  exact decide_eq_true (by omega)
end
/-- both as plain data -/
def onRes (k : PyData → PyData → M D) (x y : D) : M D := fun μ => match res 40 μ x with
  | none => none
  | some p => match res 40 μ y with
    | none => none
    | some q => k p q μ
def pEq : D → D → M D := onRes fun p q => M.ret (.bl (PyData.eqv p q))
def pNe : D → D → M D := onRes fun p q => M.ret (.bl (!PyData.eqv p q))
def seqD : PyData → Option (List PyData)
  | .list l => some l
  | .tuple l => some l
  | _ => none
def pIn : D → D → M D := onRes fun p q => match seqD q with
  | some l => M.ret (.bl (l.any fun z => PyData.eqv z p))
  | none => fail
def pNotIn : D → D → M D := onRes fun p q => match seqD q with
  | some l => M.ret (.bl (!l.any fun z => PyData.eqv z p))
  | none => fail
section
variable {K : PySem.W.Frag}
theorem onRes_ok {A : Wl} {μ : Mu} {H : Hp} {v w : V} {a b : D} {E : Value → Option Addr → Hp → Prop} {Q : VK} {k : PyData → PyData → M D} (m : MuOk K A μ H) (hv : DV K H A v a) (hw : DV K H A w b) (h : At K E A μ H (rD K) (onRes k a b) Q) :
    ∃ p q, res 40 μ a = some p ∧ res 40 μ b = some q ∧ (Dp K H v p ∧ SeqAt.shaped p = true) ∧ (Dp K H w q ∧ SeqAt.shaped q = true) ∧ At K E A μ H (rD K) (k p q) Q := by
  obtain ⟨r, e, hp⟩ := h
  unfold onRes at e
  cases h1 : res 40 μ a with
  | none => simp [h1] at e
  | some p =>
    cases h2 : res 40 μ b with
    | none => simp [h1, h2] at e
    | some q =>
      simp [h1, h2] at e
      obtain ⟨a1, a2, a3⟩ := res_dp m 40 v a p hv h1
      obtain ⟨b1, b2, b3⟩ := res_dp m 40 w b q hw h2
      exact ⟨p, q, rfl, rfl, ⟨a1, shaped_of a2 a3 (by decide)⟩, ⟨b1, shaped_of b2 b3 (by decide)⟩, r, e, hp⟩
theorem pEq_ok : P2 K (rEqD K) pEq := by
  intro A μ H v w a b E Q m hv hw h
  obtain ⟨p, q, _, _, ⟨h1, h2⟩, ⟨h3, h4⟩, h⟩ := onRes_ok m hv hw h
  exact ⟨p, q, h1, h3, h2, h4, h.ret m (.bl _)⟩
theorem pNe_ok : P2 K (rNeD K) pNe := by
  intro A μ H v w a b E Q m hv hw h
  obtain ⟨p, q, _, _, ⟨h1, h2⟩, ⟨h3, h4⟩, h⟩ := onRes_ok m hv hw h
  exact ⟨p, q, h1, h3, h2, h4, h.ret m (.bl _)⟩
def rInA (K : PySem.W.Frag) : R2 := fun x y H Q => ∃ d e ds, Dp K H x d ∧ Dp K H y e ∧ seqD e = some ds ∧ SeqAt.shaped d = true ∧ SeqAt.shaped e = true ∧ Q (.bl (ds.any fun z => PyData.eqv z d)) H
def rNotInA (K : PySem.W.Frag) : R2 := fun x y H Q => ∃ d e ds, Dp K H x d ∧ Dp K H y e ∧ seqD e = some ds ∧ SeqAt.shaped d = true ∧ SeqAt.shaped e = true ∧ Q (.bl (!ds.any fun z => PyData.eqv z d)) H
theorem op_inA {X : Cx} (hu : X.A.units + 65 < cLine) : OpR X (compareOp .In) (rInA X.K) := by
  intro pins s σ H x y v u Q I rx ry h
  obtain ⟨d, e, ds, hd, he, hs, sd, se, q⟩ := h
  obtain ⟨as, r1⟩ := Dp.reads I d x v hd rx
  obtain ⟨bs, r2⟩ := Dp.reads I e y u he ry
  cases e with
  | list l =>
    cases hs
    exact SeqAt.in_list_reads r2 r1 (SeqAt.canLay_of_shaped se) (SeqAt.canLay_of_shaped sd) (room_in_shaped sd hu) ⟨.bl _, H, I, rfl, q⟩
  | tuple l =>
    cases hs
    exact SeqAt.in_tuple_reads r2 r1 (SeqAt.canLay_of_shaped se) (SeqAt.canLay_of_shaped sd) (room_in_shaped sd hu) ⟨.bl _, H, I, rfl, q⟩
  | _ => cases hs
theorem op_notInA {X : Cx} (hu : X.A.units + 65 < cLine) : OpR X (compareOp .NotIn) (rNotInA X.K) := by
  intro pins s σ H x y v u Q I rx ry h
  obtain ⟨d, e, ds, hd, he, hs, sd, se, q⟩ := h
  obtain ⟨as, r1⟩ := Dp.reads I d x v hd rx
  obtain ⟨bs, r2⟩ := Dp.reads I e y u he ry
  cases e with
  | list l =>
    cases hs
    exact SeqAt.notIn_list_reads r2 r1 (SeqAt.canLay_of_shaped se) (SeqAt.canLay_of_shaped sd) (room_in_shaped sd hu) ⟨.bl _, H, I, rfl, q⟩
  | tuple l =>
    cases hs
    exact SeqAt.notIn_tuple_reads r2 r1 (SeqAt.canLay_of_shaped se) (SeqAt.canLay_of_shaped sd) (room_in_shaped sd hu) ⟨.bl _, H, I, rfl, q⟩
  | _ => cases hs
theorem pIn_ok : P2 K (rInA K) pIn := by
  intro A μ H v w a b E Q m hv hw h
  obtain ⟨p, q, _, _, ⟨h1, h2⟩, ⟨h3, h4⟩, h⟩ := onRes_ok m hv hw h
  cases e : seqD q with
  | none =>
    rw [e] at h
    exact h.no.elim
  | some l =>
    rw [e] at h
    exact ⟨p, q, l, h1, h3, e, h2, h4, h.ret m (.bl _)⟩
theorem pNotIn_ok : P2 K (rNotInA K) pNotIn := by
  intro A μ H v w a b E Q m hv hw h
  obtain ⟨p, q, _, _, ⟨h1, h2⟩, ⟨h3, h4⟩, h⟩ := onRes_ok m hv hw h
  cases e : seqD q with
  | none =>
    rw [e] at h
    exact h.no.elim
  | some l =>
    rw [e] at h
    exact ⟨p, q, l, h1, h3, e, h2, h4, h.ret m (.bl _)⟩
/-! ### is None, is True -/
def isN : D → Bool
  | .non => true
  | _ => false
theorem isN_dec {A : Wl} {H : Hp} {v : V} {a : D} (h : DV K H A v a) : decide (v = .non) = isN a := by
  cases h <;> rfl
def pIs : D → D → M D
  | x, .non => M.ret (.bl (isN x))
  | .bl a, .bl b => M.ret (.bl (decide (a = b)))
  | _, _ => fail
def pIsNot : D → D → M D
  | x, .non => M.ret (.bl (!isN x))
  | .bl a, .bl b => M.ret (.bl (!decide (a = b)))
  | _, _ => fail
def rIsA : R2 := fun x y H Q => (y = .non ∧ Q (.bl (decide (x = .non))) H) ∨ rIsB x y H Q
def rIsNotA : R2 := fun x y H Q => (y = .non ∧ Q (.bl (!decide (x = .non))) H) ∨ rNotB x y H Q
theorem op_isA {X : Cx} : OpR X (compareOp .Is) rIsA := op_isN.or op_isBl
theorem op_isNotA {X : Cx} : OpR X (compareOp .IsNot) rIsNotA := op_notN.or op_notBl
theorem pIs_ok : P2 K rIsA pIs := by
  intro A μ H v w a b E Q m hv hw h
  cases hw with
  | non =>
    have h : At K E A μ H (rD K) (M.ret (.bl (isN a))) Q := by
      cases a <;> exact h
    exact .inl ⟨rfl, by rw [isN_dec hv]; exact h.ret m (.bl _)⟩
  | bl c => cases hv with
    | bl b => exact .inr ⟨b, c, rfl, rfl, h.ret m (.bl _)⟩
    | _ => exact h.no.elim
  | _ => cases hv <;> exact h.no.elim
theorem pIsNot_ok : P2 K rIsNotA pIsNot := by
  intro A μ H v w a b E Q m hv hw h
  cases hw with
  | non =>
    have h : At K E A μ H (rD K) (M.ret (.bl (!isN a))) Q := by
      cases a <;> exact h
    exact .inl ⟨rfl, by rw [isN_dec hv]; exact h.ret m (.bl _)⟩
  | bl c => cases hv with
    | bl b => exact .inr ⟨b, c, rfl, rfl, h.ret m (.bl _)⟩
    | _ => exact h.no.elim
  | _ => cases hv <;> exact h.no.elim
/-! ### isinstance(x, T), T written -/
def tyN : D → Option String
  | .non => some "NoneType"
  | .bl _ => some "bool"
  | .int _ => some "int"
  | .str _ => some "str"
  | .tup _ => some "tuple"
  | .lst _ => some "list"
  | .fls _ => some "list"
  | .loc _ => none
  | .fn _ => none
  | .clo _ _ _ _ => none
theorem tyX_of {A : Wl} {μ : Mu} {H : Hp} {v : V} {d : D} {n : String} (m : MuOk K A μ H) (h : DV K H A v d) (e : tyN d = some n) : TyX K H v (.type n) := by
  cases h with
  | non => cases e; exact .base .non
  | bl b => cases e; exact .base (.bl b)
  | int i => cases e; exact .base (.int i)
  | str x => cases e; exact .base (.str x)
  | fn a => cases e
  | @tup a xs ds hp hx =>
    cases e
    rcases hp with ⟨h | ⟨o, h⟩, _⟩ | ⟨o, its, n, h1, h2, _⟩
    · exact .base (.tup h)
    · exact .fTuple h
    · exact .kTuple h1 h2
  | @lst a xs ds hp hx =>
    cases e
    exact .base (.lst hp.1)
  | @fls a xs ds hp hx =>
    cases e
    rcases hp with ⟨⟨o, h⟩, _⟩ | ⟨o, its, n, h1, h2, _⟩
    · exact .base (.frz h)
    · exact .kList h1 h2
  | loc _ => cases e
  | clo _ _ _ _ => cases e
theorem tyX_loc {A : Wl} {μ : Mu} {H : Hp} {a : Addr} {k : Nat} {l : List D} (m : MuOk K A μ H) (hk : A.A[k]? = some a) (z : μ[k]? = some (.lst l)) : TyX K H (.ref a) (.type "list") := by
  obtain ⟨xs, hl, _⟩ := m.mo k a _ hk z
  exact .base (.lst hl)
/-- isinstance(x, T): the written type comes as a value of its own -/
def tIsi (K : PySem.W.Frag) (T : String) (te : TE) : TE := fun σ H Q => te σ H fun x H1 => ∃ t b, TyX K H1 x t ∧ PySem.W.kitOne K t (.type T) = some b ∧ Q (.bl b) H1
def isT (T : String) (d : D) : Option Bool := (tyN d).bind fun n => kitB n T
def isTM (T : String) : D → M Bool
  | .loc n => fun μ => match μ[n]? with
    | some (.lst _) => (M.of (kitB "list" T) : M Bool) μ
    | _ => none
  | d => M.of (isT T d)
theorem isTM_ok {T : String} {E : XK} {A : Wl} {μ : Mu} {H : Hp} {γ δ : Type} {rel : Hp → Wl → δ → γ → Prop} {d : D} {v : V} {k : Bool → M γ} {Q : δ → Hp → Prop} (m : MuOk K A μ H) (rl : DV K H A v d)
    (h : At K E A μ H rel (M.bnd (isTM T d) k) Q) : ∃ n b, TyX K H v (.type n) ∧ kitB n T = some b ∧ At K E A μ H rel (k b) Q := by
  by_cases c : ∃ n, d = .loc n
  · obtain ⟨n, rfl⟩ := c
    cases rl with
    | @loc a _ hk =>
      obtain ⟨r, e, hp⟩ := h
      cases z : μ[n]? with
      | none => simp [M.bnd, isTM, z] at e
      | some o =>
        cases o with
        | tab _ _ => simp [M.bnd, isTM, z] at e
        | dct _ => simp [M.bnd, isTM, z] at e
        | lst l =>
          have h' : At K E A μ H rel (M.bnd (M.of (kitB "list" T)) k) Q := ⟨r, by simpa [M.bnd, isTM, z] using e, hp⟩
          obtain ⟨b, e', h2⟩ := of_bnd h'
          exact ⟨"list", b, tyX_loc m hk z, e', h2⟩
  · have e0 : isTM T d = M.of (isT T d) := by
      cases d <;> first | rfl | exact absurd ⟨_, rfl⟩ c
    rw [e0] at h
    obtain ⟨b, e, h2⟩ := of_bnd h
    unfold isT at e
    cases q : tyN d with
    | none => simp [q] at e
    | some n =>
      simp [q] at e
      exact ⟨n, b, tyX_of m rl q, e, h2⟩
def eIsi (T : String) (f : Ro → M D) : Ro → M D := e1 (fun d => M.bnd (isTM T d) fun b => M.ret (.bl b)) f
theorem de_isi {X : Cx} {W : WX} {a : Expr} {f : Ro → M D} {T : String} {x : Str} {p p2 pos : Pos} (hg : Gl X "isinstance") (hm : X.mg "isinstance" = none) (hgT : Gl X x) (hmT : X.mg x = none) (hvT : bootBuiltins x = some (.type T)) (ha : DE X W a f)
    (hn : x ≠ "__name__" := by decide) (hd : (x == ("__debug__" : Str)) = false := by decide) (he : starEach [a, .Name x p2] X.env = (false, eval a X.env) :: starEach [.Name x p2] X.env := by rfl) (he2 : starEach [.Name x p2] X.env = (false, eval (.Name x p2) X.env) :: starEach [] X.env := by rfl)
    (hpl : (backTo pos (starEach [.Name x p2] X.env)).any (·.1) = false := by rfl) : DE X W (.Call (.Name "isinstance" p) [a, .Name x p2] [] pos) (eIsi T f) := by
  have hb : bootBuiltins "isinstance" = some (.builtin "isinstance") := by decide +kernel
  refine (pe_callB call_isi hg hm hb (pa_cons ha (pa_cons (pe_bltn hgT hmT hvT (v := .ty T) rfl hn hd) pa_nil he2) he) (by decide) (by decide) he hpl).imp fun σ H Q h => ?_
  refine tG.bnd h fun A ρ d μ v H1 m rr rl h1 => ?_
  obtain ⟨n, b, tx, e, h2⟩ := isTM_ok m rl h1
  exact ⟨v, .ty T, .type n, .type T, b, rfl, .ty T, tx, kit_ty e, h2.ret m (.bl b)⟩
/-! ### displays -/
def eTup (f : Ro → M (List D)) : Ro → M D := fun ρ => M.bnd (f ρ) fun l => if small l.length = true then M.ret (.tup l) else fail
def eLst (f : Ro → M (List D)) : Ro → M D := fun ρ => M.bnd (f ρ) fun l => if small l.length = true then M.ret (.lst l) else fail
theorem de_tup {X : Cx} {W : WX} {es : List Expr} {f : Ro → M (List D)} {x1 : _} {pos : Pos} (h : DA X W es f) : DE X W (.Tuple es x1 pos) (eTup f) := (pe_tup h).imp fun σ H Q q => tG.bnd q fun A ρ l μ vs H1 m rr rl h1 => by
  obtain ⟨c, h1⟩ := At.guard h1
  exact ⟨by rw [rl.length]; exact small_le c, At.tup h1 m rl⟩
theorem de_lst {X : Cx} {W : WX} {es : List Expr} {f : Ro → M (List D)} {pos : Pos} (h : DA X W es f) : DE X W (.List es pos) (eLst f) := (pe_lst h).imp fun σ H Q q => tG.bnd q fun A ρ l μ vs H1 m rr rl h1 => by
  obtain ⟨c, h1⟩ := At.guard h1
  exact ⟨by rw [rl.length]; exact small_le c, At.lst h1 m rl⟩
/-- a display that joins the store -/
def eNew (f : Ro → M (List D)) : Ro → M D := fun ρ => M.bnd (f ρ) fun l => if small l.length = true then (fun μ => some (.ok (.loc μ.length) (μ ++ [.lst l]))) else fail
theorem de_new {X : Cx} {W : WX} {es : List Expr} {f : Ro → M (List D)} {pos : Pos} (h : DA X W es f) : DE X W (.List es pos) (eNew f) := (pe_lst h).imp fun σ H Q q => tG.bnd q fun A ρ l μ vs H1 m rr rl h1 => by
  obtain ⟨c, h1⟩ := At.guard h1
  refine ⟨by rw [rl.length]; exact small_le c, fun p n => ?_⟩
  obtain ⟨_, e, hp⟩ := h1
  cases e
  refine hp _ (A.join p) _ (Ext.join n) (m.join n rl) (.loc ?_)
  show (A.A ++ [p])[μ.length]? = some p
  rw [← m.len, List.getElem?_append_right (Nat.le_refl _)]
  simp
end
end Dn

set_option Elab.async false
set_option linter.all false
set_option maxRecDepth 100000
set_option maxHeartbeats 4000000
/-! DnG: slices, calls, methods of lists of the store. -/
namespace Dn
open PySem PySem.Spec L2
open PyProof.Rows hiding St

/-! ### slices -/
def cutD (xs : List D) (lo hi : Option Int) : List D := (xs.drop (HT.sIx xs.length 0 lo)).take (HT.sIx xs.length xs.length hi - HT.sIx xs.length 0 lo)
section
variable {K : PySem.W.Frag} {W : WX} {X : Cx}
theorem DVs.cut {A : Wl} {H : Hp} {vs : List V} {ds : List D} (h : DVs K H A vs ds) (lo hi : Option Int) : DVs K H A (cutV vs lo hi) (cutD ds lo hi) := by
  unfold cutV cutD
  rw [h.length]
  exact (h.drop _).take _
abbrev rO : Hp → Wl → Option Int → Option Int → Prop := fun _ _ a b => a = b
abbrev DO (X : Cx) (W : WX) (e : Option Expr) (f : Ro → M (Option Int)) : Prop := PO X e (tG X.K W rO f)
theorem _root_.L2.PO.imp {X : Cx} {e : Option Expr} {t t' : TO} (h : PO X e t) (k : ∀ σ H Q, t' σ H Q → t σ H Q) : PO X e t' := by
  cases e with
  | none => exact ⟨fun pins s σ H Q I q => h.run pins s σ H Q I (k σ H Q q)⟩
  | some e => exact ⟨fun pins s σ H Q I q => h.run pins s σ H Q I (k σ H Q q)⟩
def oNone : Ro → M (Option Int) := fun _ => M.ret none
def asI : D → M Int
  | .int i => M.ret i
  | _ => fail
def oSome (f : Ro → M D) : Ro → M (Option Int) := fun ρ => M.bnd (f ρ) fun d => M.bnd (asI d) fun i => M.ret (some i)
theorem asI_bnd {E : Value → Option Addr → Hp → Prop} {A : Wl} {μ : Mu} {H : Hp} {γ δ : Type} {rel : Hp → Wl → δ → γ → Prop} {d : D} {v : V} {k : Int → M γ} {Q : δ → Hp → Prop}
    (h : At K E A μ H rel (M.bnd (asI d) k) Q) (rl : DV K H A v d) : ∃ c, v = .int c ∧ At K E A μ H rel (k c) Q := by
  obtain ⟨r, e, hp⟩ := h
  cases rl with
  | int b => exact ⟨b, rfl, r, e, hp⟩
  | _ => cases e
theorem do_none : DO X W none oNone := po_none.imp fun σ H Q h => tG.done h none fun _ _ _ _ _ => rfl
theorem do_some {e : Expr} {f : Ro → M D} (h : DE X W e f) : DO X W (some e) (oSome f) := (po_some h).imp fun σ H Q h => tG.bnd h fun A ρ a μ v H1 m rr rl h1 => by
  obtain ⟨c, rfl, h2⟩ := asI_bnd h1 rl
  exact ⟨c, rfl, h2.ret m rfl⟩
def pSl (d : D) (lo hi : Option Int) : M D := match d with
  | .tup l => M.ret (.tup (cutD l lo hi))
  | .lst l => M.ret (.lst (cutD l lo hi))
  | .fls l => M.ret (.lst (cutD l lo hi))
  | .loc n => fun μ => match μ[n]? with
    | some (.lst l) => some (.ok (.lst (cutD l lo hi)) μ)
    | _ => none
  | _ => fail
def rSlAny (K : PySem.W.Frag) : V → Option Int → Option Int → Hp → VK → Prop := fun x lo hi H Q => rSlA K x lo hi H Q ∨ rSlL K x lo hi H Q
theorem sl_any : SlR X (rSlAny X.K) := sl_tupA.or sl_list
theorem cut_whole {α : Type} {xs : List α} {lo hi : Option Int} (h : HT.sIx xs.length 0 lo = 0 ∧ HT.sIx xs.length xs.length hi = xs.length) : (xs.drop (HT.sIx xs.length 0 lo)).take (HT.sIx xs.length xs.length hi - HT.sIx xs.length 0 lo) = xs := by
  rw [h.1, h.2]
  simp
theorem pSl_ok {A : Wl} {μ : Mu} {H : Hp} {v : V} {d : D} {lo hi : Option Int} {E : Value → Option Addr → Hp → Prop} {Q : VK} (m : MuOk K A μ H) (hv : DV K H A v d) (h : At K E A μ H (rD K) (pSl d lo hi) Q) : rSlAny K v lo hi H Q := by
  cases hv with
  | @tup p xs ds hp hx =>
    have hc := hx.cut lo hi
    refine .inl ⟨p, xs, rfl, hp.sq, fun w => ?_, fun w => At.tup h m hc⟩
    rw [hx.length] at w
    have e : cutD ds lo hi = ds := cut_whole w
    have h : At K E A μ H (rD K) (M.ret (.tup (cutD ds lo hi))) Q := h
    rw [e] at h
    exact h.ret m (.tup hp hx)
  | @lst p xs ds hp hx => exact .inr ⟨p, xs, rfl, hp.sq, At.lst h m (hx.cut lo hi)⟩
  | @fls p xs ds hp hx => exact .inr ⟨p, xs, rfl, hp.sq, At.lst h m (hx.cut lo hi)⟩
  | @loc p n hn =>
    obtain ⟨r, e, hq⟩ := h
    cases z : μ[n]? with
    | none => simp [pSl, z] at e
    | some o =>
      cases o with
      | tab _ _ => simp [pSl, z] at e
      | dct _ => simp [pSl, z] at e
      | lst l =>
        simp [pSl, z] at e
        subst e
        obtain ⟨xs, hl, hx⟩ := m.mo n p _ hn z
        exact .inr ⟨p, xs, rfl, .of hl, At.lst (K := K) (E := E) (μ := μ) ⟨_, rfl, hq⟩ m (hx.cut lo hi)⟩
  | _ => exact h.no.elim
def eSl (f : Ro → M D) (lo hi : Ro → M (Option Int)) : Ro → M D := fun ρ => M.bnd (f ρ) fun d => M.bnd (lo ρ) fun a => M.bnd (hi ρ) fun b => pSl d a b
theorem de_slice {e : Expr} {lo hi : Option Expr} {f : Ro → M D} {fl fh : Ro → M (Option Int)} {p2 pos : Pos} (he : DE X W e f) (hl : DO X W lo fl) (hh : DO X W hi fh) : DE X W (.Subscript e (.Slice lo hi none p2) pos) (eSl f fl fh) :=
  (pe_slice sl_any he hl hh).imp fun σ H Q h => tG.bnd h fun A ρ d μ v H1 m rr rl h1 => ⟨A, ρ, μ, m, rr, At.bnd h1 fun a μ2 va A2 H2 x2 m2 rl2 h2 => ⟨A2, ρ, μ2, m2, rr.ext x2, At.bnd h2 fun b μ3 vb A3 H3 x3 m3 rl3 h3 => by
    cases (show va = a from rl2)
    cases (show vb = b from rl3)
    exact pSl_ok m3 ((rl.ext x2).ext x3) h3⟩⟩
/-! ### calls of built-ins -/
theorem de_callB {x : Str} {id : String} {r : List V → Hp → VK → Prop} {p : List D → M D} {e : Expr} {es : List Expr} {f : Ro → M (List D)} {np pos : Pos} (hc : CallR X (.builtin id) r) (hp : PL X.K r p) (hg : Gl X x) (hm : X.mg x = none) (hv : bootBuiltins x = some (.builtin id)) (ha : DA X W (e :: es) f)
    (hn : x ≠ "__name__" := by decide) (hdb : (x == ("__debug__" : Str)) = false := by decide) (he : starEach (e :: es) X.env = (false, eval e X.env) :: starEach es X.env := by rfl) (hpl : (backTo pos (starEach es X.env)).any (·.1) = false := by rfl) :
    DE X W (.Call (.Name x np) (e :: es) [] pos) (eL p f) := (pe_callB hc hg hm hv ha hn hdb he hpl).imp fun σ H Q h => rL_imp hp h
theorem de_callTy {x : Str} {T : String} {r : List V → Hp → VK → Prop} {p : List D → M D} {e : Expr} {es : List Expr} {f : Ro → M (List D)} {np pos : Pos} (hc : CallR X (.type T) r) (hp : PL X.K r p) (hg : Gl X x) (hm : X.mg x = none) (hv : bootBuiltins x = some (.type T)) (ha : DA X W (e :: es) f)
    (hn : x ≠ "__name__" := by decide) (hdb : (x == ("__debug__" : Str)) = false := by decide) (he : starEach (e :: es) X.env = (false, eval e X.env) :: starEach es X.env := by rfl) (hpl : (backTo pos (starEach es X.env)).any (·.1) = false := by rfl) :
    DE X W (.Call (.Name x np) (e :: es) [] pos) (eL p f) := (pe_callTy hc hg hm hv ha hn hdb he hpl).imp fun σ H Q h => rL_imp hp h
/-! ### methods of a list of the store -/
def onLoc {α : Type} (k : Nat → List D → M α) : D → M α
  | .loc n => fun μ => match μ[n]? with
    | some (.lst l) => k n l μ
    | _ => none
  | _ => fail
def put (n : Nat) (l : List D) (d : D) : M D := fun μ => some (.ok d (μ.set n (.lst l)))
def mAppend (o : D) : List D → M D
  | [x] => onLoc (fun n l => if small l.length = true then put n (l ++ [x]) .non else fail) o
  | _ => fail
def mExtend (o : D) : List D → M D
  | [.lst xs] => onLoc (fun n l => if small (l.length + xs.length) = true then put n (l ++ xs) .non else fail) o
  | _ => fail
def mPop (o : D) : List D → M D
  | [] => onLoc (fun n l => match l[l.length - 1]? with
    | some d => put n l.dropLast d
    | none => fail) o
  | _ => fail
def mInsert (o : D) : List D → M D
  | [.int i, x] => onLoc (fun n l => if (small l.length && decide (0 ≤ i) && decide (i ≤ 1000000)) = true then put n (l.take i.toNat ++ [x] ++ l.drop i.toNat) .non else fail) o
  | _ => fail
def chkL : D → M Unit
  | .loc n => fun μ => match μ[n]? with
    | some (.lst _) => some (.ok () μ)
    | _ => none
  | _ => fail
def eMeth (p : D → List D → M D) (f : Ro → M D) (fa : Ro → M (List D)) : Ro → M D := fun ρ => M.bnd (f ρ) fun o => M.bnd (chkL o) fun _ => M.bnd (fa ρ) fun l => p o l
def eMeth0 (p : D → List D → M D) (f : Ro → M D) : Ro → M D := fun ρ => M.bnd (f ρ) fun o => M.bnd (chkL o) fun _ => p o []
def PM (K : PySem.W.Frag) (r : V → List V → Hp → VK → Prop) (p : D → List D → M D) : Prop := ∀ (A : Wl) (μ : Mu) (H : Hp) (v : V) (vs : List V) (o : D) (ds : List D) (E : Value → Option Addr → Hp → Prop) (Q : VK), MuOk K A μ H → DV K H A v o → DVs K H A vs ds → At K E A μ H (rD K) (p o ds) Q → r v vs H Q
theorem chkL_bnd {E : Value → Option Addr → Hp → Prop} {A : Wl} {μ : Mu} {H : Hp} {γ δ : Type} {rel : Hp → Wl → δ → γ → Prop} {d : D} {v : V} {k : Unit → M γ} {Q : δ → Hp → Prop}
    (h : At K E A μ H rel (M.bnd (chkL d) k) Q) (m : MuOk K A μ H) (rl : DV K H A v d) : tyV K "list" v H ∧ At K E A μ H rel (k ()) Q := by
  obtain ⟨r, e, hp⟩ := h
  cases rl with
  | @loc p n hn =>
    cases z : μ[n]? with
    | none => simp [M.bnd, chkL, z] at e
    | some o =>
      cases o with
      | tab _ _ => simp [M.bnd, chkL, z] at e
      | dct _ => simp [M.bnd, chkL, z] at e
      | lst l =>
        simp [M.bnd, chkL, z] at e
        obtain ⟨xs, hl, _⟩ := m.mo n p _ hn z
        exact ⟨.inl ⟨rfl, xs, .of hl⟩, r, e, hp⟩
  | _ => cases e
section
variable {o e : Expr} {es : List Expr} {f : Ro → M D} {fa : Ro → M (List D)} {name : Str} {apos cpos : Pos} {id : String} {r : V → List V → Hp → VK → Prop} {p : D → List D → M D}
theorem de_meth (slot : Slot "list" name id) (hty : typeOf (.builtin id) = pure (.type "method_descriptor")) (hm : MtR X id r) (hp : PM X.K r p) (ho : DE X W o f) (ha : DA X W (e :: es) fa)
    (hbase : attributeBase o name X.env (eval o X.env) = eval o X.env := by rfl)
    (hfew : ((backTo cpos (starEach (e :: es) X.env)).all (fun x => !x.1) && (backToKw cpos (keywordEach [] X.env)).all (fun x => x.1.isSome)
      && decide ((e :: es).length + ([] : List Keyword).length + (if ([] : List Keyword).isEmpty then 0 else 1) < 30)) = true := by rfl)
    (hline : (apos.endLine == cpos.line) = true := by rfl) (hs : starEach (e :: es) X.env = (false, eval e X.env) :: starEach es X.env := by rfl) (hplain : (backTo cpos (starEach es X.env)).any (·.1) = false := by rfl) :
    DE X W (.Call (.Attribute o name apos) (e :: es) [] cpos) (eMeth p f fa) :=
  (pe_bm PySem.F.plainAttrs_list slot hty hm ho ha hbase hfew hline hs hplain).imp fun σ H Q h => tG.bnd h fun A ρ d μ v H1 m rr rl h1 => by
    obtain ⟨ty, h2⟩ := chkL_bnd h1 m rl
    exact ⟨ty, A, ρ, μ, m, rr, At.bnd h2 fun l μ2 vs A2 H2 x2 m2 rl2 h3 => hp A2 μ2 H2 v vs d l _ Q m2 (rl.ext x2) rl2 h3⟩
theorem de_meth0 (slot : Slot "list" name id) (hty : typeOf (.builtin id) = pure (.type "method_descriptor")) (hm : MtR X id r) (hp : PM X.K r p) (ho : DE X W o f)
    (hbase : attributeBase o name X.env (eval o X.env) = eval o X.env := by rfl) (hline : (apos.endLine == cpos.line) = true := by rfl) :
    DE X W (.Call (.Attribute o name apos) [] [] cpos) (eMeth0 p f) :=
  (pe_bm0 PySem.F.plainAttrs_list slot hty hm ho hbase hline).imp fun σ H Q h => tG.bnd h fun A ρ d μ v H1 m rr rl h1 => by
    obtain ⟨ty, h2⟩ := chkL_bnd h1 m rl
    exact ⟨ty, hp A μ H1 v [] d [] _ Q m rl .nil h2⟩
end
theorem onLoc_ok {E : Value → Option Addr → Hp → Prop} {A : Wl} {μ : Mu} {H : Hp} {v : V} {d : D} {Q : VK} {k : Nat → List D → M D} (m : MuOk K A μ H) (hv : DV K H A v d) (h : At K E A μ H (rD K) (onLoc k d) Q) :
    ∃ p n l xs, v = .ref p ∧ A.A[n]? = some p ∧ H p = some (.lst xs) ∧ DVs K H A xs l ∧ At K E A μ H (rD K) (k n l) Q := by
  obtain ⟨r, e, hp⟩ := h
  cases hv with
  | @loc p n hn =>
    cases z : μ[n]? with
    | none => simp [onLoc, z] at e
    | some o =>
      cases o with
      | tab _ _ => simp [onLoc, z] at e
      | dct _ => simp [onLoc, z] at e
      | lst l =>
        simp [onLoc, z] at e
        obtain ⟨xs, hl, hx⟩ := m.mo n p _ hn z
        exact ⟨p, n, l, xs, rfl, hn, hl, hx, r, e, hp⟩
  | _ => cases e
theorem put_ok {E : Value → Option Addr → Hp → Prop} {A : Wl} {μ : Mu} {H : Hp} {p : Addr} {n : Nat} {l : List D} {xs : List V} {d : D} {v : V} {Q : VK} (m : MuOk K A μ H) (hn : A.A[n]? = some p) (hx : DVs K H A xs l) (hv : DV K H A v d) (h : At K E A μ H (rD K) (put n l d) Q) : Q v (upd H p (.lst xs)) := by
  obtain ⟨r, e, hp⟩ := h
  cases e
  have x := Ext.turn (H := H) (o := .lst xs) (List.mem_of_getElem? hn)
  exact hp v A _ x (m.turn hn hx) (hv.ext x)
theorem mAppend_ok : PM K rAppend mAppend := by
  intro A μ H v vs o ds E Q m hv hs h
  cases hs with
  | nil => exact h.no.elim
  | cons h1 r => cases r with
    | nil =>
      obtain ⟨p, n, l, xs, rfl, hn, hl, hx, h2⟩ := onLoc_ok m hv h
      obtain ⟨c, h2⟩ := At.guard h2
      exact ⟨p, xs, _, rfl, rfl, hl, by rw [hx.length]; exact small_lt c, put_ok m hn (hx.append (.cons h1 .nil)) .non h2⟩
    | cons _ _ => exact h.no.elim
theorem mExtend_ok : PM K rExtend mExtend := by
  intro A μ H v vs o ds E Q m hv hs h
  cases hs with
  | nil => exact h.no.elim
  | cons h1 r => cases r with
    | nil => cases h1 with
      | @lst b zs es hb hz =>
        obtain ⟨p, n, l, xs, rfl, hn, hl, hx, h2⟩ := onLoc_ok m hv h
        obtain ⟨c, h2⟩ := At.guard h2
        exact ⟨p, b, xs, zs, rfl, rfl, hl, hb.1, by rw [hx.length, hz.length]; exact small_le c, put_ok m hn (hx.append hz) .non h2⟩
      | _ => exact h.no.elim
    | cons _ _ => cases h1 <;> exact h.no.elim
theorem DVs.dropLast {A : Wl} {H : Hp} {vs : List V} {ds : List D} (h : DVs K H A vs ds) : DVs K H A vs.dropLast ds.dropLast := by
  rw [List.dropLast_eq_take, List.dropLast_eq_take, h.length]
  exact h.take _
theorem mPop_ok : PM K rPop mPop := by
  intro A μ H v vs o ds E Q m hv hs h
  cases hs with
  | nil =>
    obtain ⟨p, n, l, xs, rfl, hn, hl, hx, h2⟩ := onLoc_ok m hv h
    cases z : l[l.length - 1]? with
    | none =>
      rw [z] at h2
      exact h2.no.elim
    | some d =>
      rw [z] at h2
      obtain ⟨w, h3, h4⟩ := hx.get z
      exact ⟨p, xs, w, rfl, rfl, hl, by rw [hx.length]; exact h3, put_ok m hn hx.dropLast h4 h2⟩
  | cons _ _ => exact h.no.elim
end
end Dn

set_option Elab.async false
set_option linter.all false
set_option maxRecDepth 100000
set_option maxHeartbeats 4000000
/-! DnH: statements, a def's promise, calls of defs, raise. -/
namespace Dn
open PySem PySem.Spec L2
open PyProof.Rows hiding St

inductive SR where
  | nx (ρ : Ro) (μ : Mu) | rt (d : D) (μ : Mu) | bk (ρ : Ro) (μ : Mu) | ct (ρ : Ro) (μ : Mu) | ex (c : Str) (ρ : Ro) (μ : Mu)
abbrev SF := Ro → Mu → Option SR
def PostS (K : PySem.W.Frag) (W : WX) (A : Wl) (H : Hp) : SR → Ends → Prop
  | .nx ρ μ, D => ∀ σ' A' H', Ext A H A' H' → MuOk K A' μ H' → RhoOk K A' ρ σ' H' → D.nx σ' H'
  | .rt d μ, D => ∀ v A' H', Ext A H A' H' → MuOk K A' μ H' → DV K H' A' v d → D.rt v H'
  | .bk ρ μ, D => ∀ σ' A' H', Ext A H A' H' → MuOk K A' μ H' → RhoOk K A' ρ σ' H' → D.bk σ' H'
  | .ct ρ μ, D => ∀ σ' A' H', Ext A H A' H' → MuOk K A' μ H' → RhoOk K A' ρ σ' H' → D.ct σ' H'
  | .ex c ρ μ, D => ∀ dd σ' A' H', Ext A H A' H' → MuOk K A' μ H' → RhoOk K A' ρ σ' H' → W (.ref (He.ga K c)) dd σ' H'
theorem PostS.mono {K : PySem.W.Frag} {W : WX} {A A1 : Wl} {H H1 : Hp} {r : SR} {D : Ends} (e : Ext A H A1 H1) (h : PostS K W A H r D) : PostS K W A1 H1 r D := by
  cases r with
  | nx ρ μ => exact fun σ' A' H' e' m' r' => h σ' A' H' (e.trans e') m' r'
  | rt d μ => exact fun σ' A' H' e' m' r' => h σ' A' H' (e.trans e') m' r'
  | bk ρ μ => exact fun σ' A' H' e' m' r' => h σ' A' H' (e.trans e') m' r'
  | ct ρ μ => exact fun σ' A' H' e' m' r' => h σ' A' H' (e.trans e') m' r'
  | ex c ρ μ => exact fun dd σ' A' H' e' m' r' => h dd σ' A' H' (e.trans e') m' r'
/-- with a known store -/
def AtS (K : PySem.W.Frag) (W : WX) (A : Wl) (H : Hp) (o : Option SR) (D : Ends) : Prop := ∃ r, o = some r ∧ PostS K W A H r D
def tS (K : PySem.W.Frag) (W : WX) (f : SF) : TS := fun D σ H => ∃ A ρ μ, MuOk K A μ H ∧ RhoOk K A ρ σ H ∧ AtS K W A H (f ρ μ) D
abbrev DS (X : Cx) (W : WX) (st : Stmt) (f : SF) : Prop := PS X st (tS X.K W f)
abbrev DSs (X : Cx) (W : WX) (st : List Stmt) (f : SF) : Prop := PSs X st (tS X.K W f)
/-- a piece, then the rest -/
def bndS {α : Type} (m : M α) (ρ : Ro) (k : α → Mu → Option SR) : Mu → Option SR := fun μ => match m μ with
  | none => none
  | some (.ex c μ1) => some (.ex c ρ μ1)
  | some (.ok a μ1) => k a μ1
@[simp] theorem bndS_ret {α : Type} (a : α) (ρ : Ro) (k : α → Mu → Option SR) : bndS (M.ret a) ρ k = k a := rfl
section
variable {K : PySem.W.Frag} {W : WX} {σ : St} {H : Hp} {D : Ends}
theorem tS.bnd {α β : Type} {rel : Hp → Wl → β → α → Prop} {f : Ro → M α} {k : Ro → α → Mu → Option SR} {P : β → Hp → Prop}
    (h : tS K W (fun ρ => bndS (f ρ) ρ (k ρ)) D σ H)
    (hk : ∀ A ρ a μ v H1, MuOk K A μ H1 → RhoOk K A ρ σ H1 → rel H1 A v a → AtS K W A H1 (k ρ a μ) D → P v H1) : tG K W rel f σ H P := by
  obtain ⟨A, ρ, μ, m, rr, r, e, hp⟩ := h
  refine ⟨A, ρ, μ, m, rr, ?_⟩
  unfold bndS at e
  cases q : f ρ μ with
  | none => simp [q] at e
  | some z =>
    cases z with
    | ex c μ1 =>
      simp [q] at e
      subst e
      exact ⟨.ex c μ1, q, fun dd A' H' e' m' => hp dd σ A' H' e' m' (rr.ext e')⟩
    | ok a μ1 =>
      simp [q] at e
      exact ⟨.ok a μ1, q, fun v A' H' e' m' rl => hk A' ρ a μ1 v H' m' (rr.ext e') rl ⟨r, e, hp.mono e'⟩⟩
end
theorem AtS.bnd {K : PySem.W.Frag} {W : WX} {σ : St} {H : Hp} {D : Ends} {α β : Type} {rel : Hp → Wl → β → α → Prop} {A : Wl} {ρ : Ro} {μ : Mu} {m : M α} {k : α → Mu → Option SR} {P : β → Hp → Prop} (rr : RhoOk K A ρ σ H)
    (h : AtS K W A H (bndS m ρ k μ) D) (hk : ∀ a μ v A1 H1, Ext A H A1 H1 → MuOk K A1 μ H1 → rel H1 A1 v a → AtS K W A1 H1 (k a μ) D → P v H1) : At K (WE W σ) A μ H rel m P := by
  obtain ⟨r, e, hp⟩ := h
  unfold bndS at e
  cases q : m μ with
  | none => simp [q] at e
  | some z =>
    cases z with
    | ex c μ1 =>
      simp [q] at e
      subst e
      exact ⟨.ex c μ1, q, fun dd A' H' e' m' => hp dd σ A' H' e' m' (rr.ext e')⟩
    | ok a μ1 =>
      simp [q] at e
      exact ⟨.ok a μ1, q, fun v A' H' e' m' rl => hk a μ1 v A' H' e' m' rl ⟨r, e, hp.mono e'⟩⟩
/-! ### blocks -/
def sNext : SF := fun ρ μ => some (.nx ρ μ)
def sSeq (f g : SF) : SF := fun ρ μ => match f ρ μ with
  | some (.nx ρ1 μ1) => g ρ1 μ1
  | r => r
def sExpr (f : Ro → M D) : SF := fun ρ => bndS (f ρ) ρ fun _ μ => some (.nx ρ μ)
def sRet (f : Ro → M D) : SF := fun ρ => bndS (f ρ) ρ fun d μ => some (.rt d μ)
def sRetN : SF := fun _ μ => some (.rt .non μ)
def sIf (t : Ro → M Bool) (f g : SF) : SF := fun ρ => bndS (t ρ) ρ fun c => if c = true then f ρ else g ρ
def sBreak : SF := fun ρ μ => some (.bk ρ μ)
def sCont : SF := fun ρ μ => some (.ct ρ μ)
def sNever : SF := fun _ _ => none
section
variable {X : Cx} {W : WX} {st : Stmt} {rest : List Stmt} {f g : SF} {e c : Expr} {fe : Ro → M D} {ft : Ro → M Bool} {pos : Pos}
theorem dss_nil : DSs X W [] sNext := pss_nil.imp fun D σ H ⟨A, ρ, μ, m, rr, r, e, hp⟩ => by
  cases e
  exact hp σ A H Ext.refl m rr
theorem dss_cons (h1 : DS X W st f) (h2 : DSs X W rest g) : DSs X W (st :: rest) (sSeq f g) := (pss_cons h1 h2).imp fun D σ H ⟨A, ρ, μ, m, rr, r, e, hp⟩ => by
  refine ⟨A, ρ, μ, m, rr, ?_⟩
  unfold sSeq at e
  cases q : f ρ μ with
  | none => simp [q] at e
  | some z =>
    refine ⟨z, rfl, ?_⟩
    cases z with
    | nx ρ1 μ1 =>
      simp [q] at e
      exact fun σ' A' H' e' m' r' => ⟨A', ρ1, μ1, m', r', r, e, hp.mono e'⟩
    | _ =>
      simp [q] at e
      subst e
      exact hp
theorem dss_one (h1 : DS X W st f) : DSs X W [st] f := pss_one h1
theorem ds_pass : DS X W (.Pass pos) sNext := ps_pass.imp fun D σ H ⟨A, ρ, μ, m, rr, r, e, hp⟩ => by
  cases e
  exact hp σ A H Ext.refl m rr
theorem ds_break : DS X W (.Break pos) sBreak := ps_break.imp fun D σ H ⟨A, ρ, μ, m, rr, r, e, hp⟩ => by
  cases e
  exact hp σ A H Ext.refl m rr
theorem ds_continue : DS X W (.Continue pos) sCont := ps_continue.imp fun D σ H ⟨A, ρ, μ, m, rr, r, e, hp⟩ => by
  cases e
  exact hp σ A H Ext.refl m rr
theorem ds_expr (he : DE X W e fe) (hs : swapsWith e none pos.line X.env = pure false := by rfl) : DS X W (.Expr e pos) (sExpr fe) := (ps_expr he hs).imp fun D σ H h => tS.bnd h fun A ρ a μ v H1 m rr rl ⟨r, e, hp⟩ => by
  cases e
  exact hp σ A H1 Ext.refl m rr
theorem ds_ret (he : DE X W e fe) : DS X W (.Return (some e) pos) (sRet fe) := (ps_ret he).imp fun D σ H h => tS.bnd h fun A ρ a μ v H1 m rr rl ⟨r, e, hp⟩ => by
  cases e
  exact hp v A H1 Ext.refl m rl
theorem ds_retN : DS X W (.Return none pos) sRetN := ps_retN.imp fun D σ H ⟨A, ρ, μ, m, rr, r, e, hp⟩ => by
  cases e
  exact hp .non A H Ext.refl m .non
theorem ds_if {a b : List Stmt} (hc : DT X W c ft) (ha : DSs X W a f) (hb : DSs X W b g) : DS X W (.If c a b pos) (sIf ft f g) := (ps_if hc ha hb).imp fun D σ H h => tS.bnd h fun A ρ a μ v H1 m rr rl h1 => by
  cases (show v = a from rl)
  cases a with
  | true => exact iteT ⟨A, ρ, μ, m, rr, by simpa using h1⟩
  | false => exact iteF ⟨A, ρ, μ, m, rr, by simpa using h1⟩
theorem ds_never : DS X W st sNever := ⟨fun _ _ _ _ _ _ ⟨_, _, _, _, _, _, e, _⟩ => by cases e⟩
theorem dss_never {sts : List Stmt} : DSs X W sts sNever := ⟨fun _ _ _ _ _ _ ⟨_, _, _, _, _, _, e, _⟩ => by cases e⟩
end
/-! ### targets -/
abbrev GF := D → Ro → Option Ro
/-- only these slots differ -/
def Off (ss : List Nat) (σ σ' : St) : Prop := σ'.length = σ.length ∧ ∀ j : Nat, j ∉ ss → σ'[j]? = σ[j]?
theorem Off.refl {ss : List Nat} {σ : St} : Off ss σ σ := ⟨rfl, fun _ _ => rfl⟩
theorem Off.trans {s1 s2 : List Nat} {σ σ1 σ2 : St} (a : Off s1 σ σ1) (b : Off s2 σ1 σ2) : Off (s1 ++ s2) σ σ2 :=
  ⟨b.1.trans a.1, fun j h => (b.2 j fun z => h (List.mem_append_right _ z)).trans (a.2 j fun z => h (List.mem_append_left _ z))⟩
def tT (K : PySem.W.Frag) (ss : List Nat) (g : GF) : TG := fun v σ H Q => ∃ A ρ d ρ', RhoOk K A ρ σ H ∧ DV K H A v d ∧ g d ρ = some ρ' ∧ ∀ σ', RhoOk K A ρ' σ' H → Off ss σ σ' → Q σ' H
def tTs (K : PySem.W.Frag) (ss : List Nat) (g : List D → Ro → Option Ro) : TGs := fun vs σ H Q => ∃ A ρ ds ρ', RhoOk K A ρ σ H ∧ DVs K H A vs ds ∧ g ds ρ = some ρ' ∧ ∀ σ', RhoOk K A ρ' σ' H → Off ss σ σ' → Q σ' H
abbrev DG (X : Cx) (t : Expr) (ss : List Nat) (g : GF) : Prop := PG X t (tT X.K ss g)
abbrev DGs (X : Cx) (t : List Expr) (ss : List Nat) (g : List D → Ro → Option Ro) : Prop := PGs X t (tTs X.K ss g)
theorem _root_.L2.PG.imp {X : Cx} {e : Expr} {t t' : TG} (h : PG X e t) (k : ∀ v σ H Q, t' v σ H Q → t v σ H Q) : PG X e t' := ⟨fun pins s σ H v u Q I r q => h.run pins s σ H v u Q I r (k v σ H Q q)⟩
theorem _root_.L2.PGs.imp {X : Cx} {e : List Expr} {t t' : TGs} (h : PGs X e t) (k : ∀ v σ H Q, t' v σ H Q → t v σ H Q) : PGs X e t' := ⟨fun pins s σ H v u Q I r q => h.run pins s σ H v u Q I r (k v σ H Q q)⟩
def gN (i : Nat) : GF := fun d ρ => some (ρ.set i (some d))
def gsNil : List D → Ro → Option Ro
  | [], ρ => some ρ
  | _, _ => none
def gsCons (g : GF) (gs : List D → Ro → Option Ro) : List D → Ro → Option Ro
  | d :: ds, ρ => match g d ρ with
    | some ρ1 => gs ds ρ1
    | none => none
  | [], _ => none
def gT (n : Nat) (gs : List D → Ro → Option Ro) : GF
  | .tup l, ρ => if l.length = n then gs l ρ else none
  | _, _ => none
section
variable {X : Cx} {W : WX} {pos : Pos}
theorem dg_name (i : Nat) {x : Str} (hN : X.N.Nodup) (hi : X.N[i]? = some x := by rfl) (hx : Loc X.env.scope x := by first | exact Or.inl rfl | exact Or.inr rfl) (hf : X.fn x = true ∨ X.env.scope.names.lookup x = some .local := by first | exact .inl rfl | exact .inr rfl | assumption) : DG X (.Name x pos) [i] (gN i) :=
  (pg_name (i := i) hN hi hx hf).imp fun v σ H Q ⟨A, ρ, d, ρ', rr, rl, e, q⟩ => by
    cases e
    exact q _ (rr.set rl) ⟨by simp, fun j h => List.getElem?_set_ne (by simpa using fun z => h (by simp [z]))⟩
theorem dgs_nil : DGs X [] [] gsNil := pgs_nil.imp fun vs σ H Q ⟨A, ρ, ds, ρ', rr, rl, e, q⟩ => by
  cases rl with
  | nil =>
    cases e
    exact ⟨rfl, q _ rr Off.refl⟩
  | cons _ _ => cases e
theorem dgs_cons {e : Expr} {es : List Expr} {s1 s2 : List Nat} {g : GF} {gs : List D → Ro → Option Ro} (h1 : DG X e s1 g) (h2 : DGs X es s2 gs) (hs : (assignEach (e :: es) X.env).map (·.2) = assign e X.env :: (assignEach es X.env).map (·.2) := by rfl) : DGs X (e :: es) (s1 ++ s2) (gsCons g gs) :=
  (pgs_cons h1 h2 hs).imp fun vs σ H Q ⟨A, ρ, ds, ρ', rr, rl, e, q⟩ => by
    cases rl with
    | nil => cases e
    | @cons v vs d ds h r =>
      simp only [gsCons] at e
      cases z : g d ρ with
      | none => simp [z] at e
      | some ρ1 =>
        simp [z] at e
        exact ⟨v, vs, rfl, A, ρ, d, ρ1, rr, h, z, fun σ' r' o => ⟨A, ρ1, ds, ρ', r', r, e, fun σ2 r2 o2 => q σ2 r2 (o.trans o2)⟩⟩
theorem dg_tup {es : List Expr} {k : Nat} {ss : List Nat} {gs : List D → Ro → Option Ro} {n : Nat} (hc : X.calm = true) (h : DGs X es ss gs) (hn : (assignEach es X.env).length = n := by rfl) (hst : (assignEach es X.env).findIdx? (·.1) = none := by rfl) : DG X (.Tuple es k pos) ss (gT n gs) :=
  (pg_tup hc h hn hst).imp fun v σ H Q ⟨A, ρ, d, ρ', rr, rl, e, q⟩ => by
    cases rl with
    | @tup a xs ds hp hx =>
      simp only [gT] at e
      by_cases c : ds.length = n
      · rw [if_pos c] at e
        exact ⟨a, xs, rfl, hp.sq, hx.length.trans c, A, ρ, ds, ρ', rr, hx, e, q⟩
      · rw [if_neg c] at e
        cases e
    | _ => cases e
def sAsg (fe : Ro → M D) (g : GF) : SF := fun ρ => bndS (fe ρ) ρ fun d μ => match g d ρ with
  | some ρ' => some (.nx ρ' μ)
  | none => none
theorem ds_asg {tg e : Expr} {fe : Ro → M D} {ss : List Nat} {g : GF} (he : DE X W e fe) (hg : DG X tg ss g) (hs : swapsWithSole [tg] e pos.line X.env = pure false := by rfl) (hw : swappedStores [tg] e X.env = pure none := by rfl)
    (h1 : (assignEach [tg] X.env).map (·.2) = [assign tg X.env] := by rfl) : DS X W (.Assign [tg] e pos) (sAsg fe g) := (ps_asg he hg hs hw h1).imp fun D σ H h => tS.bnd h fun A ρ a μ v H1 m rr rl ⟨r, e, hp⟩ => by
  cases z : g a ρ with
  | none => simp [z] at e
  | some ρ' =>
    simp [z] at e
    subst e
    exact ⟨A, ρ, a, ρ', rr, rl, z, fun σ' r' _ => hp σ' A H1 Ext.refl m r'⟩
def sSet (i : Nat) (fe : Ro → M D) : SF := fun ρ => bndS (fe ρ) ρ fun d μ => some (.nx (ρ.set i (some d)) μ)
theorem ds_set (i : Nat) {x : Str} {e : Expr} {fe : Ro → M D} {pos' : Pos} (hN : X.N.Nodup) (he : DE X W e fe) (hi : X.N[i]? = some x := by rfl) (hx : Loc X.env.scope x := by first | exact Or.inl rfl | exact Or.inr rfl) (hs : swapsWith e (some (.Name x pos')) pos.line X.env = pure false := by rfl) (hf : X.fn x = true ∨ X.env.scope.names.lookup x = some .local := by first | exact .inl rfl | exact .inr rfl | assumption) :
    DS X W (.Assign [.Name x pos'] e pos) (sSet i fe) := (ps_set (i := i) hN hi hx he hs hf).imp fun D σ H h => tS.bnd h fun A ρ a μ v H1 m rr rl ⟨r, e, hp⟩ => by
  cases e
  exact hp _ A H1 Ext.refl m (rr.set rl)
/-- a, b = e, f at once -/
def sPar (i j : Nat) (fa : Ro → M (List D)) : SF := fun ρ => bndS (fa ρ) ρ fun l μ => match l with
  | [a, b] => some (.nx ((ρ.set i (some a)).set j (some b)) μ)
  | _ => none
theorem ds_par (i j : Nat) {x y : Str} {a b : Expr} {fa : Ro → M (List D)} {px py pt : Pos} {kt k2 pt2} (hc : X.calm = true) (hN : X.N.Nodup) (ha : DA X W [a, b] fa) (hw : swappedStores [.Tuple [.Name x px, .Name y py] kt pt] (.Tuple [a, b] k2 pt2) X.env = pure (some [x, y]) := by rfl)
    (hi : X.N[i]? = some x := by rfl) (hj : X.N[j]? = some y := by rfl) (hij : i ≠ j := by decide) (hx : X.env.scope.names.lookup x = some .local := by rfl) (hy : X.env.scope.names.lookup y = some .local := by rfl) 
    (hs : swapsWithSole [.Tuple [.Name x px, .Name y py] kt pt] (.Tuple [a, b] k2 pt2) pos.line X.env = pure false := by rfl) :
    DS X W (.Assign [.Tuple [.Name x px, .Name y py] kt pt] (.Tuple [a, b] k2 pt2) pos) (sPar i j fa) := (ps_par hc hN hi hj hij hx hy ha hw hs).imp fun D σ H h => tS.bnd h fun A ρ l μ vs H1 m rr rl ⟨r, e, hp⟩ => by
  cases rl with
  | nil => cases e
  | @cons v vs d ds h1 r1 => cases r1 with
    | nil => cases e
    | @cons v2 vs d2 ds h2 r2 => cases r2 with
      | nil =>
        cases e
        exact ⟨v, v2, rfl, hp _ A H1 Ext.refl m ((rr.set h1).set h2)⟩
      | cons _ _ => cases e
/-- name op= e -/
def sAug (i : Nat) (p : D → D → M D) (fe : Ro → M D) : SF := fun ρ => bndS (e2 p (eVar i) fe ρ) ρ fun d μ => some (.nx (ρ.set i (some d)) μ)
/-- xs[i] = e, xs of the store -/
def sPut (fo fi fe : Ro → M D) : SF := fun ρ => bndS (fe ρ) ρ fun d μ => bndS (fo ρ) ρ (fun o μ => bndS (fi ρ) ρ (fun i μ => match o, i with
  | .loc n, .int k => (match μ[n]? with
    | some (.lst l) => (match ixN l.length k with
      | some j => some (.nx ρ (μ.set n (.lst (l.set j d))))
      | none => none)
    | _ => none)
  | _, _ => none) μ) μ
theorem ds_put {o i e : Expr} {fo fi fe : Ro → M D} {tpos : Pos} (ho : DE X W o fo) (hi : DE X W i fi) (he : DE X W e fe) (ha : ∀ v, assign (.Subscript o i tpos) X.env v = (do
      let ov ← holding [v] (eval o X.env)
      let iv ← holding [v, ov] (eval i X.env)
      standAt tpos
      holding [v, ov, iv] (setItem ov iv v)
      release [v, ov, iv] []) := by intro _; rfl) (hs : swapsWithSole [.Subscript o i tpos] e pos.line X.env = pure false := by rfl) (hw : swappedStores [.Subscript o i tpos] e X.env = pure none := by rfl)
    (h1 : (assignEach [.Subscript o i tpos] X.env).map (·.2) = [assign (.Subscript o i tpos) X.env] := by rfl) : DS X W (.Assign [.Subscript o i tpos] e pos) (sPut fo fi fe) :=
  (ps_asg he (pg_sub ho hi set_list ha) hs hw h1).imp fun D σ H h =>
    tS.bnd h fun A ρ a μ v H1 m rr rl h1 => ⟨A, ρ, μ, m, rr, AtS.bnd rr h1 fun o μ2 ov A2 H2 x2 m2 rl2 h2 => ⟨A2, ρ, μ2, m2, rr.ext x2, AtS.bnd (rr.ext x2) h2 fun i μ3 iv A3 H3 x3 m3 rl3 h3 => by
      have rv := (rl.ext x2).ext x3
      have ro := rl2.ext x3
      have rr3 := (rr.ext x2).ext x3
      obtain ⟨r, e, hp⟩ := h3
      cases rl3 with
      | int k => cases ro with
        | @loc p n hn =>
          cases z : μ3[n]? with
          | none => simp [z] at e
          | some o =>
            cases o with
            | tab _ _ => simp [z] at e
            | dct _ => simp [z] at e
            | lst l =>
              cases y : ixN l.length k with
              | none => simp [z, y] at e
              | some j =>
                simp [z, y] at e
                subst e
                obtain ⟨xs, hl, hx⟩ := m3.mo n p _ hn z
                have x := Ext.turn (H := H3) (o := .lst (xs.set j v)) (List.mem_of_getElem? hn)
                exact ⟨p, xs, k, j, rfl, rfl, hl, by rw [hx.length]; exact y, hp σ A3 _ x (m3.turn hn (hx.set rv j)) (rr3.ext x)⟩
        | _ => cases e
      | _ => cases ro <;> cases e⟩⟩
/-! ### name op= e, xs[i] op= e (ints) -/
def PI2 (op : Operator) (X : Cx) (p : D → D → M D) (t : TIp) : Prop := PIp X op t ∧ P2 X.K t p
theorem ip_addI {X : Cx} : PI2 .Add X (p2I0 fun i j => .int (i + j)) (ipI fun i j => i + j) := ⟨ip_add, p2I0_ok fun _ _ _ _ => .int _⟩
theorem ip_subI {X : Cx} : PI2 .Sub X pSub (ipI fun i j => i - j) := ⟨ip_sub, pSub_ok⟩
def sAugN (i : Nat) (p : D → D → M D) (fe : Ro → M D) : SF := fun ρ => bndS (eVar i ρ) ρ fun x => bndS (fe ρ) ρ fun y => bndS (p x y) ρ fun z μ => some (.nx (ρ.set i (some z)) μ)
theorem ds_aug (i : Nat) {x : Str} {e : Expr} {fe : Ro → M D} {op : Operator} {p : D → D → M D} {t : TIp} {pos' : Pos} (hN : X.N.Nodup) (ho : PI2 op X p t) (he : DE X W e fe) (hi : X.N[i]? = some x := by rfl) (hx : Loc X.env.scope x := by first | exact Or.inl rfl | exact Or.inr rfl) (hf : X.fn x = true ∨ X.env.scope.names.lookup x = some .local := by first | exact .inl rfl | exact .inr rfl | assumption) :
    DS X W (.AugAssign (.Name x pos') op e pos) (sAugN i p fe) := (ps_aug (i := i) hN hi hx he ho.1 hf).imp fun D σ H ⟨A, ρ, μ, m, rr, r, h, hp⟩ => by
  unfold sAugN bndS eVar M.of at h
  cases q : ρ[i]? with
  | none => simp [q] at h
  | some o =>
    cases o with
    | none => simp [q] at h
    | some d =>
      simp [q] at h
      obtain ⟨v, h1, h2⟩ := rr.loc i d q
      have h3 : AtS X.K W A H (bndS (fe ρ) ρ (fun y => bndS (p d y) ρ fun z μ => some (.nx (ρ.set i (some z)) μ)) μ) D := ⟨r, h, hp⟩
      refine ⟨v, h1, A, ρ, μ, m, rr, AtS.bnd rr h3 fun y μ2 w A2 H2 x2 m2 rl2 h4 => ?_⟩
      refine ho.2 A2 μ2 H2 v w d y (WE W σ) _ m2 (h2.ext x2) rl2 (AtS.bnd (rr.ext x2) h4 fun z μ3 u A3 H3 x3 m3 rl3 ⟨r5, e5, hp5⟩ => ?_)
      cases e5
      exact hp5 _ A3 H3 Ext.refl m3 (((rr.ext x2).ext x3).set rl3)
def tGetL (K : PySem.W.Frag) : V → V → Hp → VK → Prop := rIxL K
theorem get_list : PGet X (tGetL X.K) := by
  intro pins s σ H o i ov iv Q I ro ri h
  obtain ⟨p, xs, k, z, rfl, rfl, hq, he, q⟩ := h
  cases ro
  obtain ⟨t, rfl⟩ := ri
  obtain ⟨its, r, pl, hz⟩ := I.list hq
  obtain ⟨j, h1, h2, h3, h4, h5⟩ := atI_get he
  obtain ⟨w, ew, rw'⟩ := r.get h2
  have hl := r.length
  have hn := line63
  have fin : EP X pins σ Q w s := ⟨z, H, I, rw', q⟩
  by_cases h0 : 0 ≤ k
  · have hj : k.toNat = j := by
      rw [seqIndex_of h0 h5] at h1
      exact Option.some.inj h1
    exact wpAny_getItem_list pl.isList h0 (by omega) (by rw [hj]; simpa using ew) fin
  · have hj : (k + (its.toArray.size : Int)).toNat = j := by
      rw [seqIndex_neg (by omega) h4] at h1
      rw [List.size_toArray, ← hl]
      exact Option.some.inj h1
    exact wpAny_getItem_list_neg pl.isList (by omega) (by rw [List.size_toArray] <;> omega) (by omega) (by rw [hj]; simpa using ew) fin
end
end Dn

set_option Elab.async false
set_option linter.all false
set_option maxRecDepth 100000
set_option maxHeartbeats 4000000
/-! DnI: xs[i] op= e, a def's promise, calls of defs, raise. -/
namespace Dn
open PySem PySem.Spec L2
open PyProof.Rows hiding St

def setLoc (o i d : D) (ρ : Ro) : Mu → Option SR := fun μ => match o, i with
  | .loc n, .int k => (match μ[n]? with
    | some (.lst l) => (match ixN l.length k with
      | some j => some (.nx ρ (μ.set n (.lst (l.set j d))))
      | none => none)
    | _ => none)
  | _, _ => none
def pIxL : D → D → M D
  | .loc n, .int i => fun μ => match μ[n]? with
    | some (.lst l) => (M.of (L2.atI l i) : M D) μ
    | _ => none
  | _, _ => fail
theorem pIxL_ok {K : PySem.W.Frag} : P2 K (tGetL K) pIxL := by
  intro A μ H v w a b E Q m hv hw h
  cases hw with
  | int i => cases hv with
    | @loc p n hn =>
      obtain ⟨r, e, hp⟩ := h
      cases q : μ[n]? with
      | none => simp [pIxL, q] at e
      | some o =>
        cases o with
        | tab _ _ => simp [pIxL, q] at e
        | dct _ => simp [pIxL, q] at e
        | lst l =>
          obtain ⟨xs, hl, hx⟩ := m.mo n p _ hn q
          have e : (M.of (L2.atI l i) : M D) μ = some r := by simpa [pIxL, q] using e
          obtain ⟨d, e2, h⟩ := At.of (o := L2.atI l i) (⟨r, e, hp⟩ : At K E A μ H (rD K) (M.of (L2.atI l i)) Q)
          obtain ⟨u, e1, rr⟩ := hx.atI e2
          exact ⟨p, xs, i, u, rfl, rfl, .of hl, e1, h.ret m rr⟩
    | _ => exact h.no.elim
  | _ => cases hv <;> exact h.no.elim
def sAugL (fo fi : Ro → M D) (p : D → D → M D) (fe : Ro → M D) : SF := fun ρ => bndS (fo ρ) ρ fun o => bndS (fi ρ) ρ fun i => bndS (pIxL o i) ρ fun x => bndS (fe ρ) ρ fun y => bndS (p x y) ρ fun z => setLoc o i z ρ
section
variable {X : Cx} {W : WX} {pos : Pos}
theorem setLoc_ok {K : PySem.W.Frag} {A : Wl} {μ : Mu} {ρ : Ro} {σ : St} {H : Hp} {o i d : D} {ov iv v : V} {D : Ends} (m : MuOk K A μ H) (rr : RhoOk K A ρ σ H) (ro : DV K H A ov o) (ri : DV K H A iv i) (rv : DV K H A v d)
    (h : AtS K W A H (setLoc o i d ρ μ) D) : rSetL ov iv v H fun H' => D.nx σ H' := by
  obtain ⟨r, e, hp⟩ := h
  cases ri with
  | int k => cases ro with
    | @loc p n hn =>
      cases z : μ[n]? with
      | none => simp [setLoc, z] at e
      | some o =>
        cases o with
        | tab _ _ => simp [setLoc, z] at e
        | dct _ => simp [setLoc, z] at e
        | lst l =>
          cases y : ixN l.length k with
          | none => simp [setLoc, z, y] at e
          | some j =>
            simp [setLoc, z, y] at e
            subst e
            obtain ⟨xs, hl, hx⟩ := m.mo n p _ hn z
            have x := Ext.turn (H := H) (o := .lst (xs.set j v)) (List.mem_of_getElem? hn)
            exact ⟨p, xs, k, j, rfl, rfl, hl, by rw [hx.length]; exact y, hp σ A _ x (m.turn hn (hx.set rv j)) (rr.ext x)⟩
    | _ => cases e
  | _ => cases ro <;> cases e
theorem ds_augL {o i e : Expr} {fo fi fe : Ro → M D} {op : Operator} {p : D → D → M D} {t : TIp} {tpos : Pos} (ho : DE X W o fo) (hi : DE X W i fi) (he : DE X W e fe) (hp : PI2 op X p t)
    (ha : ∀ ov iv new, augStore i ov iv new = (do holding [new, ov, iv] (setItem ov iv new); release [new, ov, iv] []; pure .next) := by intros; rfl) : DS X W (.AugAssign (.Subscript o i tpos) op e pos) (sAugL fo fi p fe) :=
  (ps_augS ho hi get_list he hp.1 set_list ha).imp fun D σ H h => tS.bnd h fun A ρ o μ ov H1 m rr rl h1 => ⟨A, ρ, μ, m, rr, AtS.bnd rr h1 fun i μ2 iv A2 H2 x2 m2 rl2 h2 => by
    refine pIxL_ok A2 μ2 H2 ov iv o i (WE W σ) _ m2 (rl.ext x2) rl2 (AtS.bnd (rr.ext x2) h2 fun x μ3 xv A3 H3 x3 m3 rl3 h3 => ?_)
    refine ⟨A3, ρ, μ3, m3, (rr.ext x2).ext x3, AtS.bnd ((rr.ext x2).ext x3) h3 fun y μ4 yv A4 H4 x4 m4 rl4 h4 => ?_⟩
    refine hp.2 A4 μ4 H4 xv yv x y (WE W σ) _ m4 (rl3.ext x4) rl4 (AtS.bnd (((rr.ext x2).ext x3).ext x4) h4 fun z μ5 zv A5 H5 x5 m5 rl5 h5 => ?_)
    exact setLoc_ok m5 ((((rr.ext x2).ext x3).ext x4).ext x5) ((((rl.ext x2).ext x3).ext x4).ext x5) (((rl2.ext x3).ext x4).ext x5) rl5 h5⟩
end
/-! ### a def's promise -/
abbrev Gt := List D → M D
def spD (K : PySem.W.Frag) (G : Gt) : Sp := fun vs H Q E => ∃ A ds μ, MuOk K A μ H ∧ DVs K H A vs ds ∧ At K (fun c d H' => E c d H') A μ H (rD K) (G ds) Q
/-- the global function x -/
structure Cal (P : Program) (w : World) (K : PySem.W.Frag) (mg : Str → Option Value) (base : Heap) (k : Nat) (x : Str) (G : Gt) : Prop where
  ex : ∃ (fd : FuncData) (ps : List Str), FnOk P w K mg base (L2.CX P w) k (He.ga K x) fd ps (spD K G) ∧ PySem.W.keepIn K (.ref (He.ga K x)) = true ∧ Binds K fd ps []
theorem Cal.mono {P : Program} {w : World} {K : PySem.W.Frag} {mg : Str → Option Value} {base : Heap} {j k : Nat} {x : Str} {G : Gt} (c : Cal P w K mg base j x G) (h : j ≤ k) : Cal P w K mg base k x G := by
  obtain ⟨fd, ps, F, kp, b⟩ := c.ex
  exact ⟨fd, ps, F.mono h, kp, b⟩
section
variable {X : Cx} {W : WX} {k j : Nat} {x : Str} {G : Gt} {p pos : Pos} {e : Expr} {es : List Expr} {fl : Ro → M (List D)}
theorem de_call (c : Cal X.prog X.w X.K X.mg X.base j x G) (hr : Room k X.A) (hg : Gl X x) (hm : X.mg x = some (.ref (He.ga X.K x))) (tk : Takes X W) (ha : DA X W (e :: es) fl) (hj : j ≤ k := by decide)
    (hdb : (x == ("__debug__" : Str)) = false := by decide) (he : starEach (e :: es) X.env = (false, eval e X.env) :: starEach es X.env := by rfl) (hpl : (backTo pos (starEach es X.env)).any (·.1) = false := by rfl) :
    DE X W (.Call (.Name x p) (e :: es) [] pos) (eL G fl) := by
  obtain ⟨fd, ps, F, kp, b⟩ := c.ex
  refine (pe_callS F (hr.mono hj) hg hm kp b (passAt tk) ha hdb he hpl).imp fun σ H Q h => ?_
  exact tG.bnd h fun A ρ l μ vs H1 m rr rl h1 => ⟨A, l, μ, m, rl, h1⟩
/-- a call without arguments -/
theorem pe_callS0 {CX : CXT} {fd : FuncData} {f : Addr} {ps : List Str} {sp : Sp} {E : St → XK} (F : FnOk X.prog X.w X.K X.mg X.base CX k f fd ps sp) (hr : Room k X.A) (hg : Gl X x) (hm : X.mg x = some (.ref f)) (hk : PySem.W.keepIn X.K (.ref f) = true) (hb : Binds X.K fd ps []) (hx : ∀ σ, PassesAt CX X σ (E σ))
    (hdb : (x == ("__debug__" : Str)) = false := by decide) : PE X (.Call (.Name x p) [] [] pos) (tCallS sp E tNil) := by
  refine ⟨fun pins s σ H Q I h => ?_⟩
  refine wpAny_Call_Name_kw (ld_glob I hg hm ?_ hdb)
  exact PySem.W.callWith_K0 I.kIn hk (run_fnS (us := []) F hr hb (hx σ) I .nil h)
theorem de_call0 (c : Cal X.prog X.w X.K X.mg X.base j x G) (hr : Room k X.A) (hg : Gl X x) (hm : X.mg x = some (.ref (He.ga X.K x))) (tk : Takes X W) (hj : j ≤ k := by decide) (hdb : (x == ("__debug__" : Str)) = false := by decide) : DE X W (.Call (.Name x p) [] [] pos) (eL G aNil) := by
  obtain ⟨fd, ps, F, kp, b⟩ := c.ex
  refine (pe_callS0 F (hr.mono hj) hg hm kp b (passAt tk) hdb).imp fun σ H Q h => ?_
  obtain ⟨A0, ρ0, μ0, m0, rr0, h⟩ := h
  exact ⟨A0, [], μ0, m0, .nil, h⟩
end
/-! ### a call of what a name holds -/
abbrev Phi := Str → Option Gt
def eCallV (Φ : Phi) (i : Nat) (fl : Ro → M (List D)) : Ro → M D := fun ρ => M.bnd (eVar i ρ) fun d => match d with
  | .fn x => (match Φ x with
    | some G => M.bnd (fl ρ) G
    | none => fail)
  | _ => fail
section
variable {X : Cx} {W : WX} {k : Nat} {p pos : Pos} {e : Expr} {es : List Expr} {fl : Ro → M (List D)}
theorem de_callV {Φ : Phi} (i : Nat) {x : Str} (hΦ : ∀ y G, Φ y = some G → Cal X.prog X.w X.K X.mg X.base k y G) (hr : Room k X.A) (tk : Takes X W) (ha : DA X W (e :: es) fl) (hN : X.N[i]? = some x := by rfl) (hv : Vis X.env.scope x := by first | exact Or.inl rfl | exact Or.inr (Or.inl rfl) | exact Or.inr (Or.inr rfl))
    (hdb : (x == ("__debug__" : Str)) = false := by decide) (hcd : (x == ("__classdict__" : Str)) = false := by decide)
    (he : starEach (e :: es) X.env = (false, eval e X.env) :: starEach es X.env := by rfl) (hpl : (backTo pos (starEach es X.env)).any (·.1) = false := by rfl) : DE X W (.Call (.Name x p) (e :: es) [] pos) (eCallV Φ i fl) := by
  refine ⟨fun pins s σ H Q I h => ?_⟩
  obtain ⟨A, ρ, μ, m, rr, r, h, hp⟩ := h
  unfold eCallV M.bnd eVar M.of at h
  cases q : ρ[i]? with
  | none => simp [q] at h
  | some o =>
    cases o with
    | none => simp [q] at h
    | some d =>
      obtain ⟨v, h1, h2⟩ := rr.loc i d q
      cases h2 with
      | fn y =>
        cases z : Φ y with
        | none => simp [q, z] at h
        | some G =>
          have h : M.bnd (fl ρ) G μ = some r := by simpa [q, z, M.bnd] using h
          obtain ⟨fd, ps, F, kp, b⟩ := (hΦ y G z).ex
          refine wpAny_Call_Name_kw (thn ((pe_var (pos := p) hN hv hdb hcd).run pins s σ H (fun v H1 => v = .ref (He.ga X.K y) ∧ H1 = H) I ⟨_, h1, rfl, rfl⟩) fun u s1 ⟨v, H1, I1, r1, q1⟩ => ?_)
          obtain ⟨rfl, rfl⟩ := q1
          cases r1
          refine PySem.W.callWith_K (h₀ := X.base) I.ok.mod.kin kp (thn (ha.run pos pins s1 σ _ _ I1 (⟨A, ρ, μ, m, rr, At.bnd (rel2 := rD X.K) ⟨r, h, hp⟩ fun l μ2 vs A2 H2 x2 m2 rl2 h3 => (⟨A2, l, μ2, m2, rl2, h3⟩ : spD X.K G vs H2 Q (WE W σ))⟩ : tG X.K W (rL X.K) fl σ H1 _)) fun us s2 ⟨vs, H2, I2, r, q⟩ => ⟨I2.kIn, ?_⟩) he hpl
          exact run_fnS F hr b (passAt tk σ) I2 r q
      | _ => simp [q] at h
end
/-! ### raise X() -/
section
variable {X : Cx} {W : WX} {C : Addr} {bmB : List Value} {B newId initId : String} {pos : Pos}
theorem pmk_own0 {x : Str} {p pos : Pos} (F : ExcBaseFacts B newId initId bmB) (q : PySem.W.excIn X.K C bmB newId = true) (gC : X.mg x = some (.ref C)) (kC : PySem.W.keepIn X.K (.ref C) = true) (r : Raises X (.ref C)) (hg : Gl X x)
    (hdb : (x == ("__debug__" : Str)) = false := by decide) : PMk X (.Call (.Name x p) [] [] pos) (fun _ H Q => Q (.ref C) none H) := by
  intro pins s σ H Q I h
  refine wpAny_Call_Name_kw (ld_glob I hg gC ?_ hdb)
  refine PySem.W.callWith_K0 I.kIn kC ?_
  show wpAny _ _ (call (.ref C) []) _ _ _
  obtain ⟨bm, N, nm, qn, bs, hdct, sn, sub, ab, col, dd, k0, k1, k2, k3, k5, mN, hC, hN, hni, T⟩ := exc_obj I.kIn q
  refine wpAny_call_exc_subT F T hC hN hni (fun h' e hm => ?_) (Nat.zero_le _)
  exact mk_of I hm r h (I.hok.gone hm.new)
def sRaise (x : Str) : SF := fun ρ μ => some (.ex x ρ μ)
/-- what an own exception class must be -/
structure ExcC (K : PySem.W.Frag) (mg : Str → Option Value) (x : Str) : Prop where
  gC : mg x = some (.ref (He.ga K x))
  ex : PySem.W.excIn K (He.ga K x) He.veBase "ValueError.__new__" = true
  kp : PySem.W.keepIn K (.ref (He.ga K x)) = true
  sb : PySem.W.subIn K (.ref (He.ga K x)) (.type "BaseException") = some true
  ty : PySem.W.typeIn K (.ref (He.ga K x)) = some (.type "type")
theorem ds_raise {x : Str} {p p2 : Pos} (hc : X.calm = true) (tk : Takes X W) (c : ExcC X.K X.mg x) (hg : Gl X x) (hdb : (x == ("__debug__" : Str)) = false := by decide) : DS X W (.Raise (some (.Call (.Name x p) [] [] p2)) none pos) (sRaise x) :=
  (ps_raise hc tk (pmk_own0 PySem.F.excBase_ValueError c.ex c.gC c.kp (raises_own c.sb c.ty) hg hdb)).imp fun D σ H ⟨A, ρ, μ, m, rr, r, e, hp⟩ => by
    cases e
    exact hp none σ A H Ext.refl m rr
end
end Dn

set_option Elab.async false
set_option linter.all false
set_option maxRecDepth 100000
set_option maxHeartbeats 4000000
/-! DnJ: a def by its body. -/
namespace Dn
open PySem PySem.Spec L2
open PyProof.Rows hiding St

/-! ### what leaves a def: the lists of its own store stand still from then on -/
def fz : Nat → Nat → Mu → D → Option D
  | n + 1, k, μ, .tup l => match mapO (fz n k μ) l with
    | some ds => some (.tup ds)
    | none => none
  | n + 1, k, μ, .lst l => match mapO (fz n k μ) l with
    | some ds => some (.lst ds)
    | none => none
  | n + 1, k, μ, .fls l => match mapO (fz n k μ) l with
    | some ds => some (.fls ds)
    | none => none
  | n + 1, k, μ, .loc m => if m < k then some (.loc m) else match μ[m]? with
    | some (.lst l) => (match mapO (fz n k μ) l with
      | some ds => some (.lst ds)
      | none => none)
    | _ => none
  | 0, _, _, .tup _ => none
  | 0, _, _, .lst _ => none
  | 0, _, _, .fls _ => none
  | 0, _, _, .loc _ => none
  | _, _, _, .clo c q j y => some (.clo c q j y)
  | _, _, _, .non => some .non
  | _, _, _, .bl b => some (.bl b)
  | _, _, _, .int i => some (.int i)
  | _, _, _, .str x => some (.str x)
  | _, _, _, .fn x => some (.fn x)
def fzO (k : Nat) (μ : Mu) : MO → Option MO
  | .tab P q => some (.tab P q)
  | .dct kvs => match mapO (fz 40 k μ) (kvs.map (·.2)) with
    | some ds => some (.dct ((kvs.map (·.1)).zip ds))
    | none => none
  | .lst l => match mapO (fz 40 k μ) l with
    | some ds => some (.lst ds)
    | none => none
section
variable {K : PySem.W.Frag} {A A' : Wl} {μ : Mu} {H H' : Hp}
theorem mapO_rel {f : D → Option D} {A2 : Wl} (hf : ∀ v d d', DV K H A v d → f d = some d' → DV K H A2 v d') : ∀ {vs : List V} {ds es : List D}, DVs K H A vs ds → mapO f ds = some es → DVs K H A2 vs es
  | _, _, _, .nil, e => by
    cases e
    exact .nil
  | _, _, _, @DVs.cons _ _ _ v vs d ds h r, e => by
    unfold mapO at e
    cases h1 : f d with
    | none => simp [h1] at e
    | some p =>
      cases h2 : mapO f ds with
      | none => simp [h1, h2] at e
      | some qs =>
        simp [h1, h2] at e
        subst e
        exact .cons (hf v d p h h1) (mapO_rel hf r h2)
/-- A' is A and more -/
structure More (A A' : Wl) (k : Nat) : Prop where
  sub : ∃ B, A'.A = A.A ++ B ∧ ∀ a ∈ B, Fresh A a
  len : A.A.length = k
  F : ∀ a, Fresh A' a → Fresh A a
theorem More.out {A A' : Wl} {k : Nat} (m : More A A' k) {a : Addr} {j : Nat} (h : A'.A[j]? = some a) (hj : k ≤ j) : Fresh A a := by
  obtain ⟨B, e, f⟩ := m.sub
  rw [e, List.getElem?_append_right (by rw [m.len]; exact hj)] at h
  exact f a (List.mem_of_getElem? h)
theorem More.of {A A' : Wl} {μ : Mu} {H H' : Hp} (e : Ext A H A' H') (m : MuOk K A μ H) : More A A' A.A.length := by
  obtain ⟨B, eB, fB⟩ := e.sub
  exact ⟨⟨B, eB, fun a ha => m.fresh (fB a ha)⟩, rfl, fun a h => ⟨fun z => h.1 (e.mono a z), fun z => h.2 (by rw [eB]; exact List.mem_append_left _ z)⟩⟩
theorem fz_ok {k : Nat} (mo : More A A' k) (m : MuOk K A' μ H) : ∀ (n : Nat) (v : V) (d d' : D), DV K H A' v d → fz n k μ d = some d' → DV K H A v d' := by
  intro n
  induction n with
  | zero =>
    intro v d d' h e
    cases h with
    | non => cases e; exact .non
    | bl b => cases e; exact .bl b
    | int i => cases e; exact .int i
    | str x => cases e; exact .str x
    | fn x => cases e; exact .fn x
    | @clo f c' cells q j syn h1 f1 h2 f2 => cases e; exact .clo h1 (mo.F _ f1) h2 (mo.F _ f2)
    | _ => cases e
  | succ n ih =>
    intro v d d' h e
    cases h with
    | non => cases e; exact .non
    | bl b => cases e; exact .bl b
    | int i => cases e; exact .int i
    | str x => cases e; exact .str x
    | fn x => cases e; exact .fn x
    | @clo f c' cells q j syn h1 f1 h2 f2 => cases e; exact .clo h1 (mo.F _ f1) h2 (mo.F _ f2)
    | @tup a xs ds hp hx =>
      simp only [fz] at e
      cases q : mapO (fz n k μ) ds with
      | none => simp [q] at e
      | some es =>
        simp [q] at e
        subst e
        refine .tup ?_ (mapO_rel ih hx q)
        rcases hp with ⟨h, n⟩ | h
        · exact .inl ⟨h, mo.F a n⟩
        · exact .inr h
    | @lst a xs ds hp hx =>
      simp only [fz] at e
      cases q : mapO (fz n k μ) ds with
      | none => simp [q] at e
      | some es =>
        simp [q] at e
        subst e
        exact .lst ⟨hp.1, mo.F a hp.2⟩ (mapO_rel ih hx q)
    | @fls a xs ds hp hx =>
      simp only [fz] at e
      cases q : mapO (fz n k μ) ds with
      | none => simp [q] at e
      | some es =>
        simp [q] at e
        subst e
        refine .fls ?_ (mapO_rel ih hx q)
        rcases hp with ⟨h, n⟩ | h
        · exact .inl ⟨h, mo.F a n⟩
        · exact .inr h
    | @loc a j hj =>
      simp only [fz] at e
      by_cases c : j < k
      · rw [if_pos c] at e
        cases e
        obtain ⟨B, eB, _⟩ := mo.sub
        rw [eB, List.getElem?_append_left (by rw [mo.len]; exact c)] at hj
        exact .loc hj
      · rw [if_neg c] at e
        cases z : μ[j]? with
        | none => simp [z] at e
        | some o =>
          cases o with
          | tab _ _ => simp [z] at e
          | dct _ => simp [z] at e
          | lst l =>
            simp only [z] at e
            obtain ⟨xs, hl, hx⟩ := m.mo j a _ hj z
            cases q : mapO (fz n k μ) l with
            | none => simp [q] at e
            | some es =>
              simp [q] at e
              subst e
              exact .lst ⟨hl, mo.out hj (by omega)⟩ (mapO_rel ih hx q)
end
def cut (k : Nat) (μ : Mu) : Option Mu := mapO (fzO k μ) (μ.take k)
def fin (k : Nat) (d : D) (μ : Mu) : Option (R D) := if μ.length = k then some (.ok d μ) else match fz 40 k μ d with
  | none => none
  | some d' => match cut k μ with
    | none => none
    | some μ' => some (.ok d' μ')
def finX (k : Nat) (c : Str) (μ : Mu) : Option (R D) := if μ.length = k then some (.ex c μ) else match cut k μ with
  | none => none
  | some μ' => some (.ex c μ')
def startRo (n : Nat) (ds : List D) : Ro := ds.map some ++ List.replicate (n - ds.length) none
def runF (np n : Nat) (B : SF) : Gt := fun ds μ => if ds.length = np then (match B (startRo n ds) μ with
  | some (.nx _ μ') => fin μ.length .non μ'
  | some (.rt d μ') => fin μ.length d μ'
  | some (.ex c _ μ') => finX μ.length c μ'
  | _ => none) else none
section
variable {K : PySem.W.Frag} {A A' : Wl} {μ μ' : Mu} {H H' : Hp}
theorem mapO_get {α β : Type} {f : α → Option β} : ∀ {l : List α} {l' : List β} {i : Nat} {y : β}, mapO f l = some l' → l'[i]? = some y → ∃ x, l[i]? = some x ∧ f x = some y
  | [], l', i, y, e, h => by
    cases e
    simp at h
  | x :: r, l', i, y, e, h => by
    unfold mapO at e
    cases h1 : f x with
    | none => simp [h1] at e
    | some z =>
      cases h2 : mapO f r with
      | none => simp [h1, h2] at e
      | some zs =>
        simp [h1, h2] at e
        subst e
        cases i with
        | zero =>
          simp at h
          subst h
          exact ⟨x, rfl, h1⟩
        | succ i =>
          obtain ⟨w, a, b⟩ := mapO_get (i := i) h2 (by simpa using h)
          exact ⟨w, by simpa using a, b⟩
theorem mapO_len {α β : Type} {f : α → Option β} : ∀ {l : List α} {l' : List β}, mapO f l = some l' → l'.length = l.length
  | [], l', e => by
    cases e
    rfl
  | x :: r, l', e => by
    unfold mapO at e
    cases h1 : f x with
    | none => simp [h1] at e
    | some z =>
      cases h2 : mapO f r with
      | none => simp [h1, h2] at e
      | some zs =>
        simp [h1, h2] at e
        subst e
        simp [mapO_len h2]
theorem Ext.drop (e : Ext A H A' H') : Ext A H A H' := ⟨⟨[], by simp⟩, fun _ h => h, e.keep, fun _ _ _ n => n, e.there⟩
theorem ints_back {A A' : Wl} {H : Hp} : ∀ {vs : List V} {ns : List Int}, DVs K H A' vs (ns.map D.int) → DVs K H A vs (ns.map D.int)
  | _, [], .nil => .nil
  | _, n :: ns, .cons h r => by
    cases h
    exact .cons (.int n) (ints_back r)
theorem keys_back {A A' : Wl} {k : Nat} {H : Hp} (mo : More A A' k) : ∀ {xs : List (List Int × Addr × V)}, DVs K H A' (xs.map fun x => V.ref x.2.1) (xs.map fun x => keyD x.1) → DVs K H A (xs.map fun x => V.ref x.2.1) (xs.map fun x => keyD x.1)
  | [], .nil => .nil
  | (ns, a, w) :: xs, .cons h r => by
    refine .cons ?_ (keys_back mo r)
    have h : DV K H A' (.ref a) (keyD ns) := h
    show DV K H A (.ref a) (keyD ns)
    obtain ⟨ys, hp, hx⟩ := DVs.unique h
    refine .tup ?_ (ints_back hx)
    rcases hp with ⟨h, n⟩ | h
    · exact .inl ⟨h, mo.F _ n⟩
    · exact .inr h
theorem cut_ok (e : Ext A H A' H') (m0 : MuOk K A μ H) (m : MuOk K A' μ' H') {μ2 : Mu} (q : cut A.A.length μ' = some μ2) : MuOk K A μ2 H' := by
  obtain ⟨B, eB, _⟩ := e.sub
  have hl : A.A.length ≤ μ'.length := by
    rw [← m.len, eB, List.length_append]
    omega
  refine ⟨m0.nd, ?_, m0.sub, fun a ha => m.there a (e.mono a ha), fun j a o h1 h2 => ?_⟩
  · have := mapO_len q
    rw [List.length_take] at this
    omega
  · obtain ⟨x, z, fx⟩ := mapO_get q h2
    have hj : j < A.A.length := (List.getElem?_eq_some_iff.mp h1).1
    rw [List.getElem?_take_of_lt hj] at z
    have h1' : A'.A[j]? = some a := by
      rw [eB, List.getElem?_append_left hj]
      exact h1
    have mk := m.mo j a x h1' z
    cases x with
    | tab P q =>
      cases fx
      obtain ⟨rfl, ps, p1, p2, p3⟩ := mk
      refine ⟨rfl, ps, p1, p2, fun pos cv hc => ?_⟩
      obtain ⟨c, c1, c2, c3⟩ := p3 pos cv hc
      exact ⟨c, c1, c2, (More.of e m0).F _ c3⟩
    | dct kvs =>
      obtain ⟨xs, h1, h2', h3, h4⟩ := mk
      unfold fzO at fx
      cases y : mapO (fz 40 A.A.length μ') (kvs.map (·.2)) with
      | none => simp [y] at fx
      | some es =>
        simp [y] at fx
        subst fx
        have hle : es.length = kvs.length := by
          rw [mapO_len y, List.length_map]
        refine ⟨xs, h1, ?_, keys_back (More.of e m0) h3, ?_⟩
        · rw [List.map_fst_zip (by rw [List.length_map]; omega), h2']
        · rw [List.map_snd_zip (by rw [List.length_map]; omega)]
          exact mapO_rel (fun v d d' hv hd => fz_ok (More.of e m0) m 40 v d d' hv hd) h4 y
    | lst l =>
      obtain ⟨xs, hl, hx⟩ := mk
      unfold fzO at fx
      cases y : mapO (fz 40 A.A.length μ') l with
      | none => simp [y] at fx
      | some es =>
        simp [y] at fx
        subst fx
        exact ⟨xs, hl, mapO_rel (fun v d d' hv hd => fz_ok (More.of e m0) m 40 v d d' hv hd) hx y⟩
theorem Ext.fit (e : Ext A H A' H') (hl : A'.A.length = A.A.length) : A'.A = A.A := by
  obtain ⟨B, eB, _⟩ := e.sub
  rw [eB] at hl ⊢
  have : B = [] := by
    cases B with
    | nil => rfl
    | cons b B => simp at hl
  rw [this, List.append_nil]
end
/-- a body keeps a promise -/
theorem runF_ok {K : PySem.W.Frag} {E : XK} {np : Nat} {N : List Str} {B : SF} {vs : List V} {H : Hp} {Q : VK} (h : spD K (runF np N.length B) vs H Q E) (hN : np ≤ N.length) :
    vs.length = np ∧ tS K (fun cls d _ H' => E cls d H') B { nx := fun _ H' => Q .non H', rt := Q } (L2.start N vs) H := by
  obtain ⟨A, ds, μ, m, rl, r, e, hp⟩ := h
  unfold runF at e
  by_cases c : ds.length = np
  · rw [if_pos c] at e
    have hv : vs.length = np := by
      rw [rl.length]
      exact c
    refine ⟨hv, A, startRo N.length ds, μ, m, ⟨?_, fun i d hi => ?_⟩, ?_⟩
    · unfold startRo L2.start
      simp [rl.length]
    · unfold startRo at hi
      by_cases hl : i < ds.length
      · rw [List.getElem?_append_left (by simpa using hl), List.getElem?_map] at hi
        cases q : ds[i]? with
        | none => simp [q] at hi
        | some d2 =>
          simp [q] at hi
          subst hi
          obtain ⟨v, h1, h2⟩ := rl.get q
          refine ⟨v, ?_, h2⟩
          unfold L2.start
          rw [List.getElem?_append_left (by rw [List.length_map, rl.length]; exact hl), List.getElem?_map, h1]
          rfl
      · rw [List.getElem?_append_right (by simpa using hl), List.getElem?_replicate] at hi
        split at hi <;> cases hi
    · have back : ∀ {A' : Wl} {H' : Hp} {d : D} {μ' : Mu} {r : R D}, fin μ.length d μ' = some r → Ext A H A' H' → MuOk K A' μ' H' → ∀ v, DV K H' A' v d → Post K (fun c d H' => E c d H') A H (rD K) r Q → Q v H' := fun {A' H' d μ' r} e ex m' v hv hp => by
        unfold fin at e
        by_cases c : μ'.length = μ.length
        · rw [if_pos c] at e
          cases e
          exact hp v A' H' ex m' hv
        · rw [if_neg c] at e
          rw [← m.len] at e
          cases y : fz 40 A.A.length μ' d with
          | none => simp [y] at e
          | some d' =>
            cases z : cut A.A.length μ' with
            | none => simp [y, z] at e
            | some μ2 =>
              simp [y, z] at e
              subst e
              exact hp v A H' ex.drop (cut_ok ex m m' z) (fz_ok (More.of ex m) m' 40 v d d' hv y)
      have backX : ∀ {A' : Wl} {H' : Hp} {x : Str} {μ' : Mu} {r : R D} {dd : Option Addr}, finX μ.length x μ' = some r → Ext A H A' H' → MuOk K A' μ' H' → Post K (fun c d H' => E c d H') A H (rD K) r Q → E (.ref (He.ga K x)) dd H' := fun {A' H' x μ' r dd} e ex m' hp => by
        unfold finX at e
        by_cases c : μ'.length = μ.length
        · rw [if_pos c] at e
          cases e
          exact hp dd A' H' ex m'
        · rw [if_neg c] at e
          rw [← m.len] at e
          cases z : cut A.A.length μ' with
          | none => simp [z] at e
          | some μ2 =>
            simp [z] at e
            subst e
            exact hp dd A H' ex.drop (cut_ok ex m m' z)
      cases q : B (startRo N.length ds) μ with
      | none => simp [q] at e
      | some z =>
        refine ⟨z, rfl, ?_⟩
        rw [q] at e
        cases z with
        | nx ρ μ' => exact fun σ' A' H' ex m' r' => back e ex m' .non .non hp
        | rt d μ' => exact fun v A' H' ex m' r' => back e ex m' v r' hp
        | ex x ρ μ' => exact fun dd σ' A' H' ex m' r' => backX e ex m' hp
        | _ => simp at e
  · rw [if_neg c] at e
    cases e
theorem takes_cx {P : Program} {w : World} {K : PySem.W.Frag} {mg : Str → Option Value} {base : Heap} {N : List Str} {qual : Str} {scope : Scope} {f : Addr} {cd : Value} {A : Around} {outer : List Env} {s : Shared} {H : Hp} {E : XK} :
    Takes (cxOf (L2.CX P w) P w K mg base N qual scope f cd A outer s H E) (fun cls d _ H' => E cls d H') := takes_of rfl rfl rfl rfl
theorem passes_cx {P : Program} {w : World} {K : PySem.W.Frag} {mg : Str → Option Value} {base : Heap} {N : List Str} {qual : Str} {scope : Scope} {f : Addr} {cd : Value} {A : Around} {outer : List Env} {s : Shared} {H : Hp} {E : XK} :
    PassesOwn (model P w) (cxOf (L2.CX P w) P w K mg base N qual scope f cd A outer s H E).A (cxOf (L2.CX P w) P w K mg base N qual scope f cd A outer s H E).env (cxOf (L2.CX P w) P w K mg base N qual scope f cd A outer s H E).xe := passes_of (X := cxOf (L2.CX P w) P w K mg base N qual scope f cd A outer s H E) rfl
/-- THE RULE for a def -/
theorem cal_of {P : Program} {w : World} {K : PySem.W.Frag} {mg : Str → Option Value} {base : Heap} {x nm qual : Str} {params : Arguments} {body : List Stmt} {scope : Scope} {fd : FuncData} {N ps : List Str} {k : Nat} {B : SF}
    (F : FunD K nm qual params body scope [] [] (He.ga K x) fd) (S : FnScope N ps scope) (b : Binds K fd ps [])
    (hbody : ∀ (cdv : Value) (A : Around) (outer : List Env) (s : Shared) (H : Hp) (E : XK), Room k (A.deeper (envOfC qual scope s.heap.objs.size (He.ga K x) cdv)) →
      DSs (cxOf (L2.CX P w) P w K mg base N qual scope (He.ga K x) cdv A outer s H E) (fun cls d _ H' => E cls d H') body B) :
    Cal P w K mg base (k + 1) x (runF ps.length N.length B) := by
  have hN : ps.length ≤ N.length := by
    have := congrArg List.length S.pre
    rw [List.length_take] at this
    omega
  exact ⟨fd, ps, F.ok S (fun vs H Q E h => (runF_ok h hN).1) (fun cdv A outer s H vs Q E hr h => ⟨_, hbody cdv A outer s H E hr, (runF_ok h hN).2⟩), F.kp, b⟩
end Dn

set_option Elab.async false
set_option linter.all false
set_option maxRecDepth 100000
set_option maxHeartbeats 4000000
/-! DnK: loops, comprehensions. -/
namespace Dn
open PySem PySem.Spec L2
open PyProof.Rows hiding St

abbrev Wk := List D × Option Nat
/-- a list of the store that is walked stands still meanwhile -/
def hold (l : List D) : Option Nat → Mu → Prop
  | none, _ => True
  | some n, μ => μ[n]? = some (.lst l)
@[simp] theorem hold_none (l : List D) (μ : Mu) : hold l none μ = True := rfl
@[simp] theorem hold_some (l : List D) (n : Nat) (μ : Mu) : hold l (some n) μ = (μ[n]? = some (.lst l)) := rfl
open Classical in
noncomputable def guardH {α : Type} (l : List D) (lk : Option Nat) (μ : Mu) (x : Option α) : Option α := match lk with
  | none => x
  | some n => if μ[n]? = some (.lst l) then x else none
@[simp] theorem guardH_none {α : Type} (l : List D) (μ : Mu) (x : Option α) : guardH l none μ x = x := rfl
theorem guardH_pos {α : Type} {l : List D} {lk : Option Nat} {μ : Mu} {x : Option α} (h : hold l lk μ) : guardH l lk μ x = x := by
  cases lk with
  | none => rfl
  | some n => exact if_pos h
theorem guardH_inv {α : Type} {l : List D} {lk : Option Nat} {μ : Mu} {x : Option α} {y : α} (h : guardH l lk μ x = some y) : hold l lk μ ∧ x = some y := by
  cases lk with
  | none => exact ⟨True.intro, h⟩
  | some n =>
    unfold guardH at h
    simp only at h
    by_cases c : μ[n]? = some (.lst l)
    · rw [if_pos c] at h
      exact ⟨c, h⟩
    · rw [if_neg c] at h
      cases h
/-- the iterator hands out these -/
structure Feeds (K : PySem.W.Frag) (J : It) (l : List D) (lk : Option Nat) (A0 : Wl) (H0 : Hp) : Prop where
  go : ∀ i A H μ, Ext A0 H0 A H → MuOk K A μ H → hold l lk μ → i < l.length → J.go i H
  stop : ∀ i A H μ, Ext A0 H0 A H → MuOk K A μ H → hold l lk μ → l.length ≤ i → J.stop i H
  yld : ∀ i A H μ x H' d, Ext A0 H0 A H → MuOk K A μ H → hold l lk μ → l[i]? = some d → J.yld i H x H' → Ext A H A H' ∧ MuOk K A μ H' ∧ DV K H' A x d
theorem Feeds.ext {K : PySem.W.Frag} {J : It} {l : List D} {lk : Option Nat} {A0 A : Wl} {H0 H : Hp} (F : Feeds K J l lk A0 H0) (e : Ext A0 H0 A H) : Feeds K J l lk A H :=
  ⟨fun i A' H' μ e' => F.go i A' H' μ (e.trans e'), fun i A' H' μ e' => F.stop i A' H' μ (e.trans e'), fun i A' H' μ x H'' d e' => F.yld i A' H' μ x H'' d (e.trans e')⟩
theorem feeds_list {K : PySem.W.Frag} {A : Wl} {H : Hp} {a : Addr} {l : List D} {lk : Option Nat} (h : ∀ A' H' μ, Ext A H A' H' → MuOk K A' μ H' → hold l lk μ → ∃ xs, SqL K H' a xs ∧ DVs K H' A' xs l) : Feeds K (Itl K a) l lk A H where
  go := fun i A' H' μ e m hd hi => by
    obtain ⟨xs, h1, hx⟩ := h A' H' μ e m hd
    have hi2 : i < xs.length := by rw [hx.length]; exact hi
    exact ⟨xs, xs[i], h1, List.getElem?_eq_getElem hi2⟩
  stop := fun i A' H' μ e m hd hi => by
    obtain ⟨xs, h1, hx⟩ := h A' H' μ e m hd
    exact ⟨xs, h1, by rw [hx.length]; exact hi⟩
  yld := fun i A' H' μ x H'' d e m hk hd y => by
    obtain ⟨xs, h0, hx⟩ := h A' H' μ e m hk
    obtain ⟨rfl, y⟩ := y
    obtain ⟨v, h1, h2⟩ := hx.get hd
    have := y xs h0
    rw [h1] at this
    cases this
    exact ⟨Ext.refl, m, h2⟩
theorem feeds_tup {K : PySem.W.Frag} {A : Wl} {H : Hp} {a : Addr} {xs : List V} {l : List D} (h : ∀ A' H', Ext A H A' H' → SqT K H' a xs) (hx : DVs K H A xs l) : Feeds K (Itt K a) l none A H where
  go := fun i A' H' μ e m _ hi => by
    have hi2 : i < xs.length := by rw [hx.length]; exact hi
    exact ⟨xs, xs[i], h A' H' e, List.getElem?_eq_getElem hi2⟩
  stop := fun i A' H' μ e m _ hi => ⟨xs, h A' H' e, by rw [hx.length]; exact hi⟩
  yld := fun i A' H' μ x H'' d e m _ hd y => by
    obtain ⟨rfl, y⟩ := y
    obtain ⟨v, h1, h2⟩ := hx.get hd
    have := y xs (h A' _ e)
    rw [h1] at this
    cases this
    exact ⟨Ext.refl, m, h2.ext e⟩
def rangeD (lo : Int) (n : Nat) : List D := (List.range n).map fun i => D.int (lo + (i : Nat))
theorem feeds_range {K : PySem.W.Frag} {A : Wl} {H : Hp} {lo : Int} {n : Nat} : Feeds K (Itr lo n) (rangeD lo n) none A H where
  go := fun i A' H' μ e m _ hi => by
    have : i < n := by simpa [rangeD] using hi
    exact this
  stop := fun i A' H' μ e m _ hi => by
    have : n ≤ i := by simpa [rangeD] using hi
    exact this
  yld := fun i A' H' μ x H'' d e m _ hd y => by
    obtain ⟨rfl, rfl⟩ := y
    have hi : i < n := by
      have := (List.getElem?_eq_some_iff.mp hd).1
      simpa [rangeD] using this
    have : d = .int (lo + (i : Nat)) := by
      unfold rangeD at hd
      rw [List.getElem?_map, List.getElem?_range hi] at hd
      exact (Option.some.inj hd).symm
    subst this
    exact ⟨Ext.refl, m, .int _⟩

/-! ### for -/
noncomputable def loopF (w : Wk) (g : GF) (b : SF) : List D → SF
  | [], ρ, μ => guardH w.1 w.2 μ (some (.nx ρ μ))
  | d :: ds, ρ, μ => guardH w.1 w.2 μ (match g d ρ with
    | none => none
    | some ρ1 => match b ρ1 μ with
      | some (.nx ρ2 μ2) => loopF w g b ds ρ2 μ2
      | some (.ct ρ2 μ2) => loopF w g b ds ρ2 μ2
      | some (.bk ρ2 μ2) => some (.nx ρ2 μ2)
      | r => r)
section
variable {K : PySem.W.Frag} {W : WX} {J : It} {l : List D} {lk : Option Nat} {A0 : Wl} {H0 : Hp} {g : GF} {ss : List Nat} {b : SF}
theorem for_feeds {ρ : Ro} {μ : Mu} {σ : St} {D : Ends} (F : Feeds K J l lk A0 H0) (h : AtS K W A0 H0 (loopF (l, lk) g b l ρ μ) D) (m : MuOk K A0 μ H0) (rr : RhoOk K A0 ρ σ H0) :
    ∃ Wv : Nat → Nat → St → Hp → Prop, (∃ n, Wv 0 n σ H0) ∧ ∀ i n σ H, Wv i n σ H →
      (J.stop i H ∧ D.nx σ H) ∨ (J.go i H ∧ ∃ N : St → Hp → Prop, (∀ σ' H', N σ' H' → ∃ n', n' < n ∧ Wv (i + 1) n' σ' H') ∧ ∀ x H', J.yld i H x H' → tT K ss g x σ H' fun σ2 H2 => tS K W b { D with nx := N, ct := N, bk := D.nx } σ2 H2) := by
  refine ⟨fun i n σ H => ∃ A ρ μ, Ext A0 H0 A H ∧ MuOk K A μ H ∧ RhoOk K A ρ σ H ∧ n = l.length - i ∧ i ≤ l.length ∧ AtS K W A H (loopF (l, lk) g b (l.drop i) ρ μ) D, ⟨l.length, A0, ρ, μ, Ext.refl, m, rr, by simp, Nat.zero_le _, by simpa using h⟩, ?_⟩
  rintro i n σ H ⟨A, ρ, μ, e, m, rr, rfl, hi, r, er, hp⟩
  by_cases hlt : i < l.length
  · rw [List.drop_eq_getElem_cons hlt] at er
    simp only [loopF] at er
    obtain ⟨hk, er⟩ := guardH_inv er
    refine .inr ⟨F.go i A H μ e m hk hlt, fun σ' H' => ∃ A' ρ' μ', Ext A0 H0 A' H' ∧ MuOk K A' μ' H' ∧ RhoOk K A' ρ' σ' H' ∧ AtS K W A' H' (loopF (l, lk) g b (l.drop (i + 1)) ρ' μ') D, fun σ' H' ⟨A', ρ', μ', e', m', r', h'⟩ => ⟨l.length - (i + 1), by omega, A', ρ', μ', e', m', r', rfl, hlt, h'⟩, fun x H' y => ?_⟩
    obtain ⟨x1, m1, dv⟩ := F.yld i A H μ x H' l[i] e m hk (List.getElem?_eq_getElem hlt) y
    cases q : g l[i] ρ with
    | none => simp [q] at er
    | some ρ1 =>
      refine ⟨A, ρ, l[i], ρ1, rr.ext x1, dv, q, fun σ1 r1 _ => ⟨A, ρ1, μ, m1, r1, ?_⟩⟩
      simp only [q] at er
      cases z : b ρ1 μ with
      | none => simp [z] at er
      | some w =>
        refine ⟨w, rfl, ?_⟩
        rw [z] at er
        have hp1 : PostS K W A H' r D := hp.mono x1
        have e1 := e.trans x1
        cases w with
        | nx ρ2 μ2 => exact fun σ' A' H'' e' m' r' => ⟨A', ρ2, μ2, e1.trans e', m', r', r, er, hp1.mono e'⟩
        | ct ρ2 μ2 => exact fun σ' A' H'' e' m' r' => ⟨A', ρ2, μ2, e1.trans e', m', r', r, er, hp1.mono e'⟩
        | bk ρ2 μ2 =>
          cases er
          exact hp1
        | rt d μ2 =>
          cases er
          exact hp1
        | ex c ρ2 μ2 =>
          cases er
          exact hp1
  · have : i = l.length := by omega
    subst this
    rw [List.drop_length] at er
    simp only [loopF] at er
    obtain ⟨hk, er⟩ := guardH_inv er
    cases er
    exact .inl ⟨F.stop _ A H μ e m hk (Nat.le_refl _), hp σ A H Ext.refl m rr⟩
end
/-- what is walked over: nothing that is turned meanwhile -/
def itemsI : D → Option (List D)
  | .tup l => some l
  | .lst l => some l
  | .fls l => some l
  | _ => none
abbrev Src := Ro → M Wk
abbrev rF (K : PySem.W.Frag) : Hp → Wl → It → Wk → Prop := fun H A J l => Feeds K J l.1 l.2 A H
def itemsM : D → M Wk
  | .tup l => M.ret (l, none)
  | .lst l => M.ret (l, none)
  | .fls l => M.ret (l, none)
  | .loc n => fun μ => match μ[n]? with
    | some (.lst l) => some (.ok (l, some n) μ)
    | _ => none
  | _ => fail
abbrev DI (X : Cx) (W : WX) (tg e : Expr) (src : Src) : Prop := PI X tg e (tG X.K W (rF X.K) src)
def srcI (f : Ro → M D) : Src := fun ρ => M.bnd (f ρ) itemsM
def srcR1 (f : Ro → M D) : Src := fun ρ => M.bnd (f ρ) fun d => match d with
  | .int n => if (decide (-1000000 < n) && decide (n < 1000000)) = true then M.ret (rangeD 0 n.toNat, none) else fail
  | _ => fail
def srcR2 (f f2 : Ro → M D) : Src := fun ρ => M.bnd (f ρ) fun d => M.bnd (f2 ρ) fun d2 => match d, d2 with
  | .int lo, .int n => if (decide (-1000000 < n) && decide (n < 1000000) && decide (-1000000 < lo) && decide (lo < 1000000)) = true then M.ret (rangeD lo (n - lo).toNat, none) else fail
  | _, _ => fail
noncomputable def sFor (src : Src) (g : GF) (b : SF) : SF := fun ρ => bndS (src ρ) ρ fun l => loopF l g b l.1 ρ
/-- a row of either kind, walked -/
def iAny (K : PySem.W.Frag) (tl : TE) : TI := fun σ H R => tl σ H fun x H1 => ∃ a, x = .ref a ∧ (((∃ xs, SqL K H1 a xs) ∧ R (Itl K a) H1) ∨ ((∃ xs, SqT K H1 a xs) ∧ R (Itt K a) H1))
section
variable {X : Cx} {tg : Expr}
theorem pi_any {l : Expr} {tl : TE} (hl : PE X l tl) : PI X tg l (iAny X.K tl) := by
  refine ⟨fun pins s σ H R I h => ?_⟩
  refine thn (hl.run pins s σ H _ I h) fun v s1 ⟨x, H1, I1, r1, q1⟩ => ?_
  obtain ⟨a, e, h | h⟩ := q1
  · subst e
    cases r1
    obtain ⟨⟨xs, hq⟩, q⟩ := h
    obtain ⟨its, rv, p, hz⟩ := I1.list hq
    refine wpAny_pyIter_list p.isList ?_
    refine ⟨s1.heap.objs.size, [s1.heap.objs.size], _, _, H1, rfl, I1.kept (t' := s1.toks) fun b o e => Heap.get?_push_of_some _ e, turn_list a _, ⟨_, Heap.get?_push_size _ rfl, rfl, rfl⟩, fun b hb => ?_, q⟩
    have e : b = s1.heap.objs.size := by simpa using hb
    subst e
    exact I1.fpOk (Nat.le_refl _) (I1.hok.fresh (Nat.le_refl _))
  · subst e
    cases r1
    obtain ⟨⟨xs, hq⟩, q⟩ := h
    obtain ⟨its, rv, p, hz⟩ := I1.tuple hq
    refine wpAny_pyIter_tuple (show s1.heap.IsTuple a its.toArray from p) ?_
    refine ⟨s1.heap.objs.size, [s1.heap.objs.size], _, _, H1, rfl, I1.kept (t' := s1.toks) fun b o e => Heap.get?_push_of_some _ e, turn_tuple a _, ⟨_, Heap.get?_push_size _ rfl, rfl, rfl⟩, fun b hb => ?_, q⟩
    have e : b = s1.heap.objs.size := by simpa using hb
    subst e
    exact I1.fpOk (Nat.le_refl _) (I1.hok.fresh (Nat.le_refl _))
end
/-- a row feeds a walk -/
theorem row_feeds {K : PySem.W.Frag} {A : Wl} {H : Hp} {E : XK} {μ : Mu} {v : V} {d : D} {R : It → Hp → Prop} (m : MuOk K A μ H) (h : DV K H A v d) (e : At K E A μ H (rF K) (itemsM d) R) :
    ∃ a, v = .ref a ∧ (((∃ xs, SqL K H a xs) ∧ R (Itl K a) H) ∨ ((∃ xs, SqT K H a xs) ∧ R (Itt K a) H)) := by
  cases h with
  | @tup a xs ds hp hx => exact ⟨a, rfl, .inr ⟨⟨xs, hp.sq⟩, e.ret m (feeds_tup (fun A' H' e' => (hp.ext e').sq) hx)⟩⟩
  | @lst a xs ds hp hx => exact ⟨a, rfl, .inl ⟨⟨xs, hp.sq⟩, e.ret m (feeds_list (fun A' H' μ' e' _ _ => ⟨xs, (hp.ext e').sq, hx.ext e'⟩))⟩⟩
  | @fls a xs ds hp hx => exact ⟨a, rfl, .inl ⟨⟨xs, hp.sq⟩, e.ret m (feeds_list (fun A' H' μ' e' _ _ => ⟨xs, (hp.ext e').sq, hx.ext e'⟩))⟩⟩
  | @loc a n hl =>
    obtain ⟨r, er, hp⟩ := e
    unfold itemsM at er
    simp only at er
    cases q : μ[n]? with
    | none => simp [q] at er
    | some z =>
      cases z with
      | tab _ _ => simp [q] at er
      | dct _ => simp [q] at er
      | lst l =>
        simp [q] at er
        subst er
        obtain ⟨xs, h1, h2⟩ := m.mo n a _ hl q
        refine ⟨a, rfl, .inl ⟨⟨xs, .inl (.inl h1)⟩, hp _ A H Ext.refl m (feeds_list fun A' H' μ' e' m' hk => ?_)⟩⟩
        obtain ⟨xs', h1', h2'⟩ := m'.mo n a _ (e'.get hl) hk
        exact ⟨xs', .inl (.inl h1'), h2'⟩
  | _ => exact e.no.elim
section
variable {X : Cx} {W : WX} {pos : Pos} {tg e : Expr} {body : List Stmt} {f f2 : Ro → M D} {g : GF} {b : SF}
theorem _root_.L2.PI.imp {X : Cx} {tg e : Expr} {t t' : TI} (h : PI X tg e t) (k : ∀ σ H R, t' σ H R → t σ H R) : PI X tg e t' := ⟨fun pins s σ H R I q => h.run pins s σ H R I (k σ H R q)⟩
theorem di_any (he : DE X W e f) : DI X W tg e (srcI f) := (pi_any he).imp fun σ H R h => tG.bnd h fun A ρ d μ v H1 m rr rl h1 => by
  exact row_feeds (R := R) m rl h1
theorem di_range1 {a : Expr} {p p2 : Pos} (hgr : Gl X "range") (hm : X.mg "range" = none) (he : DE X W a f) (hs1 : starEach [a] X.env = [(false, eval a X.env)] := by rfl) : DI X W tg (.Call (.Name "range" p) [a] [] p2) (srcR1 f) :=
  (pi_range1 hgr hm (pa_cons he pa_nil (by rw [hs1] <;> rfl)) hs1).imp fun σ H R h => tG.bnd h fun A ρ d μ v H1 m rr rl h1 => by
    cases rl with
    | int n =>
      obtain ⟨c, h2⟩ := At.guard h1
      simp only [Bool.and_eq_true, decide_eq_true_eq] at c
      exact ⟨n, rfl, by omega, by omega, h2.ret m feeds_range⟩
    | _ => exact h1.no.elim
theorem di_range2 {a a2 : Expr} {p p2 : Pos} (hgr : Gl X "range") (hm : X.mg "range" = none) (he : DE X W a f) (he2 : DE X W a2 f2)
    (hs1 : starEach [a, a2] X.env = (false, eval a X.env) :: starEach [a2] X.env := by rfl) (hs2 : starEach [a2] X.env = (false, eval a2 X.env) :: starEach [] X.env := by rfl) (hs3 : starEach [a, a2] X.env = [(false, eval a X.env), (false, eval a2 X.env)] := by rfl) (hs4 : starEach [a2] X.env = [(false, eval a2 X.env)] := by rfl) :
    DI X W tg (.Call (.Name "range" p) [a, a2] [] p2) (srcR2 f f2) :=
  (pi_range2 hgr hm (pa_cons he (pa_cons he2 pa_nil hs2) hs1) hs3 hs4).imp fun σ H R h => tG.bnd h fun A ρ d μ v H1 m rr rl h1 => ⟨A, ρ, μ, m, rr, At.bnd h1 fun d2 μ2 v2 A2 H2 x2 m2 rl2 h2 => by
    cases rl with
    | int lo => cases rl2 with
      | int n =>
        obtain ⟨c, h3⟩ := At.guard h2
        simp only [Bool.and_eq_true, decide_eq_true_eq] at c
        exact ⟨lo, n, rfl, by omega, h3.ret m2 feeds_range⟩
      | _ => exact h2.no.elim
    | _ => cases rl2 <;> exact h2.no.elim⟩
theorem ds_for {ss : List Nat} {src : Src} (hp : PassesOwn (model X.prog X.w) X.A X.env X.xe) (hc : X.calm = true) (he : DI X W tg e src) (hg : DG X tg ss g) (hb : DSs X W body b) (hs : ∀ x, foldedSetIterable e X.env x = pure x := by intro _; rfl) : DS X W (.For tg e body [] pos) (sFor src g b) :=
  (ps_for hp hc he hg hb hs).imp fun D σ H h => tS.bnd h fun A ρ l μ J H1 m rr F h1 => for_feeds F h1 m rr
end
/-! ### while -/
def whileF (t : Ro → M Bool) (b : SF) : Nat → SF
  | 0, _, _ => none
  | n + 1, ρ, μ => bndS (t ρ) ρ (fun c μ1 => if c = true then (match b ρ μ1 with
    | some (.nx ρ2 μ2) => whileF t b n ρ2 μ2
    | some (.ct ρ2 μ2) => whileF t b n ρ2 μ2
    | some (.bk ρ2 μ2) => some (.nx ρ2 μ2)
    | r => r) else some (.nx ρ μ1)) μ
section
variable {X : Cx} {W : WX} {pos : Pos} {c : Expr} {body : List Stmt} {t : Ro → M Bool} {b : SF}
theorem ds_while (n : Nat) (hp : PassesOwn (model X.prog X.w) X.A X.env X.xe) (hc : DT X W c t) (hb : DSs X W body b) : DS X W (.While c body [] pos) (whileF t b n) :=
  (ps_while hp hc hb).imp fun D σ H ⟨A, ρ, μ, m, rr, h⟩ => by
    refine ⟨fun k σ H => ∃ A ρ μ, MuOk X.K A μ H ∧ RhoOk X.K A ρ σ H ∧ AtS X.K W A H (whileF t b k ρ μ) D, ⟨n, A, ρ, μ, m, rr, h⟩, ?_⟩
    rintro k σ H ⟨A, ρ, μ, m, rr, h⟩
    cases k with
    | zero =>
      obtain ⟨_, e, _⟩ := h
      cases e
    | succ k =>
      refine ⟨A, ρ, μ, m, rr, AtS.bnd rr h fun a μ1 v A1 H1 x1 m1 rl h1 => ?_⟩
      cases (show v = a from rl)
      cases a with
      | false =>
        refine iteF ?_
        obtain ⟨r, e, hp⟩ := h1
        cases e
        exact hp σ A1 H1 Ext.refl m1 (rr.ext x1)
      | true =>
        refine iteT ⟨fun σ' H' => ∃ A' ρ' μ', MuOk X.K A' μ' H' ∧ RhoOk X.K A' ρ' σ' H' ∧ AtS X.K W A' H' (whileF t b k ρ' μ') D, fun σ' H' q => ⟨k, Nat.lt_succ_self _, q⟩, A1, ρ, μ1, m1, rr.ext x1, ?_⟩
        obtain ⟨r, er, hp1⟩ := h1
        simp only [if_true] at er
        cases z : b ρ μ1 with
        | none => simp [z] at er
        | some w =>
          refine ⟨w, rfl, ?_⟩
          rw [z] at er
          cases w with
          | nx ρ2 μ2 => exact fun σ' A' H'' e' m' r' => ⟨A', ρ2, μ2, m', r', r, er, hp1.mono e'⟩
          | ct ρ2 μ2 => exact fun σ' A' H'' e' m' r' => ⟨A', ρ2, μ2, m', r', r, er, hp1.mono e'⟩
          | bk ρ2 μ2 =>
            cases er
            exact hp1
          | rt d μ2 =>
            cases er
            exact hp1
          | ex c ρ2 μ2 =>
            cases er
            exact hp1
end
end Dn

set_option Elab.async false
set_option linter.all false
set_option maxRecDepth 100000
set_option maxHeartbeats 4000000
/-! DnL: comprehensions. -/
namespace Dn
open PySem PySem.Spec L2
open PyProof.Rows hiding St

noncomputable def compF (w : Wk) (g : GF) (t : Ro → M Bool) (e : Ro → M D) : List D → Ro → M (List D)
  | [], _ => fun μ => guardH w.1 w.2 μ (some (.ok [] μ))
  | d :: ds, ρ => fun μ => guardH w.1 w.2 μ (match g d ρ with
    | none => none
    | some ρ1 => M.bnd (t ρ1) (fun c => if c = true then M.bnd (e ρ1) fun y => M.bnd (compF w g t e ds ρ) fun ys => M.ret (y :: ys) else compF w g t e ds ρ) μ)
def noX {α : Type} (m : M α) : M α := fun μ => match m μ with
  | some (.ok a μ1) => some (.ok a μ1)
  | _ => none
@[simp] theorem noX_ret {α : Type} (a : α) : noX (M.ret a) = M.ret a := rfl
def wipeR (ρ : Ro) : List Nat → Ro
  | [] => ρ
  | v :: vs => (wipeR ρ vs).set v none
noncomputable def eComp (src : Src) (g : GF) (t : Ro → M Bool) (e : Ro → M D) (vs : List Nat) : Ro → M D := fun ρ => M.bnd (src ρ) fun l => if small l.1.length = true then M.bnd (noX (compF l g t e l.1 (wipeR ρ vs))) fun ys => M.ret (.lst ys) else fail
/-- .. the new list joins the store -/
def retN (ys : List D) : M D := fun μ => some (.ok (.loc μ.length) (μ ++ [.lst ys]))
noncomputable def eCompN (src : Src) (g : GF) (t : Ro → M Bool) (e : Ro → M D) (vs : List Nat) : Ro → M D := fun ρ => M.bnd (src ρ) fun l => if small l.1.length = true then M.bnd (noX (compF l g t e l.1 (wipeR ρ vs))) fun ys => retN ys else fail
section
variable {K : PySem.W.Frag} {A A2 : Wl} {μ : Mu} {H : Hp}
theorem RhoOk.wipes {ρ : Ro} {σ : St} (r : RhoOk K A ρ σ H) : ∀ vs : List Nat, RhoOk K A (wipeR ρ vs) (L2.wipe σ vs) H
  | [] => r
  | v :: vs => (RhoOk.wipes r vs).wipe v
theorem wipe_out (τ : St) : ∀ (ws : List Nat) (j : Nat), j ∉ ws → (L2.wipe τ ws)[j]? = τ[j]?
  | [], j, _ => rfl
  | w :: ws, j, h => by
    show ((L2.wipe τ ws).set w none)[j]? = τ[j]?
    rw [List.getElem?_set_ne (fun z => h (by simp [z]))]
    exact wipe_out τ ws j fun z => h (List.mem_cons_of_mem _ z)
theorem off_wipe (σ : St) (vs : List Nat) : Off vs σ (L2.wipe σ vs) := ⟨wipe_length σ vs, fun j h => wipe_out σ vs j h⟩
theorem wipe_off {σ σ' : St} {vs : List Nat} (o : Off vs σ σ') : L2.wipe σ' vs = L2.wipe σ vs := by
  have at_ : ∀ (τ : St) (ws : List Nat) (j : Nat), j ∈ ws → j < τ.length → (L2.wipe τ ws)[j]? = some none := by
    intro τ ws
    induction ws with
    | nil =>
      intro j h
      cases h
    | cons w ws ih =>
      intro j h hl
      show ((L2.wipe τ ws).set w none)[j]? = some none
      by_cases e : w = j
      · subst e
        rw [List.getElem?_set_self (by rw [wipe_length]; exact hl)]
      · rw [List.getElem?_set_ne e]
        rcases List.mem_cons.mp h with z | z
        · exact absurd z.symm e
        · exact ih j z hl
  have out : ∀ (τ : St) (ws : List Nat) (j : Nat), j ∉ ws → (L2.wipe τ ws)[j]? = τ[j]? := by
    intro τ ws
    induction ws with
    | nil =>
      intro j _
      rfl
    | cons w ws ih =>
      intro j h
      show ((L2.wipe τ ws).set w none)[j]? = τ[j]?
      rw [List.getElem?_set_ne (fun z => h (by simp [z]))]
      exact ih j fun z => h (List.mem_cons_of_mem _ z)
  refine List.ext_getElem? fun j => ?_
  by_cases h : j ∈ vs
  · by_cases hl : j < σ.length
    · rw [at_ σ' vs j h (by rw [o.1]; exact hl), at_ σ vs j h hl]
    · rw [List.getElem?_eq_none (by rw [wipe_length, o.1]; omega), List.getElem?_eq_none (by rw [wipe_length]; omega)]
  · rw [out σ' vs j h, out σ vs j h]
    exact o.2 j h
theorem Off.sub {s1 s2 : List Nat} {σ σ' : St} (o : Off s1 σ σ') (h : ∀ i ∈ s1, i ∈ s2) : Off s2 σ σ' := ⟨o.1, fun j n => o.2 j fun z => n (h j z)⟩
mutual
theorem DV.off {D0 : Addr} {o : HO} {v : V} {d : D} (f : D0 ∈ A.F) : DV K H A v d → DV K (upd H D0 o) A v d
  | .non => .non
  | .bl b => .bl b
  | .int i => .int i
  | .str x => .str x
  | .fn x => .fn x
  | @DV.tup _ _ _ a xs ds h r => .tup (by
      rcases h with ⟨h, n⟩ | h
      · have e : a ≠ D0 := fun z => n.1 (z ▸ f)
        refine .inl ⟨?_, n⟩
        rcases h with h | ⟨u, h⟩
        · exact .inl (by rw [upd_ne e]; exact h)
        · exact .inr ⟨u, by rw [upd_ne e]; exact h⟩
      · exact .inr h) (DVs.off f r)
  | @DV.lst _ _ _ a xs ds h r => .lst ⟨by
      have e : a ≠ D0 := fun z => h.2.1 (z ▸ f)
      rw [upd_ne e]
      exact h.1, h.2⟩ (DVs.off f r)
  | @DV.fls _ _ _ a xs ds h r => .fls (by
      rcases h with ⟨⟨u, h⟩, n⟩ | h
      · have e : a ≠ D0 := fun z => n.1 (z ▸ f)
        exact .inl ⟨⟨u, by rw [upd_ne e]; exact h⟩, n⟩
      · exact .inr h) (DVs.off f r)
  | .loc h => .loc h
  | @DV.clo _ _ _ a c' _ _ _ _ h1 f1 h2 f2 => .clo (by rw [upd_ne (show a ≠ D0 from fun z => f1.1 (z ▸ f))]; exact h1) f1 (by rw [upd_ne (show c' ≠ D0 from fun z => f2.1 (z ▸ f))]; exact h2) f2
theorem DVs.off {D0 : Addr} {o : HO} {vs : List V} {ds : List D} (f : D0 ∈ A.F) : DVs K H A vs ds → DVs K (upd H D0 o) A vs ds
  | .nil => .nil
  | .cons h r => .cons (DV.off f h) (DVs.off f r)
end
mutual
theorem DV.less {v : V} {d : D} (e : A2.A = A.A) (f : ∀ a, Fresh A a → Fresh A2 a) : DV K H A v d → DV K H A2 v d
  | .non => .non
  | .bl b => .bl b
  | .int i => .int i
  | .str x => .str x
  | .fn x => .fn x
  | .tup h r => .tup (by
      rcases h with ⟨h, n⟩ | h
      · exact .inl ⟨h, f _ n⟩
      · exact .inr h) (DVs.less e f r)
  | .lst h r => .lst ⟨h.1, f _ h.2⟩ (DVs.less e f r)
  | .fls h r => .fls (by
      rcases h with ⟨h, n⟩ | h
      · exact .inl ⟨h, f _ n⟩
      · exact .inr h) (DVs.less e f r)
  | .loc h => .loc (by rw [e]; exact h)
  | .clo h1 f1 h2 f2 => .clo h1 (f _ f1) h2 (f _ f2)
theorem DVs.less {vs : List V} {ds : List D} (e : A2.A = A.A) (f : ∀ a, Fresh A a → Fresh A2 a) : DVs K H A vs ds → DVs K H A2 vs ds
  | .nil => .nil
  | .cons h r => .cons (DV.less e f h) (DVs.less e f r)
end
mutual
theorem DV.wide {v : V} {d : D} (f : ∀ a, Fresh A a → Fresh A2 a) (g : ∀ (n : Nat) (a : Addr), A.A[n]? = some a → A2.A[n]? = some a) : DV K H A v d → DV K H A2 v d
  | .non => .non
  | .bl b => .bl b
  | .int i => .int i
  | .str x => .str x
  | .fn x => .fn x
  | .tup h r => .tup (by
      rcases h with ⟨h, n⟩ | h
      · exact .inl ⟨h, f _ n⟩
      · exact .inr h) (DVs.wide f g r)
  | .lst h r => .lst ⟨h.1, f _ h.2⟩ (DVs.wide f g r)
  | .fls h r => .fls (by
      rcases h with ⟨h, n⟩ | h
      · exact .inl ⟨h, f _ n⟩
      · exact .inr h) (DVs.wide f g r)
  | .loc h => .loc (g _ _ h)
  | .clo h1 f1 h2 f2 => .clo h1 (f _ f1) h2 (f _ f2)
theorem DVs.wide {vs : List V} {ds : List D} (f : ∀ a, Fresh A a → Fresh A2 a) (g : ∀ (n : Nat) (a : Addr), A.A[n]? = some a → A2.A[n]? = some a) : DVs K H A vs ds → DVs K H A2 vs ds
  | .nil => .nil
  | .cons h r => .cons (DV.wide f g h) (DVs.wide f g r)
end
theorem MuOk.off {D0 : Addr} {o : HO} (m : MuOk K A μ H) (f : D0 ∈ A.F) (n : D0 ∉ A.A) : MuOk K A μ (upd H D0 o) :=
  ⟨m.nd, m.len, m.sub, fun a ha => by
    by_cases e : a = D0
    · rw [e]
      exact ⟨_, upd_same⟩
    · obtain ⟨u, q⟩ := m.there a ha
      exact ⟨u, by rw [upd_ne e]; exact q⟩, fun i a u h1 h2 => by
    have mk := m.mo i a u h1 h2
    cases u with
    | tab P q =>
      obtain ⟨rfl, ps, p1, p2, p3⟩ := mk
      have e : a ≠ D0 := fun z => n (z ▸ List.mem_of_getElem? h1)
      refine ⟨rfl, ps, by rw [upd_ne e]; exact p1, p2, fun pos cv hc => ?_⟩
      obtain ⟨c, c1, c2, c3⟩ := p3 pos cv hc
      exact ⟨c, c1, by rw [upd_ne (show c ≠ D0 from fun z => c3.1 (z ▸ f))]; exact c2, c3⟩
    | dct kvs =>
      obtain ⟨xs, q1, q2, q3, q4⟩ := mk
      have e : a ≠ D0 := fun z => n (z ▸ List.mem_of_getElem? h1)
      exact ⟨xs, by rw [upd_ne e]; exact q1, q2, DVs.off f q3, DVs.off f q4⟩
    | lst l =>
      obtain ⟨xs, q, r⟩ := mk
      have e : a ≠ D0 := fun z => n (z ▸ List.mem_of_getElem? h1)
      exact ⟨xs, by rw [upd_ne e]; exact q, DVs.off f r⟩⟩
theorem MuOk.less (m : MuOk K A μ H) (e : A2.A = A.A) (f : ∀ a, Fresh A a → Fresh A2 a) (g : ∀ a ∈ A2.F, a ∈ A.F) (s : ∀ a ∈ A2.A, a ∈ A2.F) : MuOk K A2 μ H :=
  ⟨by rw [e]; exact m.nd, by rw [e]; exact m.len, s, fun a ha => m.there a (g a ha), fun i a u h1 h2 => by
    rw [e] at h1
    have mk := m.mo i a u h1 h2
    cases u with
    | tab P q =>
      obtain ⟨rfl, ps, p1, p2, p3⟩ := mk
      refine ⟨rfl, ps, p1, p2, fun pos cv hc => ?_⟩
      obtain ⟨c, c1, c2, c3⟩ := p3 pos cv hc
      exact ⟨c, c1, c2, f _ c3⟩
    | dct kvs =>
      obtain ⟨xs, q1, q2, q3, q4⟩ := mk
      exact ⟨xs, q1, q2, DVs.less e f q3, DVs.less e f q4⟩
    | lst l =>
      obtain ⟨xs, q, r⟩ := mk
      exact ⟨xs, q, DVs.less e f r⟩⟩
end
abbrev W0 : WX := fun _ _ _ _ => False
abbrev DTs (X : Cx) (ifs : List Expr) (t : Ro → M Bool) : Prop := PTs X ifs (tG X.K W0 rB t)
def tYes' : Ro → M Bool := fun _ => M.ret true
theorem dts_nil {X : Cx} : DTs X [] tYes' := ⟨fun pins s σ H Q I h => pts_nil.run pins s σ H Q I (tG.done h true fun _ _ _ _ _ => rfl)⟩
theorem dts_one {X : Cx} {c : Expr} {t : Ro → M Bool} (h : DT X W0 c t) : DTs X [c] t := pts_one h
/-- one turn after another -/
theorem lc_core {K : PySem.W.Frag} {J : It} {l : List D} {lk : Option Nat} {A0 : Wl} {H1 : Hp} {g : GF} {ss vs : List Nat} {t : Ro → M Bool} {e : Ro → M D} {ρ : Ro} {μ : Mu} {σ : St} {Q : VK} (F : Feeds K J l lk A0 H1) (m : MuOk K A0 μ H1) (rr : RhoOk K A0 ρ σ H1) (hss : ∀ i ∈ ss, i ∈ vs)
    (D0 : Addr) (nD : H1 D0 = none) (hsm : small l.length = true) {ys : List D} {μf : Mu} (q : compF (l, lk) g t e l (wipeR ρ vs) μ = some (.ok ys μf))
    (fin : ∀ (A : Wl) (H : Hp) (xs : List V), Ext A0 H1 A H → MuOk K A μf H → D0 ∈ A.F → D0 ∉ A.A → H D0 = some (.lst xs) → DVs K H A xs ys → Q (.ref D0) H) :
    ∃ Wv : Nat → Nat → Hp → Prop, (∃ n, Wv 0 n (upd H1 D0 (.lst []))) ∧ ∀ i n H, Wv i n H →
      (J.stop i H ∧ Q (.ref D0) H) ∨ (J.go i H ∧ ∃ Nx : Hp → Prop, (∀ H', Nx H' → ∃ n', n' < n ∧ Wv (i + 1) n' H') ∧ ∀ x H', J.yld i H x H' → tT K ss g x (L2.wipe σ vs) H' fun σ2 H2 => L2.wipe σ2 vs = L2.wipe σ vs ∧ tG K W0 rB t σ2 H2 fun b H3 =>
        if b = true then tG K W0 (rD K) e σ2 H3 fun y H4 => ∃ acc, H4 D0 = some (.lst acc) ∧ acc.length < sizeLine ∧ Nx (upd H4 D0 (.lst (acc ++ [y]))) else Nx H3) := by
  have hsz := small_lt hsm
  -- the worlds within: D0 is not spoken of
  let Iv : Nat → Hp → Prop := fun i H => ∃ (A : Wl) (μ' : Mu) (xs : List V) (acc rest : List D), Ext A0 H1 A H ∧ MuOk K A μ' H ∧ D0 ∈ A.F ∧ D0 ∉ A.A ∧ H D0 = some (.lst xs) ∧ DVs K H A xs acc ∧ acc.length ≤ i ∧ i ≤ l.length ∧ compF (l, lk) g t e (l.drop i) (wipeR ρ vs) μ' = some (.ok rest μf) ∧ acc ++ rest = ys
  refine ⟨fun i n H => n = l.length - i ∧ Iv i H, ⟨l.length, by simp, ?_⟩, ?_⟩
  · have f1 := m.fresh nD
    refine ⟨⟨A0.A, D0 :: A0.F⟩, μ, [], [], ys, ⟨⟨[], by simp⟩, fun a ha => List.mem_cons_of_mem _ ha, fun b o hb nb => by rw [upd_ne (ne_of_none hb nD)]; exact hb, fun b o hb nb z => ?_, fun b o hb => ⟨o, by rw [upd_ne (ne_of_none hb nD)]; exact hb⟩⟩, ?_, List.mem_cons_self, f1.2, upd_same, .nil, Nat.le_refl _, Nat.zero_le _, by simpa using q, rfl⟩
    · rcases List.mem_cons.mp z with z | z
      · exact ne_of_none hb nD z
      · exact nb z
    · refine ⟨m.nd, m.len, fun a ha => List.mem_cons_of_mem _ (m.sub a ha), fun a ha => ?_, fun i a u h1 h2 => ?_⟩
      · rcases List.mem_cons.mp ha with e | ha
        · rw [e]
          exact ⟨_, upd_same⟩
        · obtain ⟨u, e⟩ := m.there a ha
          exact ⟨u, by rw [upd_ne (ne_of_none e nD)]; exact e⟩
      · refine (m.mo i a u h1 h2).ext ⟨⟨[], by simp⟩, fun a ha => List.mem_cons_of_mem _ ha, fun b o hb nb => by rw [upd_ne (ne_of_none hb nD)]; exact hb, fun b o hb nb z => ?_, fun b o hb => ⟨o, by rw [upd_ne (ne_of_none hb nD)]; exact hb⟩⟩ fun z hz => by rw [upd_ne (ne_of_none hz nD)]; exact hz
        rcases List.mem_cons.mp z with z | z
        · exact ne_of_none hb nD z
        · exact nb z
  · rintro i n H ⟨rfl, A, μ', xs, acc, rest, ex, m', dF, dA, hD, hx, hacc, hi, hc, hy⟩
    by_cases hlt : i < l.length
    · rw [List.drop_eq_getElem_cons hlt] at hc
      simp only [compF] at hc
      obtain ⟨hk, hc⟩ := guardH_inv hc
      refine .inr ⟨F.go i A H μ' ex m' hk hlt, Iv (i + 1), fun H' q' => ⟨l.length - (i + 1), by omega, rfl, q'⟩, fun x H' y => ?_⟩
      obtain ⟨x1, m1, dv⟩ := F.yld i A H μ' x H' l[i] ex m' hk (List.getElem?_eq_getElem hlt) y
      have ex1 := ex.trans x1
      have rw1 := (rr.ext ex1).wipes vs
      have hD1 : H' D0 = some (.lst xs) := x1.keep D0 _ hD dA
      cases q1 : g l[i] (wipeR ρ vs) with
      | none => simp [q1] at hc
      | some ρ1 =>
        simp only [q1] at hc
        refine ⟨A, wipeR ρ vs, l[i], ρ1, rw1, dv, q1, fun σ2 r2 o2 => ⟨(wipe_off (o2.sub hss)).trans (wipe_off (off_wipe σ vs)), A, ρ1, μ', m1, r2, ?_⟩⟩
        -- the test
        unfold M.bnd at hc
        cases q2 : t ρ1 μ' with
        | none => simp [q2] at hc
        | some z2 =>
          cases z2 with
          | ex c μ2 => simp [q2] at hc
          | ok c μ2 =>
            simp only [q2] at hc
            refine ⟨_, q2, fun b A3 H3 x3 m3 rl3 => ?_⟩
            have rl3 : b = c := rl3
            subst rl3
            have hD3 : H3 D0 = some (.lst xs) := x3.keep D0 _ hD1 dA
            have dA3 : D0 ∉ A3.A := x3.out hD1 dA
            have dF3 : D0 ∈ A3.F := x3.mono D0 dF
            cases b with
            | false =>
              refine iteF ?_
              simp only [Bool.false_eq_true, if_false] at hc
              exact ⟨A3, μ2, xs, acc, rest, ex1.trans x3, m3, dF3, dA3, hD3, (hx.ext x1).ext x3, by omega, hlt, hc, hy⟩
            | true =>
              refine iteT ⟨A3, ρ1, μ2, m3, r2.ext x3, ?_⟩
              simp only [if_true] at hc
              cases q3 : e ρ1 μ2 with
              | none => simp [q3] at hc
              | some z3 =>
                cases z3 with
                | ex c μ3 => simp [q3] at hc
                | ok d μ3 =>
                  simp only [q3] at hc
                  refine ⟨_, q3, fun yv A4 H4 x4 m4 rl4 => ?_⟩
                  have hD4 : H4 D0 = some (.lst xs) := x4.keep D0 _ hD3 dA3
                  have dA4 : D0 ∉ A4.A := x4.out hD3 dA3
                  have dF4 : D0 ∈ A4.F := x4.mono D0 dF3
                  have hx4 := ((hx.ext x1).ext x3).ext x4
                  have hl : xs.length ≤ i := by rw [hx.length]; exact hacc
                  cases q4 : compF (l, lk) g t e (l.drop (i + 1)) (wipeR ρ vs) μ3 with
                  | none => simp [q4] at hc
                  | some z4 =>
                    cases z4 with
                    | ex c μ5 => simp [q4] at hc
                    | ok rest2 μ5 =>
                      simp [q4] at hc
                      obtain ⟨rfl, rfl⟩ := hc
                      have ext4 := (ex1.trans x3).trans x4
                      refine ⟨xs, hD4, by omega, A4, μ3, xs ++ [yv], acc ++ [d], rest2, ⟨ext4.sub, ext4.mono, fun b o hb nb => by rw [upd_ne (ne_of_none hb nD)]; exact ext4.keep b o hb nb, ext4.fre, fun b o hb => ?_⟩, m4.off dF4 dA4, dF4, dA4, upd_same, DVs.off dF4 (hx4.append (.cons rl4 .nil)), ?_, hlt, q4, ?_⟩
                      · obtain ⟨u, e'⟩ := ext4.there b o hb
                        exact ⟨u, by rw [upd_ne (ne_of_none hb nD)]; exact e'⟩
                      · rw [List.length_append]
                        show acc.length + 1 ≤ i + 1
                        omega
                      · rw [← hy, List.append_assoc]
                        rfl
    · have : i = l.length := by omega
      subst this
      rw [List.drop_length] at hc
      simp only [compF] at hc
      obtain ⟨hk, hc⟩ := guardH_inv hc
      cases hc
      have hy2 : acc = ys := by simpa using hy
      subst hy2
      exact .inl ⟨F.stop _ A H _ ex m' hk (Nat.le_refl _), fin A H xs ex m' dF dA hD hx⟩
/-- what a comprehension makes: a list that nobody turns; one that joins the store -/
theorem lc_feeds {K : PySem.W.Frag} {J : It} {l : Wk} {A0 : Wl} {H1 : Hp} {g : GF} {ss vs : List Nat} {t : Ro → M Bool} {e : Ro → M D} {E : XK} {ρ : Ro} {μ : Mu} {σ : St} {Q : VK} {last : List D → M D} (F : Feeds K J l.1 l.2 A0 H1) (m : MuOk K A0 μ H1) (rr : RhoOk K A0 ρ σ H1) (hss : ∀ i ∈ ss, i ∈ vs)
    (h : At K E A0 μ H1 (rD K) (if small l.1.length = true then M.bnd (noX (compF l g t e l.1 (wipeR ρ vs))) last else fail) Q) (D0 : Addr) (nD : H1 D0 = none)
    (hl : ∀ (A : Wl) (H : Hp) (xs : List V) (ys : List D) (μf : Mu), Ext A0 H1 A H → MuOk K A μf H → D0 ∈ A.F → D0 ∉ A.A → H D0 = some (.lst xs) → DVs K H A xs ys → At K E A0 μf H1 (rD K) (last ys) Q → Q (.ref D0) H) :
    ∃ Wv : Nat → Nat → Hp → Prop, (∃ n, Wv 0 n (upd H1 D0 (.lst []))) ∧ ∀ i n H, Wv i n H →
      (J.stop i H ∧ Q (.ref D0) H) ∨ (J.go i H ∧ ∃ Nx : Hp → Prop, (∀ H', Nx H' → ∃ n', n' < n ∧ Wv (i + 1) n' H') ∧ ∀ x H', J.yld i H x H' → tT K ss g x (L2.wipe σ vs) H' fun σ2 H2 => L2.wipe σ2 vs = L2.wipe σ vs ∧ tG K W0 rB t σ2 H2 fun b H3 =>
        if b = true then tG K W0 (rD K) e σ2 H3 fun y H4 => ∃ acc, H4 D0 = some (.lst acc) ∧ acc.length < sizeLine ∧ Nx (upd H4 D0 (.lst (acc ++ [y]))) else Nx H3) := by
  obtain ⟨hsm, h⟩ := At.guard h
  obtain ⟨r, er, hp⟩ := h
  unfold M.bnd noX at er
  cases q : compF l g t e l.1 (wipeR ρ vs) μ with
  | none => simp [q] at er
  | some z =>
    cases z with
    | ex c μ1 => simp [q] at er
    | ok ys μf =>
      simp [q] at er
      exact lc_core F m rr hss D0 nD hsm q fun A H xs ex m' dF dA hD hx => hl A H xs ys μf ex m' dF dA hD hx ⟨r, er, hp⟩
theorem last_lst {K : PySem.W.Frag} {A0 : Wl} {H1 : Hp} {E : XK} {Q : VK} {μ : Mu} {D0 : Addr} (m : MuOk K A0 μ H1) (nD : H1 D0 = none) : ∀ (A : Wl) (H : Hp) (xs : List V) (ys : List D) (μf : Mu), Ext A0 H1 A H → MuOk K A μf H → D0 ∈ A.F → D0 ∉ A.A → H D0 = some (.lst xs) → DVs K H A xs ys → At K E A0 μf H1 (rD K) (M.ret (.lst ys)) Q → Q (.ref D0) H := by
  intro A H xs ys μf ex m' dF dA hD hx ⟨r, er, hp⟩
  cases er
  have fr : ∀ a, Fresh A a → Fresh ⟨A.A, A.F.filter fun a => decide (a ≠ D0)⟩ a := fun a h => ⟨fun z => h.1 (List.mem_filter.mp z).1, h.2⟩
  have fD : Fresh ⟨A.A, A.F.filter fun a => decide (a ≠ D0)⟩ D0 := ⟨fun z => of_decide_eq_true (List.mem_filter.mp z).2 rfl, dA⟩
  refine hp (.ref D0) ⟨A.A, A.F.filter fun a => decide (a ≠ D0)⟩ H ⟨ex.sub, fun a ha => List.mem_filter.mpr ⟨ex.mono a ha, decide_eq_true fun z => m.free nD (z ▸ ha)⟩, ex.keep, fun b o hb nb z => ex.fre b o hb nb (List.mem_filter.mp z).1, ex.there⟩ (m'.less rfl fr (fun a ha => (List.mem_filter.mp ha).1) fun a ha => List.mem_filter.mpr ⟨m'.sub a ha, decide_eq_true fun z => dA (z ▸ ha)⟩) ?_
  exact .lst ⟨hD, fD⟩ (DVs.less (A := A) rfl fr hx)
/-- a list that was kept apart joins the store -/
theorem MuOk.joinF {K : PySem.W.Frag} {A : Wl} {μ : Mu} {H : Hp} {p : Addr} {xs : List V} {ds : List D} (m : MuOk K A μ H) (pF : p ∈ A.F) (pA : p ∉ A.A) (hp : H p = some (.lst xs)) (h : DVs K H A xs ds) : MuOk K ⟨A.A ++ [p], A.F⟩ (μ ++ [.lst ds]) H := by
  have fr : ∀ a, Fresh A a → Fresh ⟨A.A ++ [p], A.F⟩ a := fun a h => ⟨h.1, fun z => by
    rcases List.mem_append.mp z with z | z
    · exact h.2 z
    · have e : a = p := by simpa using z
      exact h.1 (e ▸ pF)⟩
  have gt : ∀ (n : Nat) (a : Addr), A.A[n]? = some a → (A.A ++ [p])[n]? = some a := fun n a h => by
    obtain ⟨hl, _⟩ := List.getElem?_eq_some_iff.mp h
    rw [List.getElem?_append_left hl]
    exact h
  refine ⟨List.nodup_append.mpr ⟨m.nd, by simp, fun a ha b hb => ?_⟩, by simp [m.len], fun a ha => ?_, m.there, fun i a u h1 h2 => ?_⟩
  · have e : b = p := by simpa using hb
    subst e
    exact fun z => pA (z ▸ ha)
  · rcases List.mem_append.mp ha with ha | ha
    · exact m.sub a ha
    · have e : a = p := by simpa using ha
      rw [e]
      exact pF
  · have h1 : (A.A ++ [p])[i]? = some a := h1
    by_cases hi : i < A.A.length
    · rw [List.getElem?_append_left hi] at h1
      rw [List.getElem?_append_left (by rw [← m.len]; exact hi)] at h2
      have mk := m.mo i a u h1 h2
      cases u with
      | tab P q =>
        obtain ⟨rfl, ps, p1, p2, p3⟩ := mk
        refine ⟨rfl, ps, p1, p2, fun pos cv hc => ?_⟩
        obtain ⟨c, c1, c2, c3⟩ := p3 pos cv hc
        exact ⟨c, c1, c2, fr _ c3⟩
      | dct kvs =>
        obtain ⟨xs', q1, q2, q3, q4⟩ := mk
        exact ⟨xs', q1, q2, q3.wide fr gt, q4.wide fr gt⟩
      | lst l =>
        obtain ⟨xs', q1, q2⟩ := mk
        exact ⟨xs', q1, q2.wide fr gt⟩
    · rw [List.getElem?_append_right (by omega)] at h1
      rw [List.getElem?_append_right (by rw [← m.len]; omega)] at h2
      rw [m.len] at h1
      cases hj : i - μ.length with
      | zero =>
        rw [hj] at h1 h2
        simp at h1 h2
        subst h1 h2
        exact ⟨xs, hp, h.wide fr gt⟩
      | succ j =>
        rw [hj] at h1
        simp at h1
theorem last_new {K : PySem.W.Frag} {A0 : Wl} {H1 : Hp} {E : XK} {Q : VK} {D0 : Addr} (nD : H1 D0 = none) : ∀ (A : Wl) (H : Hp) (xs : List V) (ys : List D) (μf : Mu), Ext A0 H1 A H → MuOk K A μf H → D0 ∈ A.F → D0 ∉ A.A → H D0 = some (.lst xs) → DVs K H A xs ys → At K E A0 μf H1 (rD K) (retN ys) Q → Q (.ref D0) H := by
  intro A H xs ys μf ex m' dF dA hD hx ⟨r, er, hp⟩
  cases er
  obtain ⟨B, eB, fB⟩ := ex.sub
  refine hp (.ref D0) ⟨A.A ++ [D0], A.F⟩ H ⟨⟨B ++ [D0], by rw [eB, List.append_assoc], fun a ha => ?_⟩, ex.mono, ex.keep, ex.fre, ex.there⟩ (m'.joinF dF dA hD hx) (.loc ?_)
  · rcases List.mem_append.mp ha with ha | ha
    · exact fB a ha
    · have e : a = D0 := by simpa using ha
      rw [e]
      exact nD
  · rw [← m'.len]
    simp
section
variable {X : Cx} {W : WX} {pos : Pos} {elt tg iter : Expr} {ifs : List Expr} {scope : Scope} {own : List (Str × Nat)} {src : Src} {g : GF} {ss : List Nat} {t : Ro → M Bool} {f : Ro → M D}
theorem de_comp (hc : X.calm = true) (hN : X.N.Nodup) (hi : DI X W tg iter src) (ok : BlkOk X.N X.env.scope scope own)
    (hg : ∀ (s : Shared) (H : Hp) (C : Addr) (cl : List (Str × Addr)) (fp : List Addr), DG (X.blk s H scope (compEnvC scope cl C X.env) fp) tg ss g) (ht : ∀ (s : Shared) (H : Hp) (C : Addr) (cl : List (Str × Addr)) (fp : List Addr), DTs (X.blk s H scope (compEnvC scope cl C X.env) fp) ifs t)
    (he : ∀ (s : Shared) (H : Hp) (C : Addr) (cl : List (Str × Addr)) (fp : List Addr), DE (X.blk s H scope (compEnvC scope cl C X.env) fp) W0 elt f) (hss : ∀ i ∈ ss, i ∈ own.map (·.2) := by decide) (hs : ∀ x, foldedSetIterable iter X.env x = pure x := by intro _; rfl) :
    DE X W (.ListComp elt [⟨tg, iter, ifs, 0⟩] scope pos) (eComp src g t f (own.map (·.2))) :=
  (pe_lc hc hN hi ok hg ht he hs).imp fun σ H Q h => tG.bnd h fun A ρ l μ J H1 m rr F h1 D0 nD => lc_feeds F m rr hss h1 D0 nD (last_lst m nD)
theorem ds_setComp (i : Nat) {y : Str} {py spos : Pos} (hc : X.calm = true) (hN : X.N.Nodup) (hy : X.N[i]? = some y) (hyl : X.env.scope.names.lookup y = some .local) (hsw : swapsWith (.ListComp elt [⟨tg, iter, ifs, 0⟩] scope pos) (some (.Name y py)) spos.line X.env = pure true) (hi : DI X W tg iter src) (ok : BlkOk X.N X.env.scope scope own)
    (hg : ∀ (s : Shared) (H : Hp) (C : Addr) (cl : List (Str × Addr)) (fp : List Addr), DG (X.blk s H scope (compEnvC scope cl C X.env) fp) tg ss g) (ht : ∀ (s : Shared) (H : Hp) (C : Addr) (cl : List (Str × Addr)) (fp : List Addr), DTs (X.blk s H scope (compEnvC scope cl C X.env) fp) ifs t)
    (he : ∀ (s : Shared) (H : Hp) (C : Addr) (cl : List (Str × Addr)) (fp : List Addr), DE (X.blk s H scope (compEnvC scope cl C X.env) fp) W0 elt f) (hss : ∀ i ∈ ss, i ∈ own.map (·.2) := by decide) (hs : ∀ x, foldedSetIterable iter X.env x = pure x := by intro _; rfl) :
    DS X W (.Assign [.Name y py] (.ListComp elt [⟨tg, iter, ifs, 0⟩] scope pos) spos) (sSet i (eComp src g t f (own.map (·.2)))) :=
  (ps_setLc (i := i) hc hN hy hyl hsw hi ok hg ht he hs).imp fun D σ H h => by
    have h2 : tG X.K W (rD X.K) (eComp src g t f (own.map (·.2))) σ H fun x H1 => gName i x σ H1 D.nx := tS.bnd h fun A ρ a μ v H1 m rr rl ⟨r, e, hp⟩ => by
      cases e
      exact hp _ A H1 Ext.refl m (rr.set rl)
    exact tG.bnd h2 fun A ρ l μ J H1 m rr F h1 D0 nD => lc_feeds F m rr hss h1 D0 nD (last_lst m nD)
theorem de_compN (hc : X.calm = true) (hN : X.N.Nodup) (hi : DI X W tg iter src) (ok : BlkOk X.N X.env.scope scope own)
    (hg : ∀ (s : Shared) (H : Hp) (C : Addr) (cl : List (Str × Addr)) (fp : List Addr), DG (X.blk s H scope (compEnvC scope cl C X.env) fp) tg ss g) (ht : ∀ (s : Shared) (H : Hp) (C : Addr) (cl : List (Str × Addr)) (fp : List Addr), DTs (X.blk s H scope (compEnvC scope cl C X.env) fp) ifs t)
    (he : ∀ (s : Shared) (H : Hp) (C : Addr) (cl : List (Str × Addr)) (fp : List Addr), DE (X.blk s H scope (compEnvC scope cl C X.env) fp) W0 elt f) (hss : ∀ i ∈ ss, i ∈ own.map (·.2) := by decide) (hs : ∀ x, foldedSetIterable iter X.env x = pure x := by intro _; rfl) :
    DE X W (.ListComp elt [⟨tg, iter, ifs, 0⟩] scope pos) (eCompN src g t f (own.map (·.2))) :=
  (pe_lc hc hN hi ok hg ht he hs).imp fun σ H Q h => tG.bnd h fun A ρ l μ J H1 m rr F h1 D0 nD => lc_feeds F m rr hss h1 D0 nD (last_new nD)
theorem ds_setCompN (i : Nat) {y : Str} {py spos : Pos} (hc : X.calm = true) (hN : X.N.Nodup) (hy : X.N[i]? = some y) (hyl : X.env.scope.names.lookup y = some .local) (hsw : swapsWith (.ListComp elt [⟨tg, iter, ifs, 0⟩] scope pos) (some (.Name y py)) spos.line X.env = pure true) (hi : DI X W tg iter src) (ok : BlkOk X.N X.env.scope scope own)
    (hg : ∀ (s : Shared) (H : Hp) (C : Addr) (cl : List (Str × Addr)) (fp : List Addr), DG (X.blk s H scope (compEnvC scope cl C X.env) fp) tg ss g) (ht : ∀ (s : Shared) (H : Hp) (C : Addr) (cl : List (Str × Addr)) (fp : List Addr), DTs (X.blk s H scope (compEnvC scope cl C X.env) fp) ifs t)
    (he : ∀ (s : Shared) (H : Hp) (C : Addr) (cl : List (Str × Addr)) (fp : List Addr), DE (X.blk s H scope (compEnvC scope cl C X.env) fp) W0 elt f) (hss : ∀ i ∈ ss, i ∈ own.map (·.2) := by decide) (hs : ∀ x, foldedSetIterable iter X.env x = pure x := by intro _; rfl) :
    DS X W (.Assign [.Name y py] (.ListComp elt [⟨tg, iter, ifs, 0⟩] scope pos) spos) (sSet i (eCompN src g t f (own.map (·.2)))) :=
  (ps_setLc (i := i) hc hN hy hyl hsw hi ok hg ht he hs).imp fun D σ H h => by
    have h2 : tG X.K W (rD X.K) (eCompN src g t f (own.map (·.2))) σ H fun x H1 => gName i x σ H1 D.nx := tS.bnd h fun A ρ a μ v H1 m rr rl ⟨r, e, hp⟩ => by
      cases e
      exact hp _ A H1 Ext.refl m (rr.set rl)
    exact tG.bnd h2 fun A ρ l μ J H1 m rr F h1 D0 nD => lc_feeds F m rr hss h1 D0 nD (last_new nD)
end
end Dn

set_option Elab.async false
set_option linter.all false
set_option maxRecDepth 100000
set_option maxHeartbeats 4000000
/-! DnM: what the printed texts lean on. -/
namespace Dn
open PySem PySem.Spec L2
open PyProof.Rows hiding St
theorem takes0 {X : Cx} : Takes X W0 := fun _ _ x => by
  obtain ⟨_, _, _, _, _, _, _, _, _, _, _, _, _, _, _, _, z⟩ := x
  exact z.elim
theorem hu65 {A : Around} {k : Nat} (hr : Room k A) : A.units + 65 < cLine := by
  have := hr.un
  omega
def phi1 (x : Str) (G : Gt) : Phi := fun y => if y = x then some G else none
theorem phi1_ok {P : Program} {w : World} {K : PySem.W.Frag} {mg : Str → Option Value} {base : Heap} {k : Nat} {x : Str} {G : Gt} (c : Cal P w K mg base k x G) : ∀ y G', phi1 x G y = some G' → Cal P w K mg base k y G' := fun y G' h => by
  unfold phi1 at h
  by_cases e : y = x
  · rw [if_pos e] at h
    cases h
    subst e
    exact c
  · rw [if_neg e] at h
    cases h
/-- a def whose new lists stay in the store -/
def runR (np n : Nat) (B : SF) : Gt := fun ds μ => if ds.length = np then (match B (startRo n ds) μ with
  | some (.nx _ μ') => some (.ok .non μ')
  | some (.rt d μ') => some (.ok d μ')
  | some (.ex c _ μ') => some (.ex c μ')
  | _ => none) else none
theorem runR_ok {K : PySem.W.Frag} {E : XK} {np : Nat} {N : List Str} {B : SF} {vs : List V} {H : Hp} {Q : VK} (h : spD K (runR np N.length B) vs H Q E) (hN : np ≤ N.length) :
    vs.length = np ∧ tS K (fun cls d _ H' => E cls d H') B { nx := fun _ H' => Q .non H', rt := Q } (L2.start N vs) H := by
  obtain ⟨A, ds, μ, m, rl, r, e, hp⟩ := h
  unfold runR at e
  by_cases c : ds.length = np
  · rw [if_pos c] at e
    have hv : vs.length = np := by
      rw [rl.length]
      exact c
    refine ⟨hv, A, startRo N.length ds, μ, m, ⟨?_, fun i d hi => ?_⟩, ?_⟩
    · unfold startRo L2.start
      simp [rl.length]
    · unfold startRo at hi
      by_cases hl : i < ds.length
      · rw [List.getElem?_append_left (by simpa using hl), List.getElem?_map] at hi
        cases q : ds[i]? with
        | none => simp [q] at hi
        | some d2 =>
          simp [q] at hi
          subst hi
          obtain ⟨v, h1, h2⟩ := rl.get q
          refine ⟨v, ?_, h2⟩
          unfold L2.start
          rw [List.getElem?_append_left (by rw [List.length_map, rl.length]; exact hl), List.getElem?_map, h1]
          rfl
      · rw [List.getElem?_append_right (by simpa using hl), List.getElem?_replicate] at hi
        split at hi <;> cases hi
    · cases q : B (startRo N.length ds) μ with
      | none => simp [q] at e
      | some z =>
        refine ⟨z, rfl, ?_⟩
        rw [q] at e
        cases z with
        | nx ρ μ' =>
          cases e
          exact fun σ' A' H' ex m' r' => hp .non A' H' ex m' .non
        | rt d μ' =>
          cases e
          exact hp
        | ex x ρ μ' =>
          cases e
          exact fun dd σ' A' H' ex m' r' => hp dd A' H' ex m'
        | _ => simp at e
  · rw [if_neg c] at e
    cases e
theorem cal_ofR {P : Program} {w : World} {K : PySem.W.Frag} {mg : Str → Option Value} {base : Heap} {x nm qual : Str} {params : Arguments} {body : List Stmt} {scope : Scope} {fd : FuncData} {N ps : List Str} {k : Nat} {B : SF}
    (F : FunD K nm qual params body scope [] [] (He.ga K x) fd) (S : FnScope N ps scope) (b : Binds K fd ps [])
    (hbody : ∀ (cdv : Value) (A : Around) (outer : List Env) (s : Shared) (H : Hp) (E : XK), Room k (A.deeper (envOfC qual scope s.heap.objs.size (He.ga K x) cdv)) →
      DSs (cxOf (L2.CX P w) P w K mg base N qual scope (He.ga K x) cdv A outer s H E) (fun cls d _ H' => E cls d H') body B) :
    Cal P w K mg base (k + 1) x (runR ps.length N.length B) := by
  have hN : ps.length ≤ N.length := by
    have := congrArg List.length S.pre
    rw [List.length_take] at this
    omega
  exact ⟨fd, ps, F.ok S (fun vs H Q E h => (runR_ok h hN).1) (fun cdv A outer s H vs Q E hr h => ⟨_, hbody cdv A outer s H E hr, (runR_ok h hN).2⟩), F.kp, b⟩
end Dn

set_option Elab.async false
set_option linter.all false
set_option maxRecDepth 100000
set_option maxHeartbeats 4000000
/-! DnN: tuple * int, three at once, unpacking lists, list(range(..)), enumerate over tuples. -/
namespace Dn
open PySem PySem.Spec L2
open PyProof.Rows hiding St

/-! ### tuple * int -/
theorem tuple_mul1 (l : Addr) (items : Array Value) (n : Nat) (dd : Option Addr) (sl : Array (Option Value)) (x : Int) (u : Tok) (c0 : (decide (x < -(2 ^ 63)) || decide (x ≥ 2 ^ 63)) = false) (c1 : (items.isEmpty || x == 1) = true) :
    Meets (Builtin.«tuple.__mul__» ⟨[.ref l, .int x u], []⟩) (fun _ R s => s.heap.get? l = some { cls := .type "tuple", dict := dd, data := .seq items n, slots := sl } ∧ R (.ok (.ret (Value.ref l))) s) :=
  .of_wp fun prog w A R s h => by
    obtain ⟨hp, g, d, tk, os⟩ := s
    obtain ⟨hl, h⟩ := h
    have f1 := AutoSeq1.idx_int
    wp_walk using wpAny_loadPart' hl
    repeat (first
      | (refine wpAny_ite_false (decide_eq_false (by rw [c0]; exact Bool.false_ne_true)) ?_; wp_walk using wpAny_loadPart' hl)
      | (refine wpAny_ite_true (decide_eq_true c1) ?_; wp_walk using wpAny_loadPart' hl))
    exact ⟨_, rfl, h⟩
theorem tuple_mul0 (l : Addr) (items : Array Value) (n : Nat) (dd : Option Addr) (sl : Array (Option Value)) (x : Int) (u : Tok) (c0 : (decide (x < -(2 ^ 63)) || decide (x ≥ 2 ^ 63)) = false) (c1 : (items.isEmpty || x == 1) = false) (c2 : (decide (x ≤ 0) || items.isEmpty) = true) :
    Meets (Builtin.«tuple.__mul__» ⟨[.ref l, .int x u], []⟩) (fun _ R s => s.heap.get? l = some { cls := .type "tuple", dict := dd, data := .seq items n, slots := sl } ∧
      R (.ok (.ret (Value.ref s.heap.objs.size))) { s with heap := s.heap.push { cls := Value.type "tuple", data := Data.seq #[] }, toks := s.toks }) :=
  .of_wp fun prog w A R s h => by
    obtain ⟨hp, g, d, tk, os⟩ := s
    obtain ⟨hl, h⟩ := h
    have f1 := AutoSeq1.idx_int
    wp_walk using wpAny_loadPart' hl
    repeat (first
      | (refine wpAny_ite_false (decide_eq_false (by rw [c0]; exact Bool.false_ne_true)) ?_; wp_walk using wpAny_loadPart' hl)
      | (refine wpAny_ite_false (decide_eq_false (by rw [c1]; exact Bool.false_ne_true)) ?_; wp_walk using wpAny_loadPart' hl)
      | (refine wpAny_ite_true (decide_eq_true c2) ?_; wp_walk using wpAny_loadPart' hl))
    exact ⟨_, rfl, h⟩
def rRepA (K : PySem.W.Frag) : R2 := fun x y H Q => ∃ l k xs, x = .ref l ∧ y = .int k ∧ SqT K H l xs ∧ -1000 ≤ k ∧ k ≤ 1000 ∧ xs.length ≤ 1000 ∧ (xs = [] ∨ k = 1 → Q (.ref l) H) ∧ (xs ≠ [] → k ≤ 0 → ∀ p, H p = none → Q (.ref p) (upd H p (.tup []))) ∧
  (xs ≠ [] → 2 ≤ k → ∀ p, H p = none → Q (.ref p) (upd H p (.tup (List.replicate k.toNat xs).flatten)))
theorem op_repA {X : Cx} : OpR X (binaryOp .Mult) (rRepA X.K) := by
  intro pins s σ H x y v u Q I rx ry h
  obtain ⟨l, k, xs, rfl, rfl, hT, h1, h2, hz, q1, q2, q3⟩ := h
  by_cases big : xs ≠ [] ∧ 2 ≤ k
  · exact op_repT pins s σ H (.ref l) (.int k) v u Q I rx ry ⟨l, k, xs, rfl, rfl, hT, big.1, big.2, h2, hz, q3 big.1 big.2⟩
  cases rx
  obtain ⟨t, rfl⟩ := ry
  obtain ⟨its, r, ⟨⟨cls, dd, data, sl⟩, ho, hc, n, hd⟩, hs⟩ := I.tuple hT
  simp only at hc hd
  subst hc hd
  have hle : its.length = xs.length := r.length.symm
  have c0 : (decide (k < -(2 ^ 63)) || decide (k ≥ 2 ^ 63)) = false := by
    rw [decide_eq_false (by omega), decide_eq_false (by omega)] <;> rfl
  by_cases c1 : (its.toArray.isEmpty || k == 1) = true
  · refine wpAny_binaryOp_repeat_ref (T := "tuple") (U := "int") (by decide) ⟨_, ho, rfl⟩ (fun s' => typeIs_int s' k t) noFill_tuple_mul F.fills_int_mul F.slot_int_rmul repeat_tuple F.slot_int_index.lookup
      (call_meets F.slot_int_rmul (typeIs_int s k t) F.entry_int_rmul (F.args_int_rmul_2 _ _) (int_rmul_tuple k t l its.toArray n dd sl)
        ⟨ho, rfl, ⟨_, ho, rfl⟩, call_meets F.slot_tuple_mul ⟨_, ho, rfl⟩ F.entry_tuple_mul (F.args_tuple_mul_2 _ _) (tuple_mul1 l its.toArray n dd sl k t c0 c1) ⟨ho, ?_⟩⟩)
    refine ⟨.ref l, H, I, rfl, q1 ?_⟩
    rcases (Bool.or_eq_true _ _).mp c1 with e | e
    · left
      have e0 : its = [] := by
        cases its with
        | nil => rfl
        | cons a b => cases e
      rw [e0] at hle
      exact List.eq_nil_of_length_eq_zero hle.symm
    · exact .inr (eq_of_beq e)
  · have c1 : (its.toArray.isEmpty || k == 1) = false := Bool.eq_false_iff.mpr c1
    have hk1 : k ≠ 1 := fun e => by
      rw [e] at c1
      simp at c1
    have hne : xs ≠ [] := fun e => by
      rw [e] at hle
      have e0 : its = [] := List.eq_nil_of_length_eq_zero hle
      rw [e0] at c1
      simp at c1
    have hk : k ≤ 0 := by
      by_cases c : 2 ≤ k
      · exact absurd ⟨hne, c⟩ big
      · omega
    have c2 : (decide (k ≤ 0) || its.toArray.isEmpty) = true := by
      rw [decide_eq_true hk]
      rfl
    refine wpAny_binaryOp_repeat_ref (T := "tuple") (U := "int") (by decide) ⟨_, ho, rfl⟩ (fun s' => typeIs_int s' k t) noFill_tuple_mul F.fills_int_mul F.slot_int_rmul repeat_tuple F.slot_int_index.lookup
      (call_meets F.slot_int_rmul (typeIs_int s k t) F.entry_int_rmul (F.args_int_rmul_2 _ _) (int_rmul_tuple k t l its.toArray n dd sl)
        ⟨ho, rfl, ⟨_, ho, rfl⟩, call_meets F.slot_tuple_mul ⟨_, ho, rfl⟩ F.entry_tuple_mul (F.args_tuple_mul_2 _ _) (tuple_mul0 l its.toArray n dd sl k t c0 c1 c2) ⟨ho, ?_⟩⟩)
    refine ⟨.ref s.heap.objs.size, _, I.laid (t' := s.toks) (o := .tup []) (fun b ob q => Heap.get?_push_of_some _ q) (Nat.le_refl _) ?_, rfl, q2 hne hk _ (I.hok.fresh (Nat.le_refl _))⟩
    exact ⟨by simp, [], .nil, IsTup.new _ _⟩
def rep (l : List D) (k : Int) : List D := (List.replicate k.toNat l).flatten
def pMulA : D → D → M D
  | .int i, .int j => pMul (.int i) (.int j)
  | .tup l, .int k => if (decide (-1000 ≤ k) && decide (k ≤ 1000) && decide (l.length ≤ 1000)) = true then M.ret (.tup (rep l k)) else fail
  | .lst l, .int k => if (decide (-1000 ≤ k) && decide (k ≤ 1000) && decide (l.length ≤ 1000)) = true then M.ret (.lst (rep l k)) else fail
  | _, _ => fail
theorem DVs.repN {K : PySem.W.Frag} {A : Wl} {H : Hp} {vs : List V} {ds : List D} (h : DVs K H A vs ds) : ∀ n : Nat, DVs K H A (List.replicate n vs).flatten (List.replicate n ds).flatten
  | 0 => .nil
  | n + 1 => by
    rw [List.replicate_succ, List.replicate_succ, List.flatten_cons, List.flatten_cons]
    exact h.append (DVs.repN h n)
def rMulA (K : PySem.W.Frag) : R2 := fun x y H Q => rI CMul (fun i j => .int (i * j)) x y H Q ∨ rRepA K x y H Q ∨ rRep x y H Q
theorem op_mulA {X : Cx} : OpR X (binaryOp .Mult) (rMulA X.K) := op_mul.or (op_repA.or op_rep)
theorem pMulA_ok {K : PySem.W.Frag} : P2 K (rMulA K) pMulA := by
  intro A μ H v w a b E Q m hv hw h
  cases hv with
  | int i => cases hw with
    | int j => exact .inl (pMul_ok A μ H _ _ _ _ E Q m (.int i) (.int j) h)
    | _ => exact h.no.elim
  | @tup p xs ds hp hx => cases hw with
    | int k =>
      obtain ⟨c, h⟩ := At.guard h
      simp only [Bool.and_eq_true, decide_eq_true_eq] at c
      obtain ⟨⟨c1, c2⟩, c3⟩ := c
      have hl : xs.length ≤ 1000 := by rw [hx.length]; exact c3
      refine .inr (.inl ⟨p, k, xs, rfl, rfl, hp.sq, c1, c2, hl, fun z => ?_, fun n z => ?_, fun n z => At.tup h m (hx.repN _)⟩)
      · have e : rep ds k = ds := by
          rcases z with z | z
          · subst z
            cases hx
            unfold rep
            simp
          · subst z
            unfold rep
            simp
        rw [e] at h
        exact h.ret m (.tup hp hx)
      · have e : rep ds k = [] := by
          unfold rep
          rw [show k.toNat = 0 by omega]
          rfl
        rw [e] at h
        exact At.tup h m .nil
    | _ => exact h.no.elim
  | @lst p xs ds hp hx => cases hw with
    | int k =>
      obtain ⟨c, h⟩ := At.guard h
      simp only [Bool.and_eq_true, decide_eq_true_eq] at c
      obtain ⟨⟨c1, c2⟩, c3⟩ := c
      have hl : xs.length ≤ 1000 := by rw [hx.length]; exact c3
      have a1 : xs.length * k.toNat ≤ 1000 * 1000 := Nat.mul_le_mul hl (by omega)
      exact .inr (.inr ⟨p, k, xs, rfl, rfl, hp.1, by omega, by omega, by rw [sizeLine_eq]; omega, At.lst h m (hx.repN _)⟩)
    | _ => exact h.no.elim
  | _ => exact h.no.elim
/-! ### three at once -/
section
variable {X : Cx} {W : WX} {pos : Pos}
def sPar3 (i j k : Nat) (fa : Ro → M (List D)) : SF := fun ρ => bndS (fa ρ) ρ fun l μ => match l with
  | [a, b, c] => some (.nx (((ρ.set i (some a)).set j (some b)).set k (some c)) μ)
  | _ => none
theorem ds_par3 (i j k : Nat) {x y z : Str} {a b c : Expr} {fa : Ro → M (List D)} {px py pz pt : Pos} {kt k2 pt2} (hc : X.calm = true) (hN : X.N.Nodup) (ha : DA X W [a, b, c] fa) (hw : swappedStores [.Tuple [.Name x px, .Name y py, .Name z pz] kt pt] (.Tuple [a, b, c] k2 pt2) X.env = pure (some [x, y, z]) := by rfl)
    (hi : X.N[i]? = some x := by rfl) (hj : X.N[j]? = some y := by rfl) (hk : X.N[k]? = some z := by rfl) (hij : i ≠ j := by decide) (hik : i ≠ k := by decide) (hjk : j ≠ k := by decide)
    (hx : X.env.scope.names.lookup x = some .local := by rfl) (hy : X.env.scope.names.lookup y = some .local := by rfl) (hz : X.env.scope.names.lookup z = some .local := by rfl)
    (hs : swapsWithSole [.Tuple [.Name x px, .Name y py, .Name z pz] kt pt] (.Tuple [a, b, c] k2 pt2) pos.line X.env = pure false := by rfl) :
    DS X W (.Assign [.Tuple [.Name x px, .Name y py, .Name z pz] kt pt] (.Tuple [a, b, c] k2 pt2) pos) (sPar3 i j k fa) := (ps_par3 hc hN hi hj hk hij hik hjk hx hy hz ha hw hs).imp fun D σ H h => tS.bnd h fun A ρ l μ vs H1 m rr rl ⟨r, e, hp⟩ => by
  cases rl with
  | nil => cases e
  | @cons v vs d ds h1 r1 => cases r1 with
    | nil => cases e
    | @cons v2 vs d2 ds h2 r2 => cases r2 with
      | nil => cases e
      | @cons v3 vs d3 ds h3 r3 => cases r3 with
        | nil =>
          cases e
          exact ⟨v, v2, v3, rfl, hp _ A H1 Ext.refl m (((rr.set h1).set h2).set h3)⟩
        | cons _ _ => cases e
/-! ### unpacking a list -/
def gTL (n : Nat) (gs : List D → Ro → Option Ro) : GF
  | .lst l, ρ => if l.length = n then gs l ρ else none
  | .fls l, ρ => if l.length = n then gs l ρ else none
  | _, _ => none
theorem dg_lst {es : List Expr} {k : Nat} {ss : List Nat} {gs : List D → Ro → Option Ro} {n : Nat} (hc : X.calm = true) (h : DGs X es ss gs) (hn : (assignEach es X.env).length = n := by rfl) (hst : (assignEach es X.env).findIdx? (·.1) = none := by rfl) : DG X (.Tuple es k pos) ss (gTL n gs) :=
  (pg_unl hc h hn hst).imp fun v σ H Q ⟨A, ρ, d, ρ', rr, rl, e, q⟩ => by
    cases rl with
    | @lst a xs ds hp hx =>
      simp only [gTL] at e
      by_cases c : ds.length = n
      · rw [if_pos c] at e
        exact ⟨a, xs, rfl, hp.sq, hx.length.trans c, A, ρ, ds, ρ', rr, hx, e, q⟩
      · rw [if_neg c] at e
        cases e
    | @fls a xs ds hp hx =>
      simp only [gTL] at e
      by_cases c : ds.length = n
      · rw [if_pos c] at e
        exact ⟨a, xs, rfl, hp.sq, hx.length.trans c, A, ρ, ds, ρ', rr, hx, e, q⟩
      · rw [if_neg c] at e
        cases e
    | _ => cases e
/-! ### list(range(..)) -/
theorem rgV_D {K : PySem.W.Frag} {A : Wl} {H : Hp} (lo hi : Int) : DVs K H A (rgV lo hi) (rangeD lo (hi - lo).toNat) := by
  unfold rgV rangeD
  generalize List.range (hi - lo).toNat = l
  induction l with
  | nil => exact .nil
  | cons a l ih => exact .cons (.int _) ih
def eLr1 (f : Ro → M D) : Ro → M D := fun ρ => M.bnd (f ρ) fun d => match d with
  | .int n => if (decide (-1000000 < n) && decide (n < 1000000)) = true then M.ret (.lst (rangeD 0 (n - 0).toNat)) else fail
  | _ => fail
def eLr2 (f f2 : Ro → M D) : Ro → M D := fun ρ => M.bnd (f ρ) fun d => M.bnd (f2 ρ) fun d2 => match d, d2 with
  | .int lo, .int n => if (decide (-1000000 < n) && decide (n < 1000000) && decide (-1000000 < lo) && decide (lo < 1000000)) = true then M.ret (.lst (rangeD lo (n - lo).toNat)) else fail
  | _, _ => fail
theorem de_listRg1 {a : Expr} {f : Ro → M D} {p p1 p2 pos2 : Pos} (hc : X.calm = true) (hg : Gl X "list") (hm : X.mg "list" = none) (hgr : Gl X "range") (hmr : X.mg "range" = none) (ha : DE X W a f)
    (na : starEach [a] X.env = (false, eval a X.env) :: starEach [] X.env := by rfl) (nb : starEach [.Call (.Name "range" p) [a] [] p1] X.env = (false, eval (.Call (.Name "range" p) [a] [] p1) X.env) :: starEach [] X.env := by rfl) :
    DE X W (.Call (.Name "list" p2) [.Call (.Name "range" p) [a] [] p1] [] pos2) (eLr1 f) :=
  (pe_listRg hc hg hm (prg_1 hgr hmr ha na) nb).imp fun σ H Q h => tG.bnd h fun A ρ d μ v H1 m rr rl h1 => by
    cases rl with
    | int n =>
      obtain ⟨c, h2⟩ := At.guard h1
      simp only [Bool.and_eq_true, decide_eq_true_eq] at c
      exact ⟨n, rfl, ⟨by omega, by omega, by omega, by omega, by omega⟩, At.lst h2 m (rgV_D 0 n)⟩
    | _ => exact h1.no.elim
theorem de_listRg2 {a b : Expr} {f f2 : Ro → M D} {p p1 p2 pos2 : Pos} (hc : X.calm = true) (hg : Gl X "list") (hm : X.mg "list" = none) (hgr : Gl X "range") (hmr : X.mg "range" = none) (ha : DE X W a f) (hb : DE X W b f2)
    (na : starEach [a, b] X.env = (false, eval a X.env) :: starEach [b] X.env := by rfl) (nb : starEach [b] X.env = (false, eval b X.env) :: starEach [] X.env := by rfl) (hp : (backTo p1 (starEach [b] X.env)).any (·.1) = false := by rfl)
    (nc : starEach [.Call (.Name "range" p) [a, b] [] p1] X.env = (false, eval (.Call (.Name "range" p) [a, b] [] p1) X.env) :: starEach [] X.env := by rfl) :
    DE X W (.Call (.Name "list" p2) [.Call (.Name "range" p) [a, b] [] p1] [] pos2) (eLr2 f f2) :=
  (pe_listRg hc hg hm (prg_2 hgr hmr ha hb na nb hp) nc).imp fun σ H Q h => tG.bnd h fun A ρ d μ v H1 m rr rl h1 => ⟨A, ρ, μ, m, rr, At.bnd h1 fun d2 μ2 v2 A2 H2 x2 m2 rl2 h2 => by
    cases rl with
    | int lo => cases rl2 with
      | int n =>
        obtain ⟨c, h3⟩ := At.guard h2
        simp only [Bool.and_eq_true, decide_eq_true_eq] at c
        exact ⟨lo, n, rfl, rfl, ⟨by omega, by omega, by omega, by omega, by omega⟩, At.lst h3 m2 (rgV_D lo n)⟩
      | _ => exact h2.no.elim
    | _ => cases rl2 <;> exact h2.no.elim⟩
end
end Dn

set_option Elab.async false
set_option linter.all false
set_option maxRecDepth 100000
set_option maxHeartbeats 4000000
/-! DnO: enumerate over tuples and lists. -/
namespace Dn
open PySem PySem.Spec L2
open PyProof.Rows hiding St

/-! ### enumerate over a tuple -/
theorem meets_enumerate_tup (l : Addr) (items : Array Value) (n : Nat) (dd : Option Addr) (sl : Array (Option Value)) :
    Meets (Builtin.«enumerate.__new__» ⟨[.type "enumerate", .ref l], []⟩) (fun _ R s => s.heap.get? l = some { cls := .type "tuple", dict := dd, data := .seq items n, slots := sl } ∧
      R (.ok (.ret (.ref (s.heap.push { cls := .type "tuple_iterator", data := .fields #[.ref l, .int 0 0] }).objs.size)))
        { s with heap := (s.heap.push { cls := .type "tuple_iterator", data := .fields #[.ref l, .int 0 0] }).push { cls := .type "enumerate", data := .fields #[.none, .bool false, .ref s.heap.objs.size, rawInt 0, .none, .none] } }) :=
  .of_wp fun prog w A R s h => by
    obtain ⟨hp, g, d, tk, os⟩ := s; obtain ⟨hl, h⟩ := h
    have hsub := sub_enumerate
    have hL : Heap.IsTuple (Shared.heap ⟨hp, g, d, tk, os⟩) l items := ⟨_, hl, rfl, n, rfl⟩
    wp_walk using wpAny_loadPart' hl
    refine wpAny_stack_any fun st => wpAny_pure ?_
    split
    · rename_i c _ _ _ _ _
      cases (c == Value.type "enumerate")
      · wp_walk using wpAny_loadPart' hl, wpAny_pyIter_tuple hL
        exact ⟨_, rfl, h⟩
      · wp_walk using wpAny_loadPart' hl, wpAny_pyIter_tuple hL
        exact ⟨_, rfl, h⟩
    · wp_walk using wpAny_loadPart' hl, wpAny_pyIter_tuple hL
      exact ⟨_, rfl, h⟩
section
variable {prog : Program} {w : World} {A : Around} {E : Value → Shared → Prop} {s : Shared}
theorem call_enumerate_tup {l : Addr} {items : Array Value} {Q : Value → Shared → Prop} (hL : s.heap.IsTuple l items)
    (h : ∀ h', IsEnum h' (s.heap.objs.size + 1) s.heap.objs.size 0 .none → h'.IsTupleIter s.heap.objs.size l 0 → h'.objs.size = s.heap.objs.size + 2 →
      (∀ b o, s.heap.get? b = some o → h'.get? b = some o) → Q (.ref (s.heap.objs.size + 1)) { s with heap := h' }) :
    wpAny (model prog w) A (call (.type "enumerate") [.ref l]) Q E s := by
  obtain ⟨⟨c, dct, dt, sl⟩, hl, hc, n, hd⟩ := hL
  replace hc : c = .type "tuple" := hc
  replace hd : dt = .seq items n := hd
  subst hc hd
  refine callType_new F.called_enumerate (by decide) (F.typeCall_enumerate_1 _) (F.newCall_enumerate_1 _) (fun obj => F.args_object_init_2 obj _) F.entry_enumerate_new
    (meets_enumerate_tup l items n dct sl) ⟨hl, ?_⟩
  have hz : (s.heap.push { cls := .type "tuple_iterator", data := .fields #[.ref l, .int 0 0] }).objs.size = s.heap.objs.size + 1 := Heap.size_push ..
  show _ ∧ _
  rw [hz]
  have he : IsEnum ((s.heap.push { cls := .type "tuple_iterator", data := .fields #[.ref l, .int 0 0] }).push
      { cls := .type "enumerate", data := .fields #[.none, .bool false, .ref s.heap.objs.size, rawInt 0, .none, .none] }) (s.heap.objs.size + 1) s.heap.objs.size 0 .none := by
    have := Heap.get?_push_size (s.heap.push { cls := .type "tuple_iterator", data := .fields #[.ref l, .int 0 0] })
      (o := { cls := .type "enumerate", data := .fields #[.none, .bool false, .ref s.heap.objs.size, rawInt 0, .none, .none] }) rfl
    rw [hz] at this; exact this
  refine ⟨⟨_, he, rfl⟩, h _ he ⟨_, Heap.get?_push_of_some _ (Heap.get?_push_size _ rfl), rfl, rfl⟩ (by rw [Heap.size_push, hz]) fun b o x => Heap.get?_push_of_some _ (Heap.get?_push_of_some _ x)⟩
end
/-- the tuple at a, each item in a new pair -/
def IteT (K : PySem.W.Frag) (a : Addr) : It :=
  ⟨fun i H => ∃ (xs : List V) (x : V), SqT K H a xs ∧ xs[i]? = some x, fun i H v H' => ∃ T x, v = .ref T ∧ H T = none ∧ H' = upd H T (.tup [.int (i : Nat), x]) ∧ ∀ xs, SqT K H a xs → xs[i]? = some x, fun i H => ∃ xs : List V, SqT K H a xs ∧ xs.length ≤ i⟩
theorem turn_enumT {P : Program} {w : World} {K : PySem.W.Frag} {elts : List Expr} {kk : Nat} {tpos : Pos} (a e it : Addr) :
    Turn P w K (.Tuple elts kk tpos) (IteT K a) [e, it] e (fun i h => (∃ old, IsEnum h e it ((i : Nat) : Int) old) ∧ h.IsTupleIter it a i ∧ e ≠ it ∧ a ≠ it ∧ a ≠ e) where
  mem := by simp
  obj := fun i h st b hb => by
    obtain ⟨⟨old, he⟩, ⟨o, ho, hc, hd⟩, _⟩ := st
    have e' : b = e ∨ b = it := by simpa using hb
    rcases e' with z | z
    · rw [z]; exact ⟨_, he, fun v q => nomatch q⟩
    · rw [z]; exact ⟨o, ho, fun v q => by rw [hd] at q; cases q⟩
  keep := fun i h h' st k => let ⟨⟨old, he⟩, hi, hne⟩ := st; ⟨⟨old, k e (by simp) _ he⟩, hi.at fun o q => k it (by simp) o q, hne⟩
  item := by
    intro X hP hw hK hc i pins s σ H E I hf st hg
    subst hP hw hK
    obtain ⟨⟨old, he⟩, hit, hne, hai, hae⟩ := st
    obtain ⟨xs, x, hq, hx⟩ := hg
    obtain ⟨its, rv, p, hz⟩ := I.tuple hq
    obtain ⟨u, hu, ru⟩ := rv.get hx
    have hel : e < s.heap.objs.size := Heap.lt_size he
    have hil : it < s.heap.objs.size := by obtain ⟨_, q, _⟩ := hit; exact Heap.lt_size q
    have hT0 : s.heap.IsTuple a its.toArray := p
    have hlt : i < its.toArray.size := by
      have := (List.getElem?_eq_some_iff.mp hu).1
      simpa using this
    refine wpAny_pyNext_enum_itemD (Draws.tuple (A := X.A.in1) (I.ok.hd hc) it a hai its.toArray) he ⟨hit, hT0⟩ hlt hne (by simp [hne, Ne.symm hae]) fun u' h' tk hPx ho st' hT hsz hk => ?_
    have eu : u' = u := by
      have hPx : its.toArray[i]? = some u' := hPx
      have : its.toArray[i]? = some u := by simpa using hu
      rw [this] at hPx
      exact (Option.some.inj hPx).symm
    subst eu
    refine ⟨_, rfl, wpAny_letOwnedTupleGo_enum (s := { s with heap := h', toks := tk + 1 }) ho fun h'' he' sb => ?_⟩
    have hT2 : h''.get? s.heap.objs.size = some { cls := .type "tuple", data := .seq #[.int i tk, u'] } := (sb.2 _ (Nat.ne_of_gt hel)).trans hT
    have new : ObjOk X.prog X.w (upd H s.heap.objs.size (.tup [.int (i : Nat), x])) h'' s.heap.objs.size (.tup [.int (i : Nat), x]) :=
      ⟨by show 2 ≤ sizeLine; decide, [.int i tk, u'], .cons ⟨_, rfl⟩ (.cons ru .nil), ⟨_, hT2, rfl, _, rfl⟩⟩
    have I1 : Inv X pins σ (upd H s.heap.objs.size (.tup [.int (i : Nat), x])) { s with heap := h'', toks := tk + 1 } :=
      I.turnedNew (ch := [e, it]) (fun b ob hb q => (sb.2 b (fun z => hb (by simp [z]))).trans (hk b ob (fun z => hb (by simp [z])) (fun z => hb (by simp [z])) q)) hf (Nat.le_refl _) new
    refine ⟨.ref s.heap.objs.size, _, I1, rfl, ⟨_, x, rfl, I.hok.fresh (Nat.le_refl _), rfl, fun ys hy => by rw [I.tuple_inj hy hq]; exact hx⟩, ⟨⟨u', ?_⟩, st'.1.at fun o q => (sb.2 it (Ne.symm hne)).trans q, hne, hai, hae⟩, fun b hb => ?_⟩
    · have e1 : ((i + 1 : Nat) : Int) = (i : Int) + 1 := by omega
      rw [e1]; exact he'
    · have hb' : b < s.heap.objs.size := by
        have e' : b = e ∨ b = it := by simpa using hb
        rcases e' with z | z
        · rw [z]; exact hel
        · rw [z]; exact hil
      rw [upd_ne (Nat.ne_of_lt hb')]
      exact (hf b hb).1
  done := by
    intro X hP hw hK hc i pins s σ H E I hf st hg
    subst hP hw hK
    obtain ⟨⟨old, he⟩, hit, hne, hai, hae⟩ := st
    obtain ⟨xs, hq, hx⟩ := hg
    obtain ⟨its, rv, p, hz⟩ := I.tuple hq
    have hT0 : s.heap.IsTuple a its.toArray := p
    have hl := rv.length
    unfold pyNext
    refine wpAny_bind (wpAny_attempt (wpAny_callSpecial?_slot (name := Str.ofString "__next__") ⟨_, he, rfl⟩ F.slot_enumerate_next
      (wpAny_call_entry F.slot_enumerate_next ⟨_, he, rfl⟩ F.entry_enumerate_next ?_ (F.args_enumerate_next_1 _))))
    show wpAny _ _ (field (.ref e) 2 >>= _) _ _ _
    refine wpAny_bind (wpAny_field he rfl (x := .ref it) rfl ?_)
    refine wpAny_bind (wpAny_nextOf_tuple_end (A := X.A.in1) (I.ok.hd hc) hit hT0 (i := i) (by simp; omega) fun h' x he' hx' => ?_)
    obtain ⟨o, ho, hco⟩ := hx'
    refine wpAny_bind (wpAny_isInstance (T := "StopIteration") (b := true) ⟨o, ho, hco⟩ isSubtype_stop ?_)
    obtain ⟨f0, f1, f2, f3, f4, f5⟩ := hf it (by simp)
    exact wpAny_pure ⟨rfl, I.turned (t' := s.toks) (fun b o hb q => he' b o hb q) f0 f1 f3 f4 f5⟩
  self := fun A i s Q E st h => let ⟨⟨_, he⟩, _⟩ := st; wpAny_pyIter_enum he h
/-- enumerate of either -/
def iEnumA (K : PySem.W.Frag) (ta : TA) : TI := fun σ H R => ta σ H fun vs H1 => ∃ a, vs = [.ref a] ∧ (((∃ xs, SqL K H1 a xs) ∧ R (Ite K a) H1) ∨ ((∃ xs, SqT K H1 a xs) ∧ R (IteT K a) H1))
theorem pi_enumA {X : Cx} {e : Expr} {ta : TA} {p pos tpos : Pos} {elts : List Expr} {kk : Nat} (hg : Gl X "enumerate") (hm : X.mg "enumerate" = none) (ha : PA X [e] ta) (hs : starEach [e] X.env = [(false, eval e X.env)] := by rfl) :
    PI X (.Tuple elts kk tpos) (.Call (.Name "enumerate" p) [e] [] pos) (iEnumA X.K ta) := by
  refine ⟨fun pins s σ H R I h => ?_⟩
  refine Call_ (ld_blt I hg hm PyProof.Rows.boot_enumerate (PyProof.Rows.callWith_type1 (thn (ha.run pos pins s σ H _ I h) fun us s1 ⟨vs, H1, I1, r1, q1⟩ => ?_) hs rfl))
  · obtain ⟨a, ex, hh⟩ := q1
    subst ex
    cases r1 with
    | cons r rr =>
      cases rr
      cases r
      rcases hh with ⟨⟨xs, hq⟩, q⟩ | ⟨⟨xs, hq⟩, q⟩
      · obtain ⟨its, rv, p', hz⟩ := I1.list hq
        refine call_enumerate_list p'.isList fun h' he hit hsz hk => wpAny_pyIter_enum he ?_
        have I2 : Inv X pins σ H1 { s1 with heap := h' } := I1.kept (t' := s1.toks) hk
        refine ⟨s1.heap.objs.size + 1, [s1.heap.objs.size + 1, s1.heap.objs.size], _, _, H1, rfl, I2, turn_enum a (s1.heap.objs.size + 1) s1.heap.objs.size, ⟨⟨.none, he⟩, hit, Nat.succ_ne_self _⟩, fun b hb => ?_, q⟩
        have e' : b = s1.heap.objs.size + 1 ∨ b = s1.heap.objs.size := by simpa using hb
        have hle : s1.heap.objs.size ≤ b := by
          rcases e' with z | z
          · rw [z]; exact Nat.le_add_right _ _
          · rw [z]; exact Nat.le_refl _
        exact I1.fpOk hle (I1.hok.fresh hle)
      · obtain ⟨its, rv, p', hz⟩ := I1.tuple hq
        have hlt : a < s1.heap.objs.size := p'.lt
        refine call_enumerate_tup (show s1.heap.IsTuple a its.toArray from p') fun h' he hit hsz hk => wpAny_pyIter_enum he ?_
        have I2 : Inv X pins σ H1 { s1 with heap := h' } := I1.kept (t' := s1.toks) hk
        refine ⟨s1.heap.objs.size + 1, [s1.heap.objs.size + 1, s1.heap.objs.size], _, _, H1, rfl, I2, turn_enumT a (s1.heap.objs.size + 1) s1.heap.objs.size, ⟨⟨.none, he⟩, hit, Nat.succ_ne_self _, Nat.ne_of_lt hlt, Nat.ne_of_lt (Nat.lt_succ_of_lt hlt)⟩, fun b hb => ?_, q⟩
        have e' : b = s1.heap.objs.size + 1 ∨ b = s1.heap.objs.size := by simpa using hb
        have hle : s1.heap.objs.size ≤ b := by
          rcases e' with z | z
          · rw [z]; exact Nat.le_add_right _ _
          · rw [z]; exact Nat.le_refl _
        exact I1.fpOk hle (I1.hok.fresh hle)

def enumD (l : List D) : List D := (List.range l.length).zipWith (fun i d => D.tup [.int (i : Nat), d]) l
theorem enumD_get {l : List D} {i : Nat} {d : D} (h : (enumD l)[i]? = some d) : ∃ x, l[i]? = some x ∧ d = .tup [.int (i : Nat), x] := by
  unfold enumD at h
  rw [List.getElem?_zipWith] at h
  cases q : l[i]? with
  | none => simp [q] at h
  | some x =>
    have hi := (List.getElem?_eq_some_iff.mp q).1
    rw [List.getElem?_range hi, q] at h
    exact ⟨x, rfl, (Option.some.inj h).symm⟩
theorem enumD_len (l : List D) : (enumD l).length = l.length := by
  unfold enumD
  simp
theorem pair_new {K : PySem.W.Frag} {A : Wl} {μ : Mu} {H : Hp} {T : Addr} {i : Int} {v : V} {d : D} (m : MuOk K A μ H) (n : H T = none) (h : DV K H A v d) : Ext A H A (upd H T (.tup [.int i, v])) ∧ MuOk K A μ (upd H T (.tup [.int i, v])) ∧ DV K (upd H T (.tup [.int i, v])) A (.ref T) (.tup [.int i, d]) :=
  ⟨Ext.new n, m.new n, DV.new_tup m n (.cons (.int i) (.cons h .nil))⟩
def srcEn (f : Ro → M D) : Src := fun ρ => M.bnd (f ρ) fun d => match d with
  | .tup l => M.ret (enumD l, none)
  | .lst l => M.ret (enumD l, none)
  | .fls l => M.ret (enumD l, none)
  | _ => fail
theorem feeds_enL {K : PySem.W.Frag} {A : Wl} {H : Hp} {a : Addr} {xs : List V} {l : List D} (h : ∀ A' H', Ext A H A' H' → SqL K H' a xs) (hx : DVs K H A xs l) : Feeds K (Ite K a) (enumD l) none A H where
  go := fun i A' H' μ e m _ hi => by
    have hi2 : i < xs.length := by rw [hx.length, ← enumD_len]; exact hi
    exact ⟨xs, xs[i], h A' H' e, List.getElem?_eq_getElem hi2⟩
  stop := fun i A' H' μ e m _ hi => ⟨xs, h A' H' e, by rw [hx.length, ← enumD_len]; exact hi⟩
  yld := fun i A' H' μ x H'' d e m _ hd y => by
    obtain ⟨T, v, rfl, nT, rfl, y⟩ := y
    obtain ⟨d0, h0, rfl⟩ := enumD_get hd
    obtain ⟨v', h1, h2⟩ := hx.get h0
    have := y xs (h A' _ e)
    rw [h1] at this
    cases this
    exact pair_new m nT (h2.ext e)
theorem feeds_enT {K : PySem.W.Frag} {A : Wl} {H : Hp} {a : Addr} {xs : List V} {l : List D} (h : ∀ A' H', Ext A H A' H' → SqT K H' a xs) (hx : DVs K H A xs l) : Feeds K (IteT K a) (enumD l) none A H where
  go := fun i A' H' μ e m _ hi => by
    have hi2 : i < xs.length := by rw [hx.length, ← enumD_len]; exact hi
    exact ⟨xs, xs[i], h A' H' e, List.getElem?_eq_getElem hi2⟩
  stop := fun i A' H' μ e m _ hi => ⟨xs, h A' H' e, by rw [hx.length, ← enumD_len]; exact hi⟩
  yld := fun i A' H' μ x H'' d e m _ hd y => by
    obtain ⟨T, v, rfl, nT, rfl, y⟩ := y
    obtain ⟨d0, h0, rfl⟩ := enumD_get hd
    obtain ⟨v', h1, h2⟩ := hx.get h0
    have := y xs (h A' _ e)
    rw [h1] at this
    cases this
    exact pair_new m nT (h2.ext e)
theorem di_enum {X : Cx} {W : WX} {e : Expr} {f : Ro → M D} {p pos tpos : Pos} {elts : List Expr} {kk : Nat} (hg : Gl X "enumerate") (hm : X.mg "enumerate" = none) (he : DE X W e f) (hs : starEach [e] X.env = [(false, eval e X.env)] := by rfl) :
    DI X W (.Tuple elts kk tpos) (.Call (.Name "enumerate" p) [e] [] pos) (srcEn f) :=
  (pi_enumA hg hm (pa_cons he pa_nil (by rw [hs] <;> rfl)) hs).imp fun σ H R h => tG.bnd h fun A ρ d μ v H1 m rr rl h1 => by
    cases rl with
    | @tup a xs ds hp hx => exact ⟨a, rfl, .inr ⟨⟨xs, hp.sq⟩, h1.ret m (feeds_enT (fun A' H' e' => (hp.ext e').sq) hx)⟩⟩
    | @lst a xs ds hp hx => exact ⟨a, rfl, .inl ⟨⟨xs, hp.sq⟩, h1.ret m (feeds_enL (fun A' H' e' => (hp.ext e').sq) hx)⟩⟩
    | @fls a xs ds hp hx => exact ⟨a, rfl, .inl ⟨⟨xs, hp.sq⟩, h1.ret m (feeds_enL (fun A' H' e' => (hp.ext e').sq) hx)⟩⟩
    | _ => exact h1.no.elim
end Dn

set_option Elab.async false
set_option linter.all false
set_option maxRecDepth 100000
set_option maxHeartbeats 4000000
/-! DnP: a comprehension whose tests may look at the frame around it. -/
namespace Dn
open PySem PySem.Spec L2
open PyProof.Rows hiding St

/-- the frame around, as the block begins -/
structure Back (X : Cx) (pins : List (Addr × Obj)) (σ : St) (H : Hp) (s : Shared) (fp : List Addr) : Prop where
  inv : Inv X pins σ H s
  fp : ∀ b ∈ fp, FpOk X pins H b ∧ b < s.heap.objs.size
/-- .. and at any time within it -/
theorem Back.at {X : Cx} {pins pins2 : List (Addr × Obj)} {σ σ2 : St} {H H2 : Hp} {s s2 : Shared} {fp : List Addr} {scope : Scope} {ce : Env} (b : Back X pins σ H s fp) (J : Inv (X.blk s H scope ce fp) pins2 σ2 H2 s2) : Inv X pins σ H2 s2 :=
  b.inv.call' (ch := fp) J.os J.base J.hok J.bare fun c hc => by
    obtain ⟨⟨_, h1, _, h2, h3, h4⟩, _⟩ := b.fp c hc
    exact ⟨h2, h1, h3, h4⟩
section
variable {X : Cx}
theorem lcI_run {pins : List (Addr × Obj)} {s : Shared} {σ : St} {H : Hp} {Q : VK} {elt tg iter : Expr} {ifs : List Expr} {scope : Scope} {own : List (Str × Nat)} {pos : Pos} {wi : TI} {g : TG} {tt : TT} {te : TE}
    (hc : X.calm = true) (hN : X.N.Nodup) (I : Inv X pins σ H s) (hi : PI X tg iter wi) (ok : BlkOk X.N X.env.scope scope own)
    (hg : ∀ (t : Shared) (G : Hp) (C : Addr) (cl : List (Str × Addr)) (fp : List Addr), PG (X.blk t G scope (compEnvC scope cl C X.env) fp) tg g)
    (ht : ∀ (t : Shared) (G : Hp) (C : Addr) (cl : List (Str × Addr)) (fp : List Addr), Back X pins σ G t fp → PTs (X.blk t G scope (compEnvC scope cl C X.env) fp) ifs tt)
    (he : ∀ (t : Shared) (G : Hp) (C : Addr) (cl : List (Str × Addr)) (fp : List Addr), PE (X.blk t G scope (compEnvC scope cl C X.env) fp) elt te) (hs : ∀ x, foldedSetIterable iter X.env x = pure x)
    (h : tLc wi g tt te (own.map (·.2)) σ H Q) : wpAny (model X.prog X.w) X.A (eval (.ListComp elt [⟨tg, iter, ifs, 0⟩] scope pos) X.env) (EP X pins σ Q) X.xe s := by
  rw [eval_ListComp]
  have captured : ∀ z ∈ scope.names, z.2 = .free → ∃ a, X.env.cells.lookup z.1 = some a := fun z hz ez => (ok.free z hz ez).elim (fun q => I.ok.has _ (.inl q)) fun q => I.ok.has _ (.inr q)
  refine wpAny_comprehension_free (use := none) rfl hs (closure_ok captured) ok.kind (fun z hz ez => by rw [ok.uniq z hz, ez]) (thn (hi.run pins s σ H _ I h) fun v0 sa ha => thn ha fun v1 sb hb => ?_)
  obtain ⟨it, fp, tn, J, Hb, rfl, Ib, T, stb, fb, q⟩ := hb
  refine wpAny_newObj_type (newEnv_comp ?_) (by show 0 ≤ sizeLine; decide)
  generalize eD : sb.heap.objs.size = D0
  have nD : Hb D0 = none := Ib.hok.fresh (Nat.le_of_eq eD)
  obtain ⟨Wv, ⟨m0, w0⟩, turn⟩ := q D0 nD
  generalize es : ({ sb with heap := sb.heap.push { cls := .type "list", data := .seq ([] : List Value).toArray } } : Shared) = sc
  have hpush : sc.heap = sb.heap.push { cls := .type "list", data := .seq ([] : List Value).toArray } := by rw [← es]
  have Ic : Inv X pins σ (upd Hb D0 (.lst [])) sc := by
    rw [← es]
    refine Ib.laid (t' := sb.toks) (fun b o eb => Heap.get?_push_of_some _ eb) (Nat.le_of_eq eD) ⟨Nat.zero_le _, [], 0, .nil, ?_⟩
    rw [← eD]
    exact Heap.get?_push_size _ rfl
  have below : ∀ b ∈ fp, b < sb.heap.objs.size := fun b hb => by
    obtain ⟨o, eb, _⟩ := T.obj _ _ stb b hb
    exact Heap.lt_size eb
  have fc : ∀ b ∈ fp, FpOk X pins (upd Hb D0 (.lst [])) b ∧ b < sc.heap.objs.size := fun b hb => by
    have lb := below b hb
    refine ⟨⟨?_, (fb b hb).2⟩, by rw [hpush, Heap.size_push]; exact Nat.lt_succ_of_lt lb⟩
    rw [upd_ne (by rw [← eD]; exact Nat.ne_of_lt lb)]
    exact (fb b hb).1
  have stc : tn 0 sc.heap := T.keep _ _ _ stb fun b _ o eb => by rw [hpush]; exact Heap.get?_push_of_some _ eb
  have Id := block_start Ic ok hN fc
  have bk : Back X pins σ (upd Hb D0 (.lst [])) sc fp := ⟨Ic, fc⟩
  have gg := hg sc (upd Hb D0 (.lst [])) sc.heap.objs.size (cellsFrom (sc.heap.objs.size + 1) scope.names (cloFrom X.env.cells scope.names [])) fp
  have gt := ht sc (upd Hb D0 (.lst [])) sc.heap.objs.size (cellsFrom (sc.heap.objs.size + 1) scope.names (cloFrom X.env.cells scope.names [])) fp bk
  have ge := he sc (upd Hb D0 (.lst [])) sc.heap.objs.size (cellsFrom (sc.heap.objs.size + 1) scope.names (cloFrom X.env.cells scope.names [])) fp
  show codeAny _ _ (.compStart (.ListComp elt [⟨tg, iter, ifs, 0⟩] scope pos) 0 (.ref it) (.ref D0) (compEnvC scope (cellsFrom (sc.heap.objs.size + 1) scope.names (cloFrom X.env.cells scope.names [])) sc.heap.objs.size X.env)) (compPost (model X.prog X.w) X.A X.xe none (EP X pins σ Q) (.ref D0) sc.heap.objs.size) { sc with heap := pushCells (sc.heap.push { cls := .type "dict", data := .dict #[] }) scope.names }
  have apart : ∀ b ∈ fp, (upd Hb D0 (.lst [])) b = none := fun b hb => (fc b hb).1.1
  generalize ece : compEnvC scope (cellsFrom (sc.heap.objs.size + 1) scope.names (cloFrom X.env.cells scope.names [])) sc.heap.objs.size X.env = ce at Id gg gt ge ⊢
  have lce : ce.locals = sc.heap.objs.size := by subst ece; rfl
  generalize eHc : upd Hb D0 (.lst []) = Hc at Ic Id gg gt ge w0 apart fc
  generalize esd : ({ sc with heap := pushCells (sc.heap.push { cls := .type "dict", data := .dict #[] }) scope.names } : Shared) = sd at Id ⊢
  have std : tn 0 sd.heap := T.keep _ _ _ stc fun b _ o eb => by rw [← esd]; exact pushCells_keeps _ _ _ _ (Heap.get?_push_of_some _ eb)
  have own_fp : ∀ {τ : St} {G : Hp} {t : Shared}, Inv (X.blk sc Hc scope ce fp) [] τ G t → (∀ b ∈ fp, G b = none) → ∀ b ∈ fp, FpOk (X.blk sc Hc scope ce fp) [] G b := fun {τ G t} K hn b hb =>
    ⟨hn b hb, (K.ok.exf b hb).1, K.ok.exfs b hb, .inl hb, fun x c ec => (K.ok.exf b hb).2 x c ec, fun p hp => absurd (show p ∈ ([] : List (Addr × Obj)) ++ [] from hp) (by simp)⟩
  have loop : codeAny (model X.prog X.w) X.A (.compLoop (.ListComp elt [⟨tg, iter, ifs, 0⟩] scope pos) 0 (.ref it) (.ref D0) ce) (compPost (model X.prog X.w) X.A X.xe none (EP X pins σ Q) (.ref D0) sc.heap.objs.size) sd := by
    refine compLoop_any (fun n t => ∃ i G, Inv (X.blk sc Hc scope ce fp) [] (wipe σ (own.map (·.2))) G t ∧ tn i t.heap ∧ (∀ b ∈ fp, G b = none) ∧ Wv i n G) ?_ m0 ⟨0, Hc, Id, std, apart, w0⟩
    rintro n s5 ⟨i, H5, I5, st5, n5, w5⟩
    rcases turn i n H5 w5 with ⟨stop, qq⟩ | ⟨go, Nx, hNx, step⟩
    · refine thnF (T.done (X.blk sc Hc scope ce fp) rfl rfl rfl hc i [] s5 _ H5 (fun _ _ => False) I5 (own_fp I5 n5) st5 stop) fun r s6 ⟨hr, I6⟩ => ?_
      subst hr
      have I7 : Inv X pins σ H5 s6 := Ic.call' (ch := fp) I6.os I6.base I6.hok I6.bare fun b hb => by
        obtain ⟨⟨_, k1, _, k2, k3, k4⟩, _⟩ := fc b hb
        exact ⟨k2, k1, k3, k4⟩
      have nC : H5 sc.heap.objs.size = none := by
        have z : H5 ce.locals = none := I6.free
        rwa [lce] at z
      obtain ⟨m, hn, _⟩ := I6.loc
      have hn : s6.heap.Ns ce.locals m := hn
      rw [lce] at hn
      obtain ⟨f0, f1, f2, f3, f4, f5⟩ := Ic.fpOk (Nat.le_refl _) nC
      exact ⟨m, hn, fun h'' sbt => ⟨.ref D0, H5, I7.turned (t' := s6.toks) (fun b o hb eb => (sbt.2 b hb).trans eb) f0 f1 f3 f4 f5, rfl, qq⟩⟩
    · refine thnF (T.item (X.blk sc Hc scope ce fp) rfl rfl rfl hc i [] s5 _ H5 (fun _ _ => False) I5 (own_fp I5 n5) st5 go) fun r s6 ⟨u, hr, h6⟩ => ?_
      subst hr
      refine thnF h6 fun _ s7 ⟨x, H7, I7, r7, y7, st7, n7⟩ => ?_
      refine thnF (gg.run _ s7 _ H7 x u _ (I7.pinned (own_fp I7 n7) (T.obj _ _ st7)) r7 (step x H7 y7)) fun _ s8 ⟨σ8, H8, I8, hw8, q8⟩ => ?_
      refine thnF (gt.run _ s8 σ8 H8 _ I8 q8) fun b s9 ⟨H9, I9, q9⟩ => ?_
      have fin : ∀ {t : Shared} {G : Hp}, Inv (X.blk sc Hc scope ce fp) ([] ++ pinsAt fp s7.heap) σ8 G t → Nx G → ∃ m, m < n ∧ ∃ i G, Inv (X.blk sc Hc scope ce fp) [] (wipe σ (own.map (·.2))) G t ∧ tn i t.heap ∧ (∀ b ∈ fp, G b = none) ∧ Wv i m G := fun {t G} I' nx => by
        obtain ⟨m', lm, w'⟩ := hNx G nx
        have stay : ∀ b ∈ fp, ∀ o, s7.heap.get? b = some o → t.heap.get? b = some o ∧ G b = none := fun b hb o eb => by
          have z := I'.pin (b, o) (List.mem_append_right _ (List.mem_append_right _ (mem_pinsAt hb eb)))
          exact ⟨z.1, z.2.1⟩
        have ll : (wipe σ (own.map (·.2))).length = σ8.length := by rw [← hw8, wipe_length]
        refine ⟨m', lm, i + 1, G, (I'.unpinned (pins := [])).weak ll (fun j v ej => ?_), T.keep _ _ _ st7 fun b hb o eb => (stay b hb o eb).1, fun b hb => ?_, w'⟩
        · rw [← hw8] at ej
          exact (wipe_some ej).1
        · obtain ⟨o, eb, _⟩ := T.obj _ _ st7 b hb
          exact (stay b hb o eb).2
      cases b with
      | false =>
        simp only [Bool.false_eq_true, if_false] at q9 ⊢
        exact fin I9 q9
      | true =>
        simp only [if_true] at q9 ⊢
        exact thnF (ge.run _ s9 σ8 H9 _ I9 q9) fun z s10 ⟨yv, H10, I10, r10, acc, hD10, hz10, nx⟩ => app_ok (X := X.blk sc Hc scope ce fp) I10 hD10 hz10 r10 fun s11 I11 => fin I11 nx
  exact codeAny_compStart_list loop (T.self X.A 0 _ _ _ std loop)
end
end Dn

set_option Elab.async false
set_option linter.all false
set_option maxRecDepth 100000
set_option maxHeartbeats 4000000
/-! DnQ: lambdas as values. -/
namespace Dn
open PySem PySem.Spec L2
open PyProof.Rows hiding St

theorem upd_swap {H : Hp} {a b : Addr} {x y : HO} (h : a ≠ b) : upd (upd H a x) b y = upd (upd H b y) a x := by
  funext z
  unfold upd
  by_cases h1 : z = b
  · rw [if_pos h1]
    by_cases h2 : z = a
    · exact absurd (h2.symm.trans h1) h
    · rw [if_neg h2, if_pos h1]
  · rw [if_neg h1]
    by_cases h2 : z = a
    · rw [if_pos h2, if_pos h2]
    · rw [if_neg h2, if_neg h2, if_neg h1]
/-- a thing of the store is turned -/
theorem MuOk.turnO {K : PySem.W.Frag} {A : Wl} {μ : Mu} {H : Hp} {p : Addr} {i : Nat} {o : MO} {u : HO} (m : MuOk K A μ H) (hp : A.A[i]? = some p) (h : MOk K (upd H p u) A p o) : MuOk K A (μ.set i o) (upd H p u) := by
  have hm : p ∈ A.A := List.mem_of_getElem? hp
  have hil : i < A.A.length := (List.getElem?_eq_some_iff.mp hp).1
  refine ⟨m.nd, by simp [m.len], m.sub, fun a ha => ?_, fun j a w h1 h2 => ?_⟩
  · by_cases e : a = p
    · rw [e]
      exact ⟨_, upd_same⟩
    · obtain ⟨z, q⟩ := m.there a ha
      exact ⟨z, by rw [upd_ne e]; exact q⟩
  by_cases hj : i = j
  · subst hj
    rw [hp] at h1
    cases h1
    rw [List.getElem?_set_self (by rw [← m.len]; exact hil)] at h2
    cases h2
    exact h
  · rw [List.getElem?_set_ne hj] at h2
    have ne : a ≠ p := fun z => by
      subst z
      obtain ⟨hjl, ej⟩ := List.getElem?_eq_some_iff.mp h1
      obtain ⟨_, ei⟩ := List.getElem?_eq_some_iff.mp hp
      exact hj ((List.getElem_inj m.nd).mp (ei.trans ej.symm))
    exact (m.mo j a w h1 h2).ext (Ext.turn hm) fun z hz => by rw [upd_ne ne]; exact hz
theorem set_same {μ : Mu} {i : Nat} {o : MO} (h : μ[i]? = some o) : μ.set i o = μ := by
  obtain ⟨hl, e⟩ := List.getElem?_eq_some_iff.mp h
  rw [← e]
  exact List.set_getElem_self hl
section
variable {X : Cx} {pins : List (Addr × Obj)} {σ : L2.St} {H : Hp} {s : Shared}
/-- a lambda is made and told of -/
theorem lam_new {j : Nat} {K : PySem.W.Frag} {A : Wl} {μ : Mu} {t : Nat} {q : Str} {c P : Addr} {params : Arguments} {body : Expr} {scope : Scope} {pos : Pos} {Q : VK} (hK : X.K = K) (I : Inv X pins σ H s) (TB : LamX.TabB X.base X.mg c P) (hcode : X.env.code = .ref c)
    (hq : X.env.qual ++ "<lambda>" = q) (m : MuOk K A μ H) (ht : μ[t]? = some (.tab P q)) (hdef : defaultsOf params X.env = ([], [])) (hfree : ∀ y ∈ scope.names, y.2 = .free → ∃ c, X.env.cells.lookup y.1 = some c)
    (h : ∀ (v : V) (A' : Wl) (H' : Hp), Ext A H A' H' → MuOk K A' μ H' → DV K H' A' v (.clo X.env.cells q j (params, body, scope)) → Q v H') :
    wpAny (model X.prog X.w) X.A (eval (.Lambda params body scope pos) X.env) (EP X pins σ Q) X.xe s := by
  subst hq
  have htl : t < A.A.length := by
    rw [m.len]
    exact (List.getElem?_eq_some_iff.mp ht).1
  obtain ⟨eP, ps, hP, hps, ha⟩ := m.mo t _ _ (List.getElem?_eq_getElem htl) ht
  have hAt : A.A[t]? = some P := by rw [List.getElem?_eq_getElem htl, eP]
  have hPA : P ∈ A.A := List.mem_of_getElem? hAt
  refine PySem.W.kla_eval hdef ?_
  have bP : s.heap.BuiltinsAt X.mg P := TB.bm.keeps I.bk
  have hP' : s.heap.get? P = some { cls := .none, data := .fields ps } := I.hok P _ hP
  -- what is told in the end
  have told : ∀ {G : Hp} {f c' : Addr} {u : Shared}, Ext A H A G → MuOk K A μ G → G f = none → (∀ w : HO, G c' = some w → True) → G c' = some (LamX.CodeO c' (X.env.qual ++ "<lambda>")) → Fresh A c' →
      Inv X pins σ (upd G f (LamO f X.env.cells (X.env.qual ++ "<lambda>") (params, body, scope) c')) u → EP X pins σ Q (.ref f) u := fun {G f c' u} e mm nf _ hc fc I' => by
    refine ⟨.ref f, _, I', rfl, h (.ref f) A _ (e.trans (Ext.new nf)) (mm.new nf) (.clo upd_same (mm.fresh nf) ?_ fc)⟩
    rw [upd_ne (ne_of_none hc nf)]
    exact hc
  have lamOk : ∀ {G : Hp} {f c' : Addr} {hp : Heap} {pm ctv : Value}, hp.get? f = some (PySem.W.kla_obj "<lambda>" (X.env.qual ++ "<lambda>") params body scope (cloFrom X.env.cells scope.names []) pm c' ctv) →
      ObjOk X.prog X.w G hp f (LamO f X.env.cells (X.env.qual ++ "<lambda>") (params, body, scope) c') := fun {G f c' hp pm ctv} e =>
    ⟨⟨pm, ctv, e⟩, ⟨_, e⟩, fun h1 h2 ⟨pm, ctv, e⟩ st => ⟨pm, ctv, st _ e⟩⟩
  cases hca : codeAmong pos ps.toList with
  | none =>
    refine PySem.W.kla_makeFunction (mg := X.mg) (c := c) (P := P) (ps := ps) (closure_ok hfree) I.ok.glob (I.mod.glob.keeps I.bk) hcode (TB.code.keeps I.bk) hP' hps hca TB.gP bP fun c' ctv h' tk hx hge hlt hrec htb => ?_
    obtain ⟨c2, oc, vs, t2, e2, hoc, hd, hv⟩ := hrec
    cases e2
    have nC : H c' = none := I.hok.fresh hge
    have I1 := LamX.inv_table (t' := tk) (more := #[rawInt pos.line, rawInt pos.col, .ref c']) (h' := h') I hP (fun b o hb e => hx b o hb e) htb hge ⟨oc, vs, t2, hoc, hd, hv⟩
    have nPc : P ≠ c' := ne_of_none hP nC
    rw [upd_swap nPc] at I1
    have e1 : Ext A H A (upd H c' (LamX.CodeO c' (X.env.qual ++ "<lambda>"))) := Ext.new nC
    have m1 : MuOk K A μ (upd H c' (LamX.CodeO c' (X.env.qual ++ "<lambda>"))) := m.new nC
    have e3 : Ext A H A (upd (upd H c' (LamX.CodeO c' (X.env.qual ++ "<lambda>"))) P (.tbl (ps ++ #[rawInt pos.line, rawInt pos.col, .ref c']))) := e1.trans (Ext.turn hPA)
    have fc : Fresh A c' := m.fresh nC
    have cAt : upd (upd H c' (LamX.CodeO c' (X.env.qual ++ "<lambda>"))) P (.tbl (ps ++ #[rawInt pos.line, rawInt pos.col, .ref c'])) c' = some (LamX.CodeO c' (X.env.qual ++ "<lambda>")) := by
      rw [upd_ne (Ne.symm nPc)]
      exact upd_same
    have m3 : MuOk K A μ (upd (upd H c' (LamX.CodeO c' (X.env.qual ++ "<lambda>"))) P (.tbl (ps ++ #[rawInt pos.line, rawInt pos.col, .ref c']))) := by
      have z := m1.turnO (o := .tab P (X.env.qual ++ "<lambda>")) (u := .tbl (ps ++ #[rawInt pos.line, rawInt pos.col, .ref c'])) hAt (by
        refine ⟨rfl, _, upd_same, ?_, fun p' cv hcv => ?_⟩
        · rw [show (ps ++ #[rawInt pos.line, rawInt pos.col, .ref c']).toList = ps.toList ++ [rawInt pos.line, rawInt pos.col, .ref c'] by simp]
          exact PySem.TriplesOk_snoc _ _ _ _ hps
        · rw [show (ps ++ #[rawInt pos.line, rawInt pos.col, .ref c']).toList = ps.toList ++ [rawInt pos.line, rawInt pos.col, .ref c'] by simp] at hcv
          rcases LamX.among_app _ hps hcv with z | z
          · obtain ⟨c0, k1, k2, k3⟩ := ha p' cv z
            refine ⟨c0, k1, ?_, k3⟩
            rw [upd_ne (fun z => k3.2 (by rw [z]; exact hPA)), upd_ne (ne_of_none k2 nC)]
            exact k2
          · exact ⟨c', z, cAt, fc⟩)
      rw [set_same ht] at z
      exact z
    have nf : upd (upd H c' (LamX.CodeO c' (X.env.qual ++ "<lambda>"))) P (.tbl (ps ++ #[rawInt pos.line, rawInt pos.col, .ref c'])) h'.objs.size = none := I1.hok.fresh (Nat.le_refl _)
    exact told e3 m3 nf (fun _ _ => True.intro) cAt fc (I1.laid (t' := tk) (fun b o e => Heap.get?_push_of_some _ e) (Nat.le_refl _) (lamOk (Heap.get?_push_size _ rfl)))
  | some cv =>
    obtain ⟨c', e, hco, fc⟩ := ha pos cv hca
    subst e
    refine PySem.W.kla_makeFunctionHit (mg := X.mg) (c := c) (P := P) (ps := ps) (closure_ok hfree) I.ok.glob (I.mod.glob.keeps I.bk) hcode (TB.code.keeps I.bk) hP' hps hca bP fun ctv h' tk hx hsz => ?_
    have I1 : Inv X pins σ H { s with heap := h', toks := tk } := I.kept hx
    have nf : H h'.objs.size = none := I1.hok.fresh (Nat.le_refl _)
    exact told Ext.refl m nf (fun _ _ => True.intro) hco fc (I1.laid (t' := tk) (fun b o e => Heap.get?_push_of_some _ e) (Nat.le_refl _) (lamOk (Heap.get?_push_size _ rfl)))
end
/-- lambda: body -/
def eLam (t j : Nat) (P : Addr) (cells : List (Str × Addr)) (q : Str) (syn : Arguments × Expr × Scope) : Ro → M D := fun _ μ => match μ[t]? with
  | some (.tab P' q') => if P' = P ∧ q' = q then some (.ok (.clo cells q j syn) μ) else none
  | _ => none
theorem de_lam {X : Cx} {W : WX} {c P : Addr} {q : Str} {cells : List (Str × Addr)} {params : Arguments} {body : Expr} {scope : Scope} {pos : Pos} (t j : Nat) (TB : LamX.TabB X.base X.mg c P) (hcode : X.env.code = .ref c) (hq : X.env.qual ++ "<lambda>" = q) (hcl : X.env.cells = cells)
    (L : LamX.LamS X.env.scope scope) (hdef : defaultsOf params X.env = ([], []) := by rfl) : DE X W (.Lambda params body scope pos) (eLam t j P cells q (params, body, scope)) := by
  refine ⟨fun pins s σ H Q I h => ?_⟩
  obtain ⟨A, ρ, μ, m, rr, r, er, hp⟩ := h
  unfold eLam at er
  cases z : μ[t]? with
  | none => simp [z] at er
  | some o =>
    cases o with
    | lst _ => simp [z] at er
    | dct _ => simp [z] at er
    | tab P' q' =>
      simp only [z] at er
      by_cases c : P' = P ∧ q' = q
      · rw [if_pos c] at er
        cases er
        obtain ⟨rfl, rfl⟩ := c
        subst hcl
        exact lam_new rfl I TB hcode hq m z hdef (L.has I.ok) fun v A' H' e m' rl => hp v A' H' e m' rl
      · rw [if_neg c] at er
        cases er
end Dn

set_option Elab.async false
set_option linter.all false
set_option maxRecDepth 100000
set_option maxHeartbeats 4000000
/-! DnR: a lambda's value called by the def that got it. -/
namespace Dn
open PySem PySem.Spec L2
open PyProof.Rows hiding St

section
variable {X : Cx} {pins : List (Addr × Obj)} {σ : L2.St} {H : Hp} {s : Shared}
/-- x(), x a parameter that holds a lambda of the frame X; I tells X's frame at the call -/
theorem pe_actT {CXg : CXT} {Eg E : XK} {Ng : List Str} {qg : Str} {sg : Scope} {g f c' : Addr} {cdg : Value} {params : Arguments} {body : Expr} {scope : Scope} {q : Str} {k i : Nat} {a : Str} {pn : List (Addr × Obj)} {xe : Value → Shared → Prop} {W : WX} {tb : TE} {p1 p2 : Pos}
    (I : Inv X pins σ H s) (L : LamX.LamS X.env.scope scope) (hq : X.env.qual ++ "<lambda>" = q)
    (hbind : ∀ (q : Str) (cl : List (Str × Addr)) (pm cv ctv : Value), bindArgs (PySem.W.kla_fn "<lambda>" q params body scope cl pm cv ctv) ⟨[], []⟩ = pure [])
    (tk : Takes ((cxOf CXg X.prog X.w X.K X.mg X.base Ng qg sg g cdg X.A X.stack s H Eg).tr pn xe) W) (hW : ∀ cls d τ G, E cls d G → W cls d τ G) (hr : Room (k + 1) (X.A.deeper (envOfC qg sg s.heap.objs.size g cdg)))
    (hbody : ∀ (A : Around) (outer : List Env) (t : Shared) (G : Hp), Room k (A.deeper (LamX.lamEnv X scope t.heap.objs.size f c')) → PE (LamX.lamCx X A outer t G E scope f c') body tb)
    (hN : Ng[i]? = some a) (hv : Vis sg a) (hd : (a == ("__debug__" : Str)) = false := by decide) (hcd : (a == ("__classdict__" : Str)) = false := by decide) :
    PE ((cxOf CXg X.prog X.w X.K X.mg X.base Ng qg sg g cdg X.A X.stack s H Eg).tr pn xe) (.Call (.Name a p1) [] [] p2)
      (fun τ G Q => τ[i]? = some (some (.ref f)) ∧ G f = some (LamO f X.env.cells q (params, body, scope) c') ∧ G c' = some (LamX.CodeO c' q) ∧ tb σ G Q) := by
  subst hq
  refine ⟨fun pinsZ sZ τ G Q IZ h => ?_⟩
  obtain ⟨hs, hf, hc, hb⟩ := h
  refine wpAny_Call_Name_kw (thn ((pe_var (pos := p1) (i := i) hN hv hd hcd).run pinsZ sZ τ G (fun v G1 => v = .ref f ∧ G1 = G) IZ ⟨.ref f, hs, rfl, rfl⟩) fun u s1 ⟨v, G1, I1, r1, ev, eG⟩ => ?_)
  subst ev
  rw [eG] at I1
  obtain rfl : u = Value.ref f := r1
  obtain ⟨⟨pm, ctv, of1⟩, _, _⟩ := I1.hok f _ hf
  refine PySem.W.callWith_F0 ⟨_, _, _, _, of1⟩ ?_
  have un : Un (frs X.stack) [] H G s.heap s1.heap := I1.base
  obtain ⟨⟨oc, vs, t, hoc, hdc, hvc⟩, _, _⟩ := I1.hok c' _ hc
  have rc : codeAny (model X.prog X.w) (X.A.deeper (envOfC qg sg s.heap.objs.size g cdg)) (.call (.ref f) ⟨[], []⟩) (CR (L2.CX X.prog X.w) (envOfC qg sg s.heap.objs.size g cdg :: X.stack) X.prog X.w G s1 Q E) s1 := by
    refine PySem.W.kla_callFunE hr.depth of1 rfl L.co L.gen rfl ⟨c', oc, vs, t, rfl, hoc, hdc, hvc⟩ ?_
    rw [hbind]
    refine wpAny_pure (wpAny_newFunctionEnv (fun y hy => (L.own y hy).2) (fun y hy => absurd hy (by simp)) (fun h₁ hns hsb => ⟨I1.nolimit.fresh _ hsb, ?_⟩) L.kind)
    show codeAny _ _ (.expr body (LamX.lamEnv X scope s1.heap.objs.size f c')) _ _
    have kp : ∀ b o, s1.heap.get? b = some o → h₁.get? b = some o := fun b o e => hsb.extBut b o (Nat.ne_of_lt (Heap.lt_size e)) (Heap.get?_push_of_some _ e)
    have J : Inv (LamX.lamCx X (X.A.deeper (envOfC qg sg s.heap.objs.size g cdg)) (envOfC qg sg s.heap.objs.size g cdg :: X.stack) s1 G E scope f c') [] σ G { s1 with heap := h₁, toks := s1.toks + ([] : List (Str × Value)).length } := LamX.lam_start2 I L I1.env0 hr.hd un hns kp
    exact PySem.W.kla_codeExpr (wpAny_mono ((hbody _ _ s1 G (hr.deeper _)).run [] _ _ G Q J hb) (fun v s' ⟨w', G', J', rv, q⟩ => ⟨w', G', J'.os, J'.bare, J'.base, J'.hok, rv, q⟩) fun e s' hq => hq)
  have hx : Passes (L2.CX X.prog X.w) ((cxOf CXg X.prog X.w X.K X.mg X.base Ng qg sg g cdg X.A X.stack s H Eg).tr pn xe) E := passes_call tk hW
  refine wpAny_call (codeAny_mono rc fun r s' hq => ?_)
  cases r with
  | error e => exact hx pinsZ τ G s1 e s' I1 hq
  | ok fl =>
    cases fl with
    | ret u => exact I1.after hq
    | next => exact False.elim hq
    | brk => exact False.elim hq
    | cont => exact False.elim hq
end
end Dn

set_option Elab.async false
set_option linter.all false
set_option maxRecDepth 100000
set_option maxHeartbeats 4000000
/-! DnS: a def that tells whether a lambda raises. -/
namespace Dn
open PySem PySem.Spec L2
open PyProof.Rows hiding St

/-- try: a() / except e: return True / return False -/
def isnBody (a e : Str) (j1 j2 : Nat) (p1 p2 p3 p4 p5 p6 p7 p8 p9 p10 : Pos) : List Stmt :=
  [.Try [.Expr (.Call (.Name a p1) [] [] p2) p3] [.ExceptHandler (some (.Name e p4)) none [.Return (some (.Constant (.bool true) j1 p5)) p6] p7] [] [] p8, .Return (some (.Constant (.bool false) j2 p9)) p10]
/-- what it tells -/
def isnR (ex : Str → Option Bool) : Option (R D) → Option (Bool × Mu)
  | some (.ok _ μ) => some (false, μ)
  | some (.ex n μ) => if ex n = some true then some (true, μ) else none
  | none => none
/-- the lambdas that are known: what their bodies are worth -/
structure LamK (P : Program) (w : World) (K : PySem.W.Frag) (mg : Str → Option Value) (base : Heap) (X : Cx) (k : Nat) (syn : Arguments × Expr × Scope) (fb : Ro → M D) : Prop where
  sc : LamX.LamS X.env.scope syn.2.2
  bind : ∀ (q : Str) (cl : List (Str × Addr)) (pm cv ctv : Value), bindArgs (PySem.W.kla_fn "<lambda>" q syn.1 syn.2.1 syn.2.2 cl pm cv ctv) ⟨[], []⟩ = pure []
  body : ∀ (f c' : Addr) (A : Around) (outer : List Env) (t : Shared) (G : Hp) (E : XK), Room k (A.deeper (LamX.lamEnv X syn.2.2 t.heap.objs.size f c')) → DE (LamX.lamCx X A outer t G E syn.2.2 f c') (fun cls d _ H' => E cls d H') syn.2.1 fb
theorem takes_lam {X : Cx} {A : Around} {outer : List Env} {t : Shared} {G : Hp} {E : XK} {scope : Scope} {f c' : Addr} : Takes (LamX.lamCx X A outer t G E scope f c') (fun cls d _ H' => E cls d H') := takes_of rfl rfl rfl rfl
section
variable {X : Cx} {pins : List (Addr × Obj)} {σ : L2.St} {H : Hp} {s : Shared}
theorem isn_run {x nm qual a e : Str} {pg : Arguments} {bg : List Stmt} {sg : Scope} {fd : FuncData} {k i : Nat} {j1 j2 : Nat} {p1 p2 p3 p4 p5 p6 p7 p8 p9 p10 : Pos} {q : Str} {syn : Arguments × Expr × Scope} {fb : Ro → M D} {ex : Str → Option Bool} {f : Addr} {A : Wl} {ρ : Ro} {μ μ' : Mu} {b : Bool} {Q : VK}
    (I : Inv X pins σ H s) (F : FunD X.K nm qual pg bg sg [] [] (He.ga X.K x) fd) (Sg : FnScope [a] [a] sg) (hb : L2.Binds X.K fd [a] []) (hbg : bg = isnBody a e j1 j2 p1 p2 p3 p4 p5 p6 p7 p8 p9 p10) (hva : Vis sg a)
    (hge : sg.names.lookup e = some .globalImplicit) (hme : X.mg e = some (.ref (He.ga X.K e))) (hex : ∀ n v, ex n = some v → PySem.W.exmOne X.K (.ref (He.ga X.K n)) (.ref (He.ga X.K e)) = some v)
    (hq : X.env.qual ++ "<lambda>" = q) (hr : Room (k + 2) X.A) (L : LamK X.prog X.w X.K X.mg X.base X k syn fb)
    (m : MuOk X.K A μ H) (rr : RhoOk X.K A ρ σ H) (dv : DV X.K H A (.ref f) (.clo X.env.cells q i syn)) (run : isnR ex (fb ρ μ) = some (b, μ')) (hQ : ∀ A' H', Ext A H A' H' → MuOk X.K A' μ' H' → Q (.bl b) H')
    (hd : (a == ("__debug__" : Str)) = false := by decide) (hcd : (a == ("__classdict__" : Str)) = false := by decide) (hde : (e == ("__debug__" : Str)) = false := by decide) :
    codeAny (model X.prog X.w) X.A (.call (.ref (He.ga X.K x)) ⟨[.ref f], []⟩) (CR C8.CX0 X.stack X.prog X.w H s Q C8.E0) s := by
  obtain ⟨oc, od, dV, kV, doc, pm, an, cdv, ct, osl, rfl, lk, hcg, _, _⟩ := F.ex
  cases dv with
  | @clo _ c' _ _ _ _ h1 f1 h2 f2 =>
  obtain ⟨params, body, scope⟩ := syn
  refine LamX.run_ofS (N := [a]) (ps := [a]) (us := [.ref f]) (vs := [.ref f]) lk hcg Sg hr I.env0 (hb s [.ref f] I.kIn rfl) (.cons rfl .nil) rfl fun hr' => ?_
  subst hbg
  have hgl : Gl (cxOf C8.CX0 X.prog X.w X.K X.mg X.base [a] qual sg (He.ga X.K x) cdv X.A X.stack s H C8.E0).nox e := hge
  have st : L2.start [a] [V.ref f] = [some (.ref f)] := rfl
  have body_ := pss_cons (X := (cxOf C8.CX0 X.prog X.w X.K X.mg X.base [a] qual sg (He.ga X.K x) cdv X.A X.stack s H C8.E0).nox) (ps_try_only (c := .ref (He.ga X.K e)) (pos' := p7) (pos := p8) (np := p4)
      (tb := fun W D τ G => ∃ Ech : XK, (∀ cls d τ' G', Ech cls d G' → W cls d τ' G') ∧ τ[0]? = some (some (.ref f)) ∧ G f = some (LamO f X.env.cells q (params, body, scope) c') ∧ G c' = some (LamX.CodeO c' q) ∧ tG X.K (fun cls d _ G' => Ech cls d G') (rD X.K) fb σ G fun _ G' => D.nx τ G')
      rfl rfl ⟨hgl, hde, .inl hme⟩ LamX.takes0 (fun W pn xe tk _ => pss_one (t := fun D τ G => ∃ Ech : XK, (∀ cls d τ' G', Ech cls d G' → W cls d τ' G') ∧ τ[0]? = some (some (.ref f)) ∧ G f = some (LamO f X.env.cells q (params, body, scope) c') ∧ G c' = some (LamX.CodeO c' q) ∧ tG X.K (fun cls d _ G' => Ech cls d G') (rD X.K) fb σ G fun _ G' => D.nx τ G') ⟨fun pins s' τ G D IZ h' => by
        obtain ⟨Ech, hW, g1, g2, g3, g4⟩ := h'
        have act := pe_actT (tb := tG X.K (fun cls d _ G' => Ech cls d G') (rD X.K) fb) (p1 := p1) (p2 := p2) (i := 0) (a := a) (Ng := [a]) (CXg := C8.CX0) (Eg := C8.E0) (k := k) I L.sc hq L.bind tk hW hr' (fun A outer t G hr2 => L.body f c' A outer t G Ech hr2) rfl hva hd hcd
        exact (ps_expr (pos := p3) act rfl).run pins s' τ G D IZ ⟨g1, g2, g3, g4⟩⟩)
      (fun a' oe cls d pn _ _ => pss_one (ps_ret (pos := p6) (pe_bl (b := true) (j := j1) (pos := p5))))) (pss_one (ps_ret (pos := p10) (pe_bl (b := false) (j := j2) (pos := p9))))
  refine ⟨_, body_.nox, ?_⟩
  refine ⟨fun cls _ G' => ∃ v, PySem.W.exmOne X.K cls (.ref (He.ga X.K e)) = some v ∧ (v = true → Q (.bl true) G') ∧ (v = false → False), fun cls d τ' G' ⟨v, e1, e2, e3⟩ => ⟨v, e1, fun hv a _ => e2 hv, fun hv => e3 hv⟩, rfl, h1, h2, A, ρ, μ, m, rr, ?_⟩
  cases z : fb ρ μ with
  | none =>
    rw [z] at run
    cases run
  | some r =>
    rw [z] at run
    refine ⟨r, z, ?_⟩
    cases r with
    | ok d μ1 =>
      cases run
      exact fun v A' H' e' m' _ => hQ A' H' e' m'
    | ex n μ1 =>
      simp only [isnR] at run
      by_cases c : ex n = some true
      · rw [if_pos c] at run
        cases run
        exact fun dd A' H' e' m' => ⟨true, hex n true c, fun _ => hQ A' H' e' m', fun z => by cases z⟩
      · rw [if_neg c] at run
        cases run
end
end Dn

set_option Elab.async false
set_option linter.all false
set_option maxRecDepth 100000
set_option maxHeartbeats 4000000
/-! DnT: [act for act in acts if not isn(act)]; isn(lambda: ..). -/
namespace Dn
open PySem PySem.Spec L2
open PyProof.Rows hiding St

abbrev Lams := Nat → Option ((Arguments × Expr × Scope) × (Ro → M D))
open Classical in
/-- isn of the lambda that the slot j holds -/
noncomputable def tIsn (j : Nat) (vs : List Nat) (cells : List (Str × Addr)) (q : Str) (Λ : Lams) (ex : Str → Option Bool) : Ro → M Bool := fun ρ μ => match ρ[j]? with
  | some (some (.clo c q' i syn)) => (match Λ i with
    | some (syn', fb) => if c = cells ∧ q' = q ∧ syn = syn' then (match isnR ex (fb (wipeR ρ vs) μ) with
      | some (b, μ') => some (.ok b μ')
      | none => none) else none
    | none => none)
  | _ => none
theorem tT.mono {K : PySem.W.Frag} {ss : List Nat} {g : GF} {v : V} {σ : St} {H : Hp} {Q Q' : St → Hp → Prop} (h : tT K ss g v σ H Q) (k : ∀ σ' H', Q σ' H' → Q' σ' H') : tT K ss g v σ H Q' := by
  obtain ⟨A, ρ, d, ρ', rr, rl, e, q⟩ := h
  exact ⟨A, ρ, d, ρ', rr, rl, e, fun σ' r' o => k _ _ (q σ' r' o)⟩
/-- the def that tells -/
structure IsnD (K : PySem.W.Frag) (mg : Str → Option Value) (x a e : Str) (ex : Str → Option Bool) : Prop where
  ok : ∃ (nm qual : Str) (pg : Arguments) (bg : List Stmt) (sg : Scope) (fd : FuncData) (j1 j2 : Nat) (p1 p2 p3 p4 p5 p6 p7 p8 p9 p10 : Pos), FunD K nm qual pg bg sg [] [] (He.ga K x) fd ∧ FnScope [a] [a] sg ∧ L2.Binds K fd [a] [] ∧
    bg = isnBody a e j1 j2 p1 p2 p3 p4 p5 p6 p7 p8 p9 p10 ∧ Vis sg a ∧ sg.names.lookup e = some .globalImplicit
  me : mg e = some (.ref (He.ga K e))
  mx : mg x = some (.ref (He.ga K x))
  hex : ∀ n v, ex n = some v → PySem.W.exmOne K (.ref (He.ga K n)) (.ref (He.ga K e)) = some v
  d1 : (a == ("__debug__" : Str)) = false
  d2 : (a == ("__classdict__" : Str)) = false
  d3 : (e == ("__debug__" : Str)) = false
  d4 : (x == ("__debug__" : Str)) = false
section
variable {X : Cx} {W : WX} {pos : Pos}
theorem pe_isn {t : Shared} {G : Hp} {fp : List Addr} {ce : Env} {pins : List (Addr × Obj)} {σ : St} {scope : Scope} {k j : Nat} {vs : List Nat} {x a e y q : Str} {ex : Str → Option Bool} {Λ : Lams} {p1 p2 p3 : Pos} (bk : Back X pins σ G t fp) (D : IsnD X.K X.mg x a e ex) (hq : X.env.qual ++ "<lambda>" = q) (hr : Room (k + 2) X.A)
    (hΛ : ∀ i syn fb, Λ i = some (syn, fb) → LamK X.prog X.w X.K X.mg X.base X k syn fb) (hg : Gl (X.blk t G scope ce fp) x) (hN : X.N[j]? = some y) (hv : Vis ce.scope y) (hd : (y == ("__debug__" : Str)) = false) (hcd : (y == ("__classdict__" : Str)) = false)
    (hs : starEach [.Name y p2] ce = (false, eval (.Name y p2) ce) :: starEach [] ce) :
    PE (X.blk t G scope ce fp) (.Call (.Name x p1) [.Name y p2] [] p3) (fun σ2 H2 Q => wipe σ2 vs = wipe σ vs ∧ tG X.K W0 rB (tIsn j vs X.env.cells q Λ ex) σ2 H2 fun b H' => Q (.bl b) H') := by
  refine ⟨fun pins2 s2 σ2 H2 Q I2 h => ?_⟩
  obtain ⟨hw, A, ρ, μ, m, rr, r, er, hp⟩ := h
  unfold tIsn at er
  cases z : ρ[j]? with
  | none => simp [z] at er
  | some d =>
    cases d with
    | none => simp [z] at er
    | some d =>
      cases d with
      | clo c q' i syn =>
        simp only [z] at er
        cases z2 : Λ i with
        | none => simp [z2] at er
        | some sf =>
          obtain ⟨syn', fb⟩ := sf
          simp only [z2] at er
          by_cases c0 : c = X.env.cells ∧ q' = q ∧ syn = syn'
          case neg =>
            rw [if_neg c0] at er
            cases er
          case pos =>
            rw [if_pos c0] at er
            obtain ⟨rfl, rfl, rfl⟩ := c0
            cases z3 : isnR ex (fb (wipeR ρ vs) μ) with
            | none => simp [z3] at er
            | some bm =>
              obtain ⟨b, μ'⟩ := bm
              simp only [z3] at er
              cases er
              obtain ⟨v, hv1, dv⟩ := rr.loc j _ z
              obtain ⟨nm, qual, pg, bg, sg, fd, j1, j2, a1, a2, a3, a4, a5, a6, a7, a8, a9, a10, F, Sg, hb, hbg, hva, hge⟩ := D.ok
              refine wpAny_Call_Name_kw (ld_glob I2 hg D.mx ?_ D.d4)
              refine PySem.W.callWith_K (h₀ := X.base) I2.ok.mod.kin F.kp ?_ (by rw [hs]) (by rfl)
              show wpAny _ _ (spliced (backTo p3 (starEach [.Name y p2] ce))) _ _ s2
              rw [hs]
              refine Calls.spliced_cons (thn ((pe_var (X := X.blk t G scope ce fp) (pos := p2) hN hv hd hcd).run pins2 s2 σ2 H2 (fun v' G' => v' = v ∧ G' = H2) I2 ⟨v, hv1, rfl, rfl⟩) fun u s3 ⟨v', H3, I3, r3, e1, e2⟩ => ?_)
              subst e1 e2
              refine Calls.spliced_nil ⟨I3.kIn, ?_⟩
              cases dv with
              | @clo f c' _ _ _ _ k1 k2 k3 k4 =>
                cases r3
                have IX : Inv X pins σ H3 s3 := bk.at I3
                have IW : Inv X pins (wipe σ vs) H3 s3 := IX.weak (wipe_length σ vs) fun i v ei => (wipe_some ei).1
                have rw' : RhoOk X.K A (wipeR ρ vs) (wipe σ vs) H3 := by
                  rw [← hw]
                  exact rr.wipes vs
                have rc := isn_run IW F Sg hb hbg hva hge D.me D.hex hq hr (hΛ i syn fb z2) m rw' (DV.clo (k := i) k1 k2 k3 k4) z3 (Q := Q) (fun A' H' e' m' => hp b A' H' e' m' rfl) D.d1 D.d2 D.d3
                refine wpAny_call (codeAny_mono rc fun r s' hq => ?_)
                cases r with
                | error e => exact (show False from hq).elim
                | ok fl =>
                  cases fl with
                  | ret u => exact I3.after hq
                  | next => exact False.elim hq
                  | brk => exact False.elim hq
                  | cont => exact False.elim hq
      | _ => simp [z] at er
theorem de_acts {elt tg iter : Expr} {scope : Scope} {own : List (Str × Nat)} {src : Src} {g : GF} {ss : List Nat} {f : Ro → M D} {k j : Nat} {x a e y q : Str} {ex : Str → Option Bool} {Λ : Lams} {cells : List (Str × Addr)} {p1 p2 p3 p4 : Pos} (hc : X.calm = true) (hN : X.N.Nodup) (hi : DI X W tg iter src) (ok : BlkOk X.N X.env.scope scope own)
    (hg : ∀ (s : Shared) (H : Hp) (C : Addr) (cl : List (Str × Addr)) (fp : List Addr), DG (X.blk s H scope (compEnvC scope cl C X.env) fp) tg ss g)
    (D : IsnD X.K X.mg x a e ex) (hq : X.env.qual ++ "<lambda>" = q) (hcl : X.env.cells = cells) (hr : Room (k + 2) X.A) (hΛ : ∀ i syn fb, Λ i = some (syn, fb) → LamK X.prog X.w X.K X.mg X.base X k syn fb)
    (he : ∀ (s : Shared) (H : Hp) (C : Addr) (cl : List (Str × Addr)) (fp : List Addr), DE (X.blk s H scope (compEnvC scope cl C X.env) fp) W0 elt f)
    (hgl : ∀ (s : Shared) (H : Hp) (C : Addr) (cl : List (Str × Addr)) (fp : List Addr), Gl (X.blk s H scope (compEnvC scope cl C X.env) fp) x) (hNj : X.N[j]? = some y := by rfl) (hv : ∀ (C : Addr) (cl : List (Str × Addr)), Vis (compEnvC scope cl C X.env).scope y)
    (hd : (y == ("__debug__" : Str)) = false := by decide) (hcd : (y == ("__classdict__" : Str)) = false := by decide)
    (hss : ∀ i ∈ ss, i ∈ own.map (·.2) := by decide) (hs : ∀ x, foldedSetIterable iter X.env x = pure x := by intro _; rfl)
    (hse : ∀ (C : Addr) (cl : List (Str × Addr)), starEach [.Name y p2] (compEnvC scope cl C X.env) = (false, eval (.Name y p2) (compEnvC scope cl C X.env)) :: starEach [] (compEnvC scope cl C X.env) := by intro _ _; rfl) :
    DE X W (.ListComp elt [⟨tg, iter, [.UnaryOp .Not (.Call (.Name x p1) [.Name y p2] [] p3) p4], 0⟩] scope pos) (eComp src g (tNot' (tIsn j (own.map (·.2)) cells q Λ ex)) f (own.map (·.2))) := by
  subst hcl
  refine ⟨fun pins s σ H Q I h => ?_⟩
  refine lcI_run (wi := tG X.K W (rF X.K) src) (g := tT X.K ss g) (te := tG X.K W0 (rD X.K) f) (tt := fun σ2 H2 Q => wipe σ2 (own.map (·.2)) = wipe σ (own.map (·.2)) ∧ tG X.K W0 rB (tNot' (tIsn j (own.map (·.2)) X.env.cells q Λ ex)) σ2 H2 Q) hc hN I hi ok hg (fun t G C cl fp bk => ?_) he hs ?_
  · have pc := pts_one (pt_not (pos := p4) (pt_val (pe_isn (ce := compEnvC scope cl C X.env) (p1 := p1) (p2 := p2) (p3 := p3) (vs := own.map (·.2)) bk D hq hr hΛ (hgl t G C cl fp) hNj (hv C cl) hd hcd (hse C cl)) (by intro _; rfl)))
    refine ⟨fun pins2 s2 σ2 H2 Q2 I2 h2 => pc.run pins2 s2 σ2 H2 Q2 I2 ⟨h2.1, tG.bnd h2.2 fun A ρ b μ v H1 m rr rl h3 => ?_⟩⟩
    cases (show v = b from rl)
    exact ⟨b, rfl, h3.ret m rfl⟩
  · refine tG.bnd h fun A ρ l μ J H1 m rr F h1 D0 nD => ?_
    obtain ⟨Wv, w0, turn⟩ := lc_feeds F m rr hss h1 D0 nD (last_lst m nD)
    refine ⟨Wv, w0, fun i n G w => (turn i n G w).imp id fun ⟨go, Nx, hNx, step⟩ => ⟨go, Nx, hNx, fun x' G' yd => tT.mono (step x' G' yd) fun σ2 H2 ⟨hw, h2⟩ => ⟨hw, hw, h2⟩⟩⟩
/-- isn(lambda: ..) -/
def eIsnL (t i : Nat) (P : Addr) (cells : List (Str × Addr)) (q : Str) (syn : Arguments × Expr × Scope) (fb : Ro → M D) (ex : Str → Option Bool) : Ro → M D := fun ρ => M.bnd (eLam t i P cells q syn ρ) fun _ μ => match isnR ex (fb ρ μ) with
  | some (b, μ') => some (.ok (.bl b) μ')
  | none => none
theorem de_isnL {k : Nat} {x a e q : Str} {ex : Str → Option Bool} {c P : Addr} {cells : List (Str × Addr)} {params : Arguments} {body : Expr} {scope : Scope} {fb : Ro → M D} {p1 p2 p3 : Pos} (t i : Nat) (D : IsnD X.K X.mg x a e ex) (hg : Gl X x) (TB : LamX.TabB X.base X.mg c P) (hcode : X.env.code = .ref c) (hq : X.env.qual ++ "<lambda>" = q) (hcl : X.env.cells = cells)
    (hr : Room (k + 2) X.A) (L : LamK X.prog X.w X.K X.mg X.base X k (params, body, scope) fb) (hdef : defaultsOf params X.env = ([], []) := by rfl)
    (hs : starEach [.Lambda params body scope p2] X.env = (false, eval (.Lambda params body scope p2) X.env) :: starEach [] X.env := by rfl) : DE X W (.Call (.Name x p1) [.Lambda params body scope p2] [] p3) (eIsnL t i P cells q (params, body, scope) fb ex) := by
  subst hcl
  refine ⟨fun pins s σ H Q I h => ?_⟩
  obtain ⟨nm, qual, pg, bg, sg, fd, j1, j2, a1, a2, a3, a4, a5, a6, a7, a8, a9, a10, F, Sg, hb, hbg, hva, hge⟩ := D.ok
  refine wpAny_Call_Name_kw (ld_glob I hg D.mx ?_ D.d4)
  refine PySem.W.callWith_K (h₀ := X.base) I.ok.mod.kin F.kp ?_ (by rw [hs]) (by rfl)
  show wpAny _ _ (spliced (backTo p3 (starEach [.Lambda params body scope p2] X.env))) _ _ s
  rw [hs]
  have lam := de_lam (W := W) (pos := p2) (params := params) (body := body) (scope := scope) t i TB hcode hq rfl L.sc hdef
  have h2 : tG X.K W (rD X.K) (eLam t i P X.env.cells q (params, body, scope)) σ H fun v H' => ∃ f, v = .ref f ∧ ∃ A ρ μ, MuOk X.K A μ H' ∧ RhoOk X.K A ρ σ H' ∧ DV X.K H' A (.ref f) (.clo X.env.cells q i (params, body, scope)) ∧ ∃ b μ', isnR ex (fb ρ μ) = some (b, μ') ∧ ∀ A2 H2, Ext A H' A2 H2 → MuOk X.K A2 μ' H2 → Q (.bl b) H2 := by
    obtain ⟨A, ρ, μ, m, rr, r, er, hp⟩ := h
    refine ⟨A, ρ, μ, m, rr, ?_⟩
    unfold eIsnL M.bnd eLam at er
    unfold eLam
    cases z : μ[t]? with
    | none => simp [z] at er
    | some o =>
      cases o with
      | lst _ => simp [z] at er
      | dct _ => simp [z] at er
      | tab P' q' =>
        simp only [z] at er
        by_cases c0 : P' = P ∧ q' = q
        · rw [if_pos c0] at er
          refine ⟨.ok (.clo X.env.cells q i (params, body, scope)) μ, ?_, ?_⟩
          · simp only [z]
            rw [if_pos c0]
          cases z3 : isnR ex (fb ρ μ) with
          | none => simp [z3] at er
          | some bm =>
            obtain ⟨b, μ'⟩ := bm
            simp only [z3] at er
            cases er
            intro v A' H' e' m' dv
            have dv' := dv
            cases dv with
            | @clo f c' _ _ _ _ k1 k2 k3 k4 => exact ⟨f, rfl, A', ρ, μ, m', rr.ext e', dv', b, μ', z3, fun A2 H2 e2 m2 => hp (.bl b) A2 H2 (e'.trans e2) m2 (.bl b)⟩
        · rw [if_neg c0] at er
          cases er
  refine Calls.spliced_cons (thn (lam.run pins s σ H _ I h2) fun u s3 ⟨v, H3, I3, r3, f, ev, A, ρ, μ, m, rr, dv, b, μ', hrun, hQ⟩ => ?_)
  subst ev
  cases r3
  refine Calls.spliced_nil ⟨I3.kIn, ?_⟩
  have rc := isn_run I3 F Sg hb hbg hva hge D.me D.hex hq hr L m rr dv hrun (Q := Q) hQ D.d1 D.d2 D.d3
  refine wpAny_call (codeAny_mono rc fun r s' hq => ?_)
  cases r with
  | error e => exact (show False from hq).elim
  | ok fl =>
    cases fl with
    | ret u => exact I3.after hq
    | next => exact False.elim hq
    | brk => exact False.elim hq
    | cont => exact False.elim hq
end
end Dn

set_option Elab.async false
set_option linter.all false
set_option maxRecDepth 100000
set_option maxHeartbeats 4000000
/-! DnU: defs that make lambdas; the law at the head. -/
namespace Dn
open PySem PySem.Spec L2
open PyProof.Rows hiding St

abbrev Cells := List (Str × Addr)
/-- what holds whatever the frame's cells are -/
noncomputable def allC (G : Cells → Gt) : Gt := fun ds μ => open Classical in if h : ∃ r, ∀ c, G c ds μ = some r then some h.choose else none
theorem allC_of {G : Cells → Gt} {ds : List D} {μ : Mu} {r : R D} (h : ∀ c, G c ds μ = some r) : allC G ds μ = some r := by
  unfold allC
  have e : ∃ r, ∀ c, G c ds μ = some r := ⟨r, h⟩
  rw [dif_pos e]
  have := (e.choose_spec []).symm.trans (h [])
  exact this
theorem allC_inv {G : Cells → Gt} {ds : List D} {μ : Mu} {r : R D} (h : allC G ds μ = some r) (c : Cells) : G c ds μ = some r := by
  unfold allC at h
  by_cases e : ∃ r, ∀ c, G c ds μ = some r
  · rw [dif_pos e] at h
    cases h
    exact e.choose_spec c
  · rw [dif_neg e] at h
    cases h
theorem spD_all {K : PySem.W.Frag} {G : Cells → Gt} {vs : List V} {H : Hp} {Q : VK} {E : XK} (h : spD K (allC G) vs H Q E) (c : Cells) : spD K (G c) vs H Q E := by
  obtain ⟨A, ds, μ, m, rl, r, e, hp⟩ := h
  exact ⟨A, ds, μ, m, rl, r, allC_inv e c, hp⟩
def tabA (K : PySem.W.Frag) (x : Str) : Addr := (He.cT K (x, none)).2
def codA (K : PySem.W.Frag) (x : Str) : Addr := (He.cT K (x, none)).1
section
variable {P : Program} {w : World} {K : PySem.W.Frag} {mg : Str → Option Value} {base : Heap} {x nm qual : Str} {params : Arguments} {body : List Stmt} {scope : Scope} {fd : FuncData} {N ps : List Str} {k : Nat} {B : Cells → SF}
/-- THE RULE for a def that makes lambdas -/
theorem fn_okC (F : FunD K nm qual params body scope [] [] (He.ga K x) fd) (S : FnScope N ps scope)
    (hbody : ∀ (A : Around) (outer : List Env) (s : Shared) (H : Hp) (E : XK), Room k (A.deeper (envOfC qual scope s.heap.objs.size (He.ga K x) (.ref (codA K x)))) →
      DSs (cxOf (L2.CX P w) P w K mg base N qual scope (He.ga K x) (.ref (codA K x)) A outer s H E) (fun cls d _ H' => E cls d H') body (B (cellsFrom (s.heap.objs.size + 1) scope.names []))) :
    FnOk P w K mg base (L2.CX P w) (k + 1) (He.ga K x) fd ps (spD K (allC fun c => runF ps.length N.length (B c))) := by
  have hN : ps.length ≤ N.length := by
    have := congrArg List.length S.pre
    rw [List.length_take] at this
    omega
  obtain ⟨oc, od, dV, kV, doc, pm, an, cdv, ct, osl, rfl, lk, hcd, _, _⟩ := F.ex
  obtain ⟨c, rfl⟩ := He.codeIn_ref hcd
  have ec : codA K x = c := He.codeOf_eq (p := (x, none)) lk rfl
  rw [ec] at hbody
  exact fn_of lk hcd S (fun vs H Q E h => (runF_ok (spD_all h []) hN).1) fun A outer s H vs Q E hr h => ⟨_, hbody A outer s H E hr, (runF_ok (spD_all h _) hN).2⟩
theorem fn_okF {B0 : SF} (F : FunD K nm qual params body scope [] [] (He.ga K x) fd) (S : FnScope N ps scope)
    (hbody : ∀ (cdv : Value) (A : Around) (outer : List Env) (s : Shared) (H : Hp) (E : XK), Room k (A.deeper (envOfC qual scope s.heap.objs.size (He.ga K x) cdv)) →
      DSs (cxOf (L2.CX P w) P w K mg base N qual scope (He.ga K x) cdv A outer s H E) (fun cls d _ H' => E cls d H') body B0) :
    FnOk P w K mg base (L2.CX P w) (k + 1) (He.ga K x) fd ps (spD K (runF ps.length N.length B0)) := by
  have hN : ps.length ≤ N.length := by
    have := congrArg List.length S.pre
    rw [List.length_take] at this
    omega
  exact F.ok S (fun vs H Q E h => (runF_ok h hN).1) (fun cdv A outer s H vs Q E hr h => ⟨_, hbody cdv A outer s H E hr, (runF_ok h hN).2⟩)
theorem cal_ofC (F : FunD K nm qual params body scope [] [] (He.ga K x) fd) (S : FnScope N ps scope) (b : Binds K fd ps [])
    (hbody : ∀ (A : Around) (outer : List Env) (s : Shared) (H : Hp) (E : XK), Room k (A.deeper (envOfC qual scope s.heap.objs.size (He.ga K x) (.ref (codA K x)))) →
      DSs (cxOf (L2.CX P w) P w K mg base N qual scope (He.ga K x) (.ref (codA K x)) A outer s H E) (fun cls d _ H' => E cls d H') body (B (cellsFrom (s.heap.objs.size + 1) scope.names []))) :
    Cal P w K mg base (k + 1) x (allC fun c => runF ps.length N.length (B c)) := ⟨fd, ps, fn_okC F S hbody, F.kp, b⟩
end
/-! ### the law -/
def tabMu (K : PySem.W.Frag) (tf : List (Str × Str)) : Mu := tf.map fun p => .tab (tabA K p.1) p.2
theorem codeAmong_nil (pos : Pos) (cv : Value) : codeAmong pos ([] : List Value) = some cv → False := fun h => by
  simp [codeAmong] at h
/-- the store at the law's call: the tables -/
theorem mu_start {K : PySem.W.Frag} {H : Hp} {tf : List (Str × Str)} (hT : ∀ p ∈ tf, H (tabA K p.1) = some (.tbl #[])) (nd : (tf.map fun p => tabA K p.1).Nodup) :
    MuOk K ⟨tf.map fun p => tabA K p.1, tf.map fun p => tabA K p.1⟩ (tabMu K tf) H := by
  refine ⟨nd, by simp [tabMu], fun _ h => h, fun a ha => ?_, fun n a o h1 h2 => ?_⟩
  · obtain ⟨p, hp, e⟩ := List.mem_map.mp ha
    exact ⟨_, e ▸ hT p hp⟩
  · unfold tabMu at h2
    rw [List.getElem?_map] at h1 h2
    cases q : tf[n]? with
    | none => simp [q] at h1
    | some p =>
      rw [q] at h1 h2
      cases h1
      cases h2
      exact ⟨rfl, #[], hT p (List.mem_of_getElem? q), True.intro, fun pos cv h => (codeAmong_nil pos cv h).elim⟩
/-- the script as data -/
theorem script_D {K : PySem.W.Frag} {H : Hp} {tf : List (Str × Str)} {a : Addr} {ns : List Int} (hT : ∀ p ∈ tf, H (tabA K p.1) = some (.tbl #[])) (hS : SqL K H a (ns.map V.int)) :
    DV K H ⟨tf.map fun p => tabA K p.1, tf.map fun p => tabA K p.1⟩ (.ref a) (.lst (ns.map D.int)) ∨ DV K H ⟨tf.map fun p => tabA K p.1, tf.map fun p => tabA K p.1⟩ (.ref a) (.fls (ns.map D.int)) := by
  have fr : ∀ o, H a = some o → (∀ ps, o ≠ .tbl ps) → Fresh ⟨tf.map fun p => tabA K p.1, tf.map fun p => tabA K p.1⟩ a := fun o h n => by
    have z : a ∉ tf.map fun p => tabA K p.1 := fun hm => by
      obtain ⟨p, hp, e⟩ := List.mem_map.mp hm
      have := hT p hp
      rw [e, h] at this
      exact n _ (Option.some.inj this)
    exact ⟨z, z⟩
  rcases hS with h | h
  · rcases h with h | ⟨u, h⟩
    · exact .inl (.lst ⟨h, fr _ h fun _ z => by cases z⟩ (DVs.of_ints ns))
    · exact .inr (.fls (.inl ⟨⟨u, h⟩, fr _ h fun _ z => by cases z⟩) (DVs.of_ints ns))
  · exact .inr (.fls (.inr h) (DVs.of_ints ns))
/-- the law holds at the head -/
theorem law_at {l : PySem.W.OpenLaw} {n k : Nat} {w : World} {K : PySem.W.Frag} {mg : Str → Option Value} {h : Heap} {fa : Addr} {fas : List He.Fa} {fn : List He.DefD} {ts : List He.Tab} {tf : List (Str × Str)} {ex : PySem.W.Frag → Bool} {fd : FuncData} {x : Str} {G : Gt}
    (KX : K.In h) (NS : h.Ns mainGlobals mg) (c : He.SaysX fas fn ts (tf.map fun p => (p.1, none)) ex w h K) (hfa : mg "law" = some (.ref fa)) (hg : mg "law" = some (.ref (He.ga K "law")))
    (hb : ∀ (s : Shared) (u : Value), BindsTo s fd ⟨[u], []⟩ [(x, u)]) (nd : (tf.map fun p => tabA K p.1).Nodup)
    (main : ∀ base : Heap, K.In base → base.Ns mainGlobals mg → (∀ p ∈ tf, LamX.TabB base mg (codA K p.1) (tabA K p.1)) → FnOk l.prog w K mg base (L2.CX l.prog w) k (He.ga K "law") fd [x] (spD K G))
    (plain : ∀ ns : List Int, ns.length ≤ n → ∃ μ, G [.lst (ns.map D.int)] (tabMu K tf) = some (.ok (.bl true) μ) ∧ ∃ μ2, G [.fls (ns.map D.int)] (tabMu K tf) = some (.ok (.bl true) μ2)) :
    LamX.LawAtS l w K (L2.CX l.prog w) k n x mg fa h := by
  have e := hfa.symm.trans hg
  cases e
  have mem : ∀ {p : Str × Str}, p ∈ tf → (p.1, (none : Option Str)) ∈ tf.map fun p => (p.1, (none : Option Str)) := fun hp => List.mem_map.mpr ⟨_, hp, rfl⟩
  refine ⟨fd, tf.map fun p => (codA K p.1, tabA K p.1), spD K G, fun q hq => ?_, fun q hq => ?_, fun q hq => ?_, hb, fun H a ns hn _ hT hS => ?_, fun base hk hns hTB => main base hk hns fun p hp => hTB _ (List.mem_map.mpr ⟨p, hp, rfl⟩)⟩
  · obtain ⟨p, hp, rfl⟩ := List.mem_map.mp hq
    exact c.empty _ (mem hp)
  · obtain ⟨p, hp, rfl⟩ := List.mem_map.mp hq
    exact c.out _ (mem hp)
  · obtain ⟨p, hp, rfl⟩ := List.mem_map.mp hq
    exact PySem.W.codeHd_of_K KX (c.hd _ (mem hp))
  · have hT' : ∀ p ∈ tf, H (tabA K p.1) = some (.tbl #[]) := fun p hp => hT _ (List.mem_map.mpr ⟨p, hp, rfl⟩)
    obtain ⟨μ1, e1, μ2, e2⟩ := plain ns hn
    have m := mu_start hT' nd
    rcases script_D hT' hS with dv | dv
    · exact ⟨_, [.lst (ns.map D.int)], tabMu K tf, m, .cons dv .nil, _, e1, fun v A' H' _ _ rl => by
        cases rl
        rfl⟩
    · exact ⟨_, [.fls (ns.map D.int)], tabMu K tf, m, .cons dv .nil, _, e2, fun v A' H' _ _ rl => by
        cases rl
        rfl⟩
theorem cx_none {P : Program} {w : World} {H : Hp} {s : Shared} {e : Value} {s' : Shared} (h : L2.CX P w [] H s (fun _ _ _ => False) e s') : False := by
  obtain ⟨_, _, _, _, _, _, _, _, _, _, _, _, z⟩ := h
  exact z
end Dn

set_option Elab.async false
set_option linter.all false
set_option maxRecDepth 100000
set_option maxHeartbeats 4000000
/-! DnV: where a lambda stands in a def; the raising of Nothing told; facts of the head. -/
namespace Dn
open PySem PySem.Spec L2
open PyProof.Rows hiding St

abbrev pos0 : Pos := ⟨0, 0, 0, 0⟩
abbrev nam0 : Expr := .Name "" pos0
def stN (l : List Stmt) (i : Nat) : Stmt := l.getD i (.Pass pos0)
/-- the blocks of a statement: its own (0), the other (1) -/
def blkS (s : Stmt) (i : Nat) : List Stmt := match s, i with
  | .For _ _ b _ _, _ => b
  | .While _ b _ _, _ => b
  | .If _ b _ _, 0 => b
  | .If _ _ e _, _ => e
  | _, _ => []
/-- the expression of a statement -/
def expS : Stmt → Expr
  | .Expr e _ => e
  | .Assign _ e _ => e
  | .AugAssign _ _ e _ => e
  | .Return (some e) _ => e
  | .If t _ _ _ => t
  | .While t _ _ _ => t
  | .For _ e _ _ _ => e
  | _ => nam0
def exN (l : List Expr) (i : Nat) : Expr := l.getD i nam0
/-- the i-th part of an expression -/
def prtE (e : Expr) (i : Nat) : Expr := match e with
  | .BoolOp _ vs _ => exN vs i
  | .BinOp a _ b _ => exN [a, b] i
  | .UnaryOp _ a _ => a
  | .IfExp t a b _ => exN [t, a, b] i
  | .Compare a _ bs _ => exN (a :: bs) i
  | .Call f as _ _ => exN (f :: as) i
  | .Attribute a _ _ => a
  | .Subscript a b _ => exN [a, b] i
  | .List es _ => exN es i
  | .Tuple es _ _ => exN es i
  | _ => nam0
def lamE : Expr → Arguments × Expr × Scope
  | .Lambda a b s _ => (a, b, s)
  | _ => (⟨[], [], none, [], [], none, []⟩, nam0, default)
/-- which exceptions an except of the name e takes: that one -/
def exOne (e : Str) : Str → Option Bool := fun n => if n = e then some true else none
theorem exOne_ok {K : PySem.W.Frag} {e : Str} (h : PySem.W.exmOne K (.ref (He.ga K e)) (.ref (He.ga K e)) = some true) : ∀ n v, exOne e n = some v → PySem.W.exmOne K (.ref (He.ga K n)) (.ref (He.ga K e)) = some v := fun n v q => by
  unfold exOne at q
  by_cases c : n = e
  · rw [if_pos c] at q
    cases q
    rw [c]
    exact h
  · rw [if_neg c] at q
    cases q
section
variable {K : PySem.W.Frag} {h : Heap} {mg : Str → Option Value} {fas : List He.Fa} {fn : List He.DefD} {ts : List He.Tab} {tf : List He.Defn} {ex : PySem.W.Frag → Bool} {w : World}
theorem exc_c (X : K.In h) (G : h.Ns mainGlobals mg) {x : Str} (c1 : (He.Fa.glo x).ok K = true) (c2 : (He.Fa.exc x).ok K = true) : ExcC K mg x := by
  obtain ⟨a, b, c, d⟩ := He.exc_ok c2
  exact ⟨He.glo_ok X G c1, a, b, c, d⟩
theorem isn_d {x nm qual a e : Str} {pg : Arguments} {bg : List Stmt} {sg : Scope} (X : K.In h) (G : h.Ns mainGlobals mg) (F : ∃ fd, FunD K nm qual pg bg sg [] [] (He.ga K x) fd) (cx : (He.Fa.glo x).ok K = true) (ce : (He.Fa.glo e).ok K = true) (cm : (He.Fa.exm e e true).ok K = true)
    (S : FnScope [a] [a] sg) (hb : ∀ (kV doc pm : Value) (an : Option Addr) (cdv ct : Value) (us : List Value), us.length = 1 → bindArgs (PySem.W.fnOf nm qual pg bg sg .none kV doc pm an cdv ct) ⟨us, []⟩ = pure ([a].zip us))
    (hbg : ∃ (j1 j2 : Nat) (p1 p2 p3 p4 p5 p6 p7 p8 p9 p10 : Pos), bg = isnBody a e j1 j2 p1 p2 p3 p4 p5 p6 p7 p8 p9 p10) (hva : Vis sg a) (hge : sg.names.lookup e = some .globalImplicit)
    (d1 : (a == ("__debug__" : Str)) = false) (d2 : (a == ("__classdict__" : Str)) = false) (d3 : (e == ("__debug__" : Str)) = false) (d4 : (x == ("__debug__" : Str)) = false) : IsnD K mg x a e (exOne e) := by
  obtain ⟨fd, F⟩ := F
  obtain ⟨j1, j2, p1, p2, p3, p4, p5, p6, p7, p8, p9, p10, hbg⟩ := hbg
  exact ⟨⟨nm, qual, pg, bg, sg, fd, j1, j2, p1, p2, p3, p4, p5, p6, p7, p8, p9, p10, F, S, F.bindsN hb, hbg, hva, hge⟩, He.glo_ok X G ce, He.glo_ok X G cx, exOne_ok (He.exm_ok cm), d1, d2, d3, d4⟩
end
theorem codeD {K : PySem.W.Frag} {nm qual x : Str} {pg : Arguments} {bg : List Stmt} {sg : Scope} {fd : FuncData} (F : FunD K nm qual pg bg sg [] [] (He.ga K x) fd) : fd.code = .ref (codA K x) := by
  obtain ⟨oc, od, dV, kV, doc, pm, an, cdv, ct, osl, rfl, lk, hcd, _, _⟩ := F.ex
  obtain ⟨c, rfl⟩ := He.codeIn_ref hcd
  have ec : codA K x = c := He.codeOf_eq (p := (x, none)) lk rfl
  rw [ec]
end Dn

set_option Elab.async false
set_option linter.all false
set_option maxRecDepth 100000
set_option maxHeartbeats 1000000
/-! DnW: what a denotation makes, by plain rules. -/
namespace Dn
open PySem PySem.Spec L2
open PyProof.Rows hiding St

/-! ### an expression ends well, with P -/
def wM {α : Type} (m : M α) (μ : Mu) (P : α → Mu → Prop) : Prop := ∃ a μ', m μ = some (.ok a μ') ∧ P a μ'
theorem wM_of {α : Type} {m : M α} {μ μ' : Mu} {P : α → Mu → Prop} {a : α} (h : m μ = some (.ok a μ')) (p : P a μ') : wM m μ P := ⟨a, μ', h, p⟩
theorem wM_mono {α : Type} {m : M α} {μ : Mu} {P P' : α → Mu → Prop} (h : wM m μ P) (k : ∀ a μ', P a μ' → P' a μ') : wM m μ P' := by
  obtain ⟨a, μ', e, p⟩ := h
  exact ⟨a, μ', e, k a μ' p⟩
theorem wM_eq {α : Type} {m : M α} {μ μ' : Mu} {P : α → Mu → Prop} {a : α} (h : m μ = some (.ok a μ')) : wM m μ P ↔ P a μ' := by
  constructor
  · rintro ⟨b, μ1, e, p⟩
    rw [h] at e
    cases e
    exact p
  · exact fun p => ⟨a, μ', h, p⟩
@[simp] theorem wM_ret {α : Type} {a : α} {μ : Mu} {P : α → Mu → Prop} : wM (M.ret a) μ P ↔ P a μ := wM_eq rfl
@[simp] theorem wM_bnd {α β : Type} {m : M α} {k : α → M β} {μ : Mu} {P : β → Mu → Prop} : wM (M.bnd m k) μ P ↔ wM m μ fun a μ' => wM (k a) μ' P := by
  constructor
  · rintro ⟨b, μ', e, p⟩
    unfold M.bnd at e
    cases q : m μ with
    | none => simp [q] at e
    | some r =>
      cases r with
      | ok a μ1 => exact ⟨a, μ1, q, b, μ', by simpa [q] using e, p⟩
      | ex c μ1 => simp [q] at e
  · rintro ⟨a, μ1, e, b, μ', e2, p⟩
    refine ⟨b, μ', ?_, p⟩
    unfold M.bnd
    rw [e]
    exact e2
@[simp] theorem wM_ofS {α : Type} {a : α} {μ : Mu} {P : α → Mu → Prop} : wM (M.of (some a)) μ P ↔ P a μ := wM_eq rfl
theorem wM_if {α : Type} {c : Prop} [Decidable c] {m m' : M α} {μ : Mu} {P : α → Mu → Prop} : wM (if c then m else m') μ P ↔ if c then wM m μ P else wM m' μ P := by
  by_cases h : c
  · rw [if_pos h, if_pos h]
  · rw [if_neg h, if_neg h]
/-! ### a statement -/
def outS (N : Ro → Mu → Prop) (T : D → Mu → Prop) (B C : Ro → Mu → Prop) : SR → Prop
  | .nx ρ μ => N ρ μ
  | .rt d μ => T d μ
  | .bk ρ μ => B ρ μ
  | .ct ρ μ => C ρ μ
  | .ex _ _ _ => False
def wS (s : SF) (ρ : Ro) (μ : Mu) (N : Ro → Mu → Prop) (T : D → Mu → Prop) (B C : Ro → Mu → Prop) : Prop := ∃ r, s ρ μ = some r ∧ outS N T B C r
section
variable {f g s : SF} {ρ : Ro} {μ : Mu} {N : Ro → Mu → Prop} {T : D → Mu → Prop} {B C : Ro → Mu → Prop}
@[simp] theorem wS_seq : wS (sSeq f g) ρ μ N T B C ↔ wS f ρ μ (fun ρ μ => wS g ρ μ N T B C) T B C := by
  constructor
  · rintro ⟨r, e, p⟩
    unfold sSeq at e
    cases q : f ρ μ with
    | none => simp [q] at e
    | some z =>
      refine ⟨z, q, ?_⟩
      rw [q] at e
      cases z with
      | nx ρ1 μ1 => exact ⟨r, e, p⟩
      | _ =>
        cases e
        exact p
  · rintro ⟨z, q, p⟩
    cases z with
    | nx ρ1 μ1 =>
      obtain ⟨r, e, p⟩ := p
      exact ⟨r, by simp only [sSeq, q]; exact e, p⟩
    | rt d μ1 => exact ⟨.rt d μ1, by simp only [sSeq, q], p⟩
    | bk ρ1 μ1 => exact ⟨.bk ρ1 μ1, by simp only [sSeq, q], p⟩
    | ct ρ1 μ1 => exact ⟨.ct ρ1 μ1, by simp only [sSeq, q], p⟩
    | ex c ρ1 μ1 => exact p.elim
theorem wS_bnd {α : Type} {m : Ro → M α} {k : Ro → α → Mu → Option SR} : wS (fun ρ => bndS (m ρ) ρ (k ρ)) ρ μ N T B C ↔ wM (m ρ) μ fun a μ' => wS (fun ρ => k ρ a) ρ μ' N T B C := by
  constructor
  · rintro ⟨r, e, p⟩
    simp only [bndS] at e
    cases q : m ρ μ with
    | none => simp [q] at e
    | some z =>
      cases z with
      | ok a μ1 =>
        simp only [q] at e
        exact ⟨a, μ1, q, r, e, p⟩
      | ex c μ1 =>
        simp only [q] at e
        cases e
        exact p.elim
  · rintro ⟨a, μ', e, r, e2, p⟩
    exact ⟨r, by simp only [bndS, e]; exact e2, p⟩
theorem wS_nx {k : SF} {ρ' : Ro} {μ' : Mu} (h : k ρ μ = some (.nx ρ' μ')) : wS k ρ μ N T B C ↔ N ρ' μ' := ⟨fun ⟨_, e, p⟩ => by rw [h] at e; cases e; exact p, fun p => ⟨_, h, p⟩⟩
theorem wS_rt {k : SF} {d : D} {μ' : Mu} (h : k ρ μ = some (.rt d μ')) : wS k ρ μ N T B C ↔ T d μ' := ⟨fun ⟨_, e, p⟩ => by rw [h] at e; cases e; exact p, fun p => ⟨_, h, p⟩⟩
theorem wS_bk {k : SF} {ρ' : Ro} {μ' : Mu} (h : k ρ μ = some (.bk ρ' μ')) : wS k ρ μ N T B C ↔ B ρ' μ' := ⟨fun ⟨_, e, p⟩ => by rw [h] at e; cases e; exact p, fun p => ⟨_, h, p⟩⟩
theorem wS_ct {k : SF} {ρ' : Ro} {μ' : Mu} (h : k ρ μ = some (.ct ρ' μ')) : wS k ρ μ N T B C ↔ C ρ' μ' := ⟨fun ⟨_, e, p⟩ => by rw [h] at e; cases e; exact p, fun p => ⟨_, h, p⟩⟩
@[simp] theorem wS_next : wS sNext ρ μ N T B C ↔ N ρ μ := wS_nx rfl
@[simp] theorem wS_break : wS sBreak ρ μ N T B C ↔ B ρ μ := wS_bk rfl
@[simp] theorem wS_cont : wS sCont ρ μ N T B C ↔ C ρ μ := wS_ct rfl
@[simp] theorem wS_retN : wS sRetN ρ μ N T B C ↔ T .non μ := wS_rt rfl
@[simp] theorem wS_set {i : Nat} {fe : Ro → M D} : wS (sSet i fe) ρ μ N T B C ↔ wM (fe ρ) μ fun d μ' => N (ρ.set i (some d)) μ' :=
  wS_bnd.trans ⟨fun h => wM_mono h fun a μ' z => (wS_nx rfl).mp z, fun h => wM_mono h fun a μ' z => (wS_nx rfl).mpr z⟩
@[simp] theorem wS_expr {fe : Ro → M D} : wS (sExpr fe) ρ μ N T B C ↔ wM (fe ρ) μ fun _ μ' => N ρ μ' :=
  wS_bnd.trans ⟨fun h => wM_mono h fun a μ' z => (wS_nx rfl).mp z, fun h => wM_mono h fun a μ' z => (wS_nx rfl).mpr z⟩
@[simp] theorem wS_ret {fe : Ro → M D} : wS (sRet fe) ρ μ N T B C ↔ wM (fe ρ) μ fun d μ' => T d μ' :=
  wS_bnd.trans ⟨fun h => wM_mono h fun a μ' z => (wS_rt rfl).mp z, fun h => wM_mono h fun a μ' z => (wS_rt rfl).mpr z⟩
@[simp] theorem wS_if {t : Ro → M Bool} : wS (sIf t f g) ρ μ N T B C ↔ wM (t ρ) μ fun c μ' => if c = true then wS f ρ μ' N T B C else wS g ρ μ' N T B C :=
  wS_bnd.trans ⟨fun h => wM_mono h fun a μ' z => by cases a <;> simpa using z, fun h => wM_mono h fun a μ' z => by cases a <;> simpa using z⟩
@[simp] theorem wS_par {i j : Nat} {fa : Ro → M (List D)} : wS (sPar i j fa) ρ μ N T B C ↔ wM (fa ρ) μ fun l μ' => ∃ a b, l = [a, b] ∧ N ((ρ.set i (some a)).set j (some b)) μ' := by
  refine wS_bnd.trans ⟨fun h => wM_mono h fun l μ' z => ?_, fun h => wM_mono h fun l μ' ⟨a, b, e, p⟩ => by subst e; exact (wS_nx rfl).mpr p⟩
  obtain ⟨r, e, p⟩ := z
  match l, e with
  | [a, b], e =>
    cases e
    exact ⟨a, b, rfl, p⟩
@[simp] theorem wS_par3 {i j k : Nat} {fa : Ro → M (List D)} : wS (sPar3 i j k fa) ρ μ N T B C ↔ wM (fa ρ) μ fun l μ' => ∃ a b c, l = [a, b, c] ∧ N (((ρ.set i (some a)).set j (some b)).set k (some c)) μ' := by
  refine wS_bnd.trans ⟨fun h => wM_mono h fun l μ' z => ?_, fun h => wM_mono h fun l μ' ⟨a, b, c, e, p⟩ => by subst e; exact (wS_nx rfl).mpr p⟩
  obtain ⟨r, e, p⟩ := z
  match l, e with
  | [a, b, c], e =>
    cases e
    exact ⟨a, b, c, rfl, p⟩
@[simp] theorem wS_asg {fe : Ro → M D} {g : GF} : wS (sAsg fe g) ρ μ N T B C ↔ wM (fe ρ) μ fun d μ' => ∃ ρ', g d ρ = some ρ' ∧ N ρ' μ' := by
  refine wS_bnd.trans ⟨fun h => wM_mono h fun d μ' ⟨r, e, p⟩ => ?_, fun h => wM_mono h fun d μ' ⟨ρ', e, p⟩ => ⟨.nx ρ' μ', by simp only [e], p⟩⟩
  cases q : g d ρ with
  | none => simp [q] at e
  | some ρ' =>
    simp [q] at e
    subst e
    exact ⟨ρ', rfl, p⟩
theorem wS_mono {N' : Ro → Mu → Prop} {T' : D → Mu → Prop} {B' C' : Ro → Mu → Prop} (h : wS s ρ μ N T B C) (hN : ∀ ρ μ, N ρ μ → N' ρ μ) (hT : ∀ d μ, T d μ → T' d μ) (hB : ∀ ρ μ, B ρ μ → B' ρ μ) (hC : ∀ ρ μ, C ρ μ → C' ρ μ) : wS s ρ μ N' T' B' C' := by
  obtain ⟨r, e, p⟩ := h
  refine ⟨r, e, ?_⟩
  cases r with
  | nx ρ μ => exact hN _ _ p
  | rt d μ => exact hT _ _ p
  | bk ρ μ => exact hB _ _ p
  | ct ρ μ => exact hC _ _ p
  | ex c ρ μ => exact p
/-- for: an invariant by what is left -/
theorem wS_for {src : Src} {g : GF} {b : SF} (I : List D → Ro → Mu → Prop) (h : wM (src ρ) μ fun w μ' => w.2 = none ∧ I w.1 ρ μ') (hs : ∀ d ds ρ μ, I (d :: ds) ρ μ → ∃ ρ1, g d ρ = some ρ1 ∧ wS b ρ1 μ (I ds) T N (I ds)) (he : ∀ ρ μ, I [] ρ μ → N ρ μ) : wS (sFor src g b) ρ μ N T B C := by
  refine wS_bnd.mpr (wM_mono h fun w μ' ⟨hw, hi⟩ => ?_)
  obtain ⟨l, lk⟩ := w
  have hw : lk = none := hw
  subst hw
  show wS (fun ρ => loopF (l, none) g b l ρ) ρ μ' N T B C
  have go : ∀ (l0 l : List D) (ρ : Ro) (μ : Mu), I l ρ μ → wS (fun ρ => loopF (l0, none) g b l ρ) ρ μ N T B C := by
    intro l0 l
    induction l with
    | nil => exact fun ρ μ hi => ⟨.nx ρ μ, rfl, he ρ μ hi⟩
    | cons d ds ih =>
      intro ρ μ hi
      obtain ⟨ρ1, eg, r, eb, p⟩ := hs d ds ρ μ hi
      unfold wS
      simp only [loopF, guardH_none, eg, eb]
      cases r with
      | nx ρ2 μ2 => exact ih ρ2 μ2 p
      | ct ρ2 μ2 => exact ih ρ2 μ2 p
      | bk ρ2 μ2 => exact ⟨_, rfl, p⟩
      | rt d μ2 => exact ⟨_, rfl, p⟩
      | ex c ρ2 μ2 => exact p.elim
  exact go l l ρ μ' hi
end
/-! ### defs -/
/-- a def that leaves the store's size -/
theorem runF_w {np n : Nat} {B : SF} {ds : List D} {μ : Mu} {P : D → Mu → Prop} (hl : ds.length = np) (h : wS B (startRo n ds) μ (fun _ μ' => μ'.length = μ.length ∧ P .non μ') (fun d μ' => μ'.length = μ.length ∧ P d μ') (fun _ _ => False) (fun _ _ => False)) : wM (runF np n B ds) μ P := by
  obtain ⟨r, e, p⟩ := h
  unfold wM runF
  rw [if_pos hl, e]
  cases r with
  | nx ρ μ' => exact ⟨.non, μ', by simp only [fin]; rw [if_pos p.1], p.2⟩
  | rt d μ' => exact ⟨d, μ', by simp only [fin]; rw [if_pos p.1], p.2⟩
  | _ => exact p.elim
/-- .. that makes new lists, which go at its end -/
theorem runF_wC {np n : Nat} {B : SF} {ds : List D} {μ : Mu} {P : D → Mu → Prop} (hl : ds.length = np) (h : wS B (startRo n ds) μ (fun _ _ => False) (fun d μ' => ∃ d' μ2, fz 40 μ.length μ' d = some d' ∧ cut μ.length μ' = some μ2 ∧ μ'.length ≠ μ.length ∧ P d' μ2) (fun _ _ => False) (fun _ _ => False)) : wM (runF np n B ds) μ P := by
  obtain ⟨r, e, p⟩ := h
  unfold wM runF
  rw [if_pos hl, e]
  cases r with
  | rt d μ' =>
    obtain ⟨d', μ2, h1, h2, h3, p⟩ := p
    exact ⟨d', μ2, by simp only [fin]; rw [if_neg h3, h1, h2], p⟩
  | _ => exact p.elim
theorem runR_w {np n : Nat} {B : SF} {ds : List D} {μ : Mu} {P : D → Mu → Prop} (hl : ds.length = np) (h : wS B (startRo n ds) μ (fun _ μ' => P .non μ') (fun d μ' => P d μ') (fun _ _ => False) (fun _ _ => False)) : wM (runR np n B ds) μ P := by
  obtain ⟨r, e, p⟩ := h
  unfold wM runR
  rw [if_pos hl, e]
  cases r with
  | nx ρ μ' => exact ⟨.non, μ', rfl, p⟩
  | rt d μ' => exact ⟨d, μ', rfl, p⟩
  | _ => exact p.elim
/-! ### comprehensions: a function of each item, no store -/
theorem wM_comp {src : Src} {g : GF} {t : Ro → M Bool} {e : Ro → M D} {vs : List Nat} {ρ : Ro} {μ : Mu} {P : D → Mu → Prop} {c : D → Bool} {F : D → D}
    (h : wM (src ρ) μ fun w μ' => w.2 = none ∧ w.1.length ≤ 1000000 ∧ (∀ d ∈ w.1, ∃ ρ1, g d (wipeR ρ vs) = some ρ1 ∧ t ρ1 μ' = some (.ok (c d) μ') ∧ (c d = true → e ρ1 μ' = some (.ok (F d) μ'))) ∧ P (.lst ((w.1.filter c).map F)) μ') : wM (eComp src g t e vs ρ) μ P := by
  unfold eComp
  refine wM_bnd.mpr (wM_mono h fun w μ' ⟨hw, hl, hd, hp⟩ => ?_)
  obtain ⟨l, lk⟩ := w
  have hw : lk = none := hw
  subst hw
  have go : ∀ (l0 l : List D), (∀ d ∈ l, ∃ ρ1, g d (wipeR ρ vs) = some ρ1 ∧ t ρ1 μ' = some (.ok (c d) μ') ∧ (c d = true → e ρ1 μ' = some (.ok (F d) μ'))) → compF (l0, none) g t e l (wipeR ρ vs) μ' = some (.ok ((l.filter c).map F) μ') := by
    intro l0 l
    induction l with
    | nil => exact fun _ => rfl
    | cons d ds ih =>
      intro hd
      obtain ⟨ρ1, e1, e2, e3⟩ := hd d (List.mem_cons_self ..)
      have ih' := ih fun d' hd' => hd d' (List.mem_cons_of_mem _ hd')
      simp only [compF, guardH_none, e1, M.bnd, e2]
      cases hc : c d with
      | false =>
        rw [List.filter_cons_of_neg (by simp [hc])]
        simp only [Bool.false_eq_true, if_false]
        exact ih'
      | true =>
        rw [List.filter_cons_of_pos (by simp [hc])]
        simp only [if_true, M.bnd, e3 hc, ih', List.map_cons, M.ret]
  have hsm : small l.length = true := decide_eq_true hl
  rw [if_pos hsm]
  refine wM_bnd.mpr ⟨(l.filter c).map F, μ', ?_, wM_ret.mpr hp⟩
  unfold noX
  rw [go l l hd]
/-! ### plain data -/
theorem mapO_map {α β γ : Type} {f : β → Option γ} {h : α → β} {k : α → γ} : ∀ {l : List α}, (∀ x ∈ l, f (h x) = some (k x)) → mapO f (l.map h) = some (l.map k)
  | [], _ => rfl
  | x :: r, e => by
    simp only [List.map_cons, mapO, e x (List.mem_cons_self ..), mapO_map fun y hy => e y (List.mem_cons_of_mem _ hy)]
theorem mapO_id {α : Type} {f : α → Option α} : ∀ {l : List α}, (∀ x ∈ l, f x = some x) → mapO f l = some l
  | [], _ => rfl
  | x :: r, e => by
    simp only [mapO, e x (List.mem_cons_self ..), mapO_id fun y hy => e y (List.mem_cons_of_mem _ hy)]
mutual
theorem res_lay : ∀ (n : Nat) (μ : Mu) (d : D) (p : PyData), res n μ d = some p → p.canLay0 = true
  | n, μ, d, p, h => by
    induction n generalizing d p with
    | zero =>
      cases d <;> simp [res] at h
      all_goals first
        | (subst h; simp [PyData.canLay0])
        | (obtain ⟨h1, h2⟩ := h; subst h2; exact h1)
    | succ n ih =>
      have all : ∀ (l : List D) (ps : List PyData), mapO (res n μ) l = some ps → PyData.canLayAll0 ps = true := by
        intro l
        induction l with
        | nil =>
          intro ps e
          cases e
          simp [PyData.canLayAll0]
        | cons x r ihl =>
          intro ps e
          unfold mapO at e
          cases q1 : res n μ x with
          | none => simp [q1] at e
          | some y =>
            cases q2 : mapO (res n μ) r with
            | none => simp [q1, q2] at e
            | some ys =>
              simp [q1, q2] at e
              subst e
              simp [PyData.canLayAll0, ih x y q1, ihl ys q2]
      cases d with
      | tup l =>
        simp only [res] at h
        cases q : mapO (res n μ) l with
        | none => simp [q] at h
        | some ps =>
          simp [q] at h
          subst h
          simp only [PyData.canLay0]
          exact all l ps q
      | lst l =>
        simp only [res] at h
        cases q : mapO (res n μ) l with
        | none => simp [q] at h
        | some ps =>
          simp [q] at h
          subst h
          simp only [PyData.canLay0]
          exact all l ps q
      | fls l =>
        simp only [res] at h
        cases q : mapO (res n μ) l with
        | none => simp [q] at h
        | some ps =>
          simp [q] at h
          subst h
          simp only [PyData.canLay0]
          exact all l ps q
      | loc k =>
        simp only [res] at h
        split at h
        · rename_i l hk
          cases q : mapO (res n μ) l with
          | none => simp [q] at h
          | some ps =>
            simp [q] at h
            subst h
            simp only [PyData.canLay0]
            exact all l ps q
        · cases h
      | non => simp [res] at h; subst h; simp [PyData.canLay0]
      | bl b => simp [res] at h; subst h; simp [PyData.canLay0]
      | int i => simp [res] at h; subst h; simp [PyData.canLay0]
      | str x =>
        simp [res] at h
        obtain ⟨h1, h2⟩ := h
        subst h2
        exact h1
      | fn x => simp [res] at h
      | clo _ _ _ _ => simp [res] at h
end
theorem pEq_same {d : D} {μ : Mu} {p : PyData} (h : res 40 μ d = some p) : pEq d d μ = some (.ok (.bl true) μ) := by
  unfold pEq onRes
  simp only [h]
  rw [PySem.SeqAt.eqv_refl p (res_lay 40 μ d p h)]
  rfl
theorem pNe_same {d : D} {μ : Mu} {p : PyData} (h : res 40 μ d = some p) : pNe d d μ = some (.ok (.bl false) μ) := by
  unfold pNe onRes
  simp only [h]
  rw [PySem.SeqAt.eqv_refl p (res_lay 40 μ d p h)]
  rfl
end Dn

set_option Elab.async false
set_option linter.all false
set_option maxRecDepth 100000
set_option maxHeartbeats 1000000
/-! DnX: plain rules for simp. -/
namespace Dn
open PySem PySem.Spec L2
open PyProof.Rows hiding St

/-! ### as runs -/
section
variable {α β : Type} {μ : Mu} {ρ : Ro} {f g h : Ro → M D} {fl : Ro → M (List D)} {tf tg : Ro → M Bool} {p q : D → D → M D} {u : D → M D} {pl : List D → M D} {a b : SF} {P : D → Mu → Prop} {PB : Bool → Mu → Prop} {PL : List D → Mu → Prop}
@[simp] theorem e1_ap : e1 u f ρ = M.bnd (f ρ) u := rfl
@[simp] theorem e2_ap : e2 p f g ρ = M.bnd (f ρ) fun x => M.bnd (g ρ) fun y => p x y := rfl
@[simp] theorem eL_ap : eL pl fl ρ = M.bnd (fl ρ) pl := rfl
@[simp] theorem aNil_ap : aNil ρ = M.ret [] := rfl
@[simp] theorem aCons_ap : aCons f fl ρ = M.bnd (f ρ) fun x => M.bnd (fl ρ) fun xs => M.ret (x :: xs) := rfl
@[simp] theorem eC_ap {d : D} : eC d ρ = M.ret d := rfl
theorem eVar_ap {i : Nat} : eVar i ρ = M.of (ρ[i]?.join) := rfl
@[simp] theorem eVar_0 {x : Option D} {r : Ro} : eVar 0 (x :: r) = M.of x := by cases x <;> rfl
@[simp] theorem eVar_s {i : Nat} {x : Option D} {r : Ro} : eVar (i + 1) (x :: r) = eVar i r := rfl
@[simp] theorem tV_ap : tV f ρ = M.bnd (f ρ) asB := rfl
@[simp] theorem asB_bl {c : Bool} : asB (.bl c) = M.ret c := rfl
@[simp] theorem tAnd_ap : tAnd' tf tg ρ = M.bnd (tf ρ) fun c => if c = true then tg ρ else M.ret false := rfl
@[simp] theorem tOr_ap : tOr' tf tg ρ = M.bnd (tf ρ) fun c => if c = true then M.ret true else tg ρ := rfl
@[simp] theorem tNot_ap : tNot' tf ρ = M.bnd (tf ρ) fun c => M.ret (!c) := rfl
@[simp] theorem tYes_ap : tYes' ρ = M.ret true := rfl
@[simp] theorem vAnd_ap : vAnd f g ρ = M.bnd (f ρ) fun x => M.bnd (asB x) fun c => if c = true then g ρ else M.ret (.bl false) := rfl
@[simp] theorem vOr_ap : vOr f g ρ = M.bnd (f ρ) fun x => M.bnd (asB x) fun c => if c = true then M.ret (.bl true) else g ρ := rfl
@[simp] theorem vNot_ap : vNot f ρ = M.bnd (f ρ) fun x => M.bnd (asB x) fun c => M.ret (.bl (!c)) := rfl
@[simp] theorem vIf_ap : vIf tf f g ρ = M.bnd (tf ρ) fun c => if c = true then f ρ else g ρ := rfl
@[simp] theorem vChain_ap : vChain p q f g h ρ = M.bnd (f ρ) fun x => M.bnd (g ρ) fun y => M.bnd (p x y) fun z => M.bnd (asB z) fun c => if c = true then M.bnd (h ρ) fun u => q y u else M.ret (.bl false) := rfl
@[simp] theorem eTup_ap : eTup fl ρ = M.bnd (fl ρ) fun l => if small l.length = true then M.ret (.tup l) else fail := rfl
@[simp] theorem eLst_ap : eLst fl ρ = M.bnd (fl ρ) fun l => if small l.length = true then M.ret (.lst l) else fail := rfl
@[simp] theorem eIsi_ap {T : String} : eIsi T f ρ = M.bnd (f ρ) fun d => M.bnd (isTM T d) fun b => M.ret (.bl b) := rfl
@[simp] theorem oNone_ap : oNone ρ = M.ret none := rfl
@[simp] theorem oSome_ap : oSome f ρ = M.bnd (f ρ) fun d => M.bnd (asI d) fun i => M.ret (some i) := rfl
@[simp] theorem asI_int {i : Int} : asI (.int i) = M.ret i := rfl
@[simp] theorem eSl_ap {lo hi : Ro → M (Option Int)} : eSl f lo hi ρ = M.bnd (f ρ) fun d => M.bnd (lo ρ) fun a => M.bnd (hi ρ) fun b => pSl d a b := rfl
@[simp] theorem srcI_ap : srcI f ρ = M.bnd (f ρ) itemsM := rfl
@[simp] theorem itemsM_tup {l : List D} : itemsM (.tup l) = M.ret (l, none) := rfl
@[simp] theorem itemsM_lst {l : List D} : itemsM (.lst l) = M.ret (l, none) := rfl
@[simp] theorem itemsM_fls {l : List D} : itemsM (.fls l) = M.ret (l, none) := rfl
theorem itemsM_loc {n : Nat} {l : List D} (hn : μ[n]? = some (.lst l)) : itemsM (.loc n) μ = some (.ok (l, some n) μ) := by
  unfold itemsM
  simp only [hn]
theorem small_nil : small 0 = true := rfl
theorem small_of {n : Nat} (hn : n ≤ 1000000) : small n = true := decide_eq_true hn
@[simp] theorem ite_small {γ : Type} {n : Nat} {x y : γ} : (if small n = true then x else y) = if n ≤ 1000000 then x else y := by
  by_cases h : n ≤ 1000000
  · rw [if_pos h, if_pos (small_of h)]
  · have hs : small n = false := decide_eq_false h
    rw [hs, if_neg h]
    exact if_neg Bool.false_ne_true
@[simp] theorem iteT' {γ : Type} {x y : γ} : (if (true : Bool) = true then x else y) = x := rfl
@[simp] theorem iteF' {γ : Type} {x y : γ} : (if (false : Bool) = true then x else y) = y := rfl
theorem bnd_ok {m : M α} {k : α → M β} {a : α} {μ1 : Mu} (e : m μ = some (.ok a μ1)) : M.bnd m k μ = k a μ1 := by
  unfold M.bnd
  rw [e]
theorem bnd_ex {m : M α} {k : α → M β} {c : Str} {μ1 : Mu} (e : m μ = some (.ex c μ1)) : M.bnd m k μ = some (.ex c μ1) := by
  unfold M.bnd
  rw [e]
end
/-! ### primitives on data -/
section
variable {i j : Int} {μ : Mu}
@[simp] theorem pAdd_int : pAdd (.int i) (.int j) = M.ret (.int (i + j)) := rfl
@[simp] theorem pSub_int : pSub (.int i) (.int j) = M.ret (.int (i - j)) := rfl
@[simp] theorem pNeg_int : pNeg (.int i) = M.ret (.int (-i)) := rfl
@[simp] theorem p2I0_int {g : Int → Int → D} : p2I0 g (.int i) (.int j) = M.ret (g i j) := rfl
@[simp] theorem pLt_int : pLt (.int i) (.int j) = M.ret (.bl (decide (i < j))) := rfl
@[simp] theorem pLe_int : pLe (.int i) (.int j) = M.ret (.bl (decide (i ≤ j))) := rfl
@[simp] theorem pGt_int : pGt (.int i) (.int j) = M.ret (.bl (decide (j < i))) := rfl
@[simp] theorem pGe_int : pGe (.int i) (.int j) = M.ret (.bl (decide (j ≤ i))) := rfl
theorem pMul_int (h : (-18446744073709551616 < i ∧ i < 18446744073709551616) ∨ (-18446744073709551616 < j ∧ j < 18446744073709551616)) : pMul (.int i) (.int j) = M.ret (.int (i * j)) := by
  have e : ((decide (-(2 ^ 64) < i) && decide (i < 2 ^ 64)) || (decide (-(2 ^ 64) < j) && decide (j < 2 ^ 64))) = true := by
    rcases h with h | h
    · rw [decide_eq_true (show -(2 ^ 64) < i by omega), decide_eq_true (show i < 2 ^ 64 by omega)] <;> rfl
    · rw [decide_eq_true (show -(2 ^ 64) < j by omega), decide_eq_true (show j < 2 ^ 64 by omega), Bool.and_self, Bool.or_true]
  unfold pMul p2I
  simp only [e]
  rfl
theorem pMulA_int (h : (-18446744073709551616 < i ∧ i < 18446744073709551616) ∨ (-18446744073709551616 < j ∧ j < 18446744073709551616)) : pMulA (.int i) (.int j) = M.ret (.int (i * j)) := pMul_int h
theorem pDiv_int (h : 0 < j) (h2 : j < 1000000000000000000000000000000) : pDiv (.int i) (.int j) = M.ret (.int (i / j)) := by
  unfold pDiv p2I
  simp only [decide_eq_true h, decide_eq_true (show j < 2 ^ 200 by omega)]
  rfl
theorem pMod_int (h : 0 < j) : pMod (.int i) (.int j) = M.ret (.int (i % j)) := by
  unfold pMod p2I
  simp only [decide_eq_true h]
  rfl
@[simp] theorem pInt_int : pInt [.int i] = M.ret (.int i) := rfl
@[simp] theorem pAbs_int : pAbs [.int i] = M.ret (.int (if i < 0 then -i else i)) := rfl
@[simp] theorem pAdd_tup {l r : List D} : pAdd (.tup l) (.tup r) = if small (l.length + r.length) = true then M.ret (.tup (l ++ r)) else fail := rfl
@[simp] theorem pAdd_lst {l r : List D} : pAdd (.lst l) (.lst r) = if small (l.length + r.length) = true then M.ret (.lst (l ++ r)) else fail := rfl
@[simp] theorem pIx_tup {l : List D} : pIx (.tup l) (.int i) = M.of (atI l i) := rfl
@[simp] theorem pIx_lst {l : List D} : pIx (.lst l) (.int i) = M.of (atI l i) := rfl
theorem pIx_loc {n : Nat} {l : List D} (h : μ[n]? = some (.lst l)) : pIx (.loc n) (.int i) μ = (M.of (atI l i) : M D) μ := by
  unfold pIx
  simp only [h]
theorem atI_nat {α : Type} {l : List α} {k : Nat} {x : α} (h : l[k]? = some x) : atI l (k : Int) = some x := by
  obtain ⟨hl, _⟩ := List.getElem?_eq_some_iff.mp h
  unfold atI ixN
  rw [if_pos (by omega), if_pos (by omega), Int.toNat_natCast]
  exact h
theorem atI_of {α : Type} {l : List α} {i : Int} {x : α} (h0 : 0 ≤ i) (h : l[i.toNat]? = some x) : atI l i = some x := by
  have := atI_nat h
  rwa [Int.toNat_of_nonneg h0] at this
@[simp] theorem pLen_tup {l : List D} : pLen [.tup l] = M.ret (.int l.length) := rfl
@[simp] theorem pLen_lst {l : List D} : pLen [.lst l] = M.ret (.int l.length) := rfl
@[simp] theorem pList_tup {l : List D} : pList [.tup l] = M.ret (.lst l) := rfl
@[simp] theorem pList_lst {l : List D} : pList [.lst l] = M.ret (.lst l) := rfl
@[simp] theorem pTuple_tup {l : List D} : pTuple [.tup l] = M.ret (.tup l) := rfl
@[simp] theorem pTuple_lst {l : List D} : pTuple [.lst l] = M.ret (.tup l) := rfl
theorem pTuple_loc {n : Nat} {l : List D} (h : μ[n]? = some (.lst l)) : pTuple [.loc n] μ = some (.ok (.tup l) μ) := by
  unfold pTuple onItems items
  simp only [h]
  rfl
@[simp] theorem pSl_tup {l : List D} {lo hi : Option Int} : pSl (.tup l) lo hi = M.ret (.tup (cutD l lo hi)) := rfl
@[simp] theorem pSl_lst {l : List D} {lo hi : Option Int} : pSl (.lst l) lo hi = M.ret (.lst (cutD l lo hi)) := rfl
@[simp] theorem pSl_fls {l : List D} {lo hi : Option Int} : pSl (.fls l) lo hi = M.ret (.lst (cutD l lo hi)) := rfl
@[simp] theorem pIs_non {d : D} : pIs d .non = M.ret (.bl (isN d)) := by cases d <;> rfl
@[simp] theorem pIsNot_non {d : D} : pIsNot d .non = M.ret (.bl (!isN d)) := by cases d <;> rfl
@[simp] theorem pIs_bl {a b : Bool} : pIs (.bl a) (.bl b) = M.ret (.bl (decide (a = b))) := rfl
@[simp] theorem pIsNot_bl {a b : Bool} : pIsNot (.bl a) (.bl b) = M.ret (.bl (!decide (a = b))) := rfl
@[simp] theorem isN_non : isN .non = true := rfl
@[simp] theorem isN_int : isN (.int i) = false := rfl
theorem beq_int (i j : Int) : (i == j) = decide (i = j) := by
  by_cases h : i = j
  · rw [decide_eq_true h, h, beq_self_eq_true]
  · rw [decide_eq_false h, beq_eq_false_iff_ne.mpr h]
@[simp] theorem pEq_int : pEq (.int i) (.int j) = M.ret (.bl (decide (i = j))) := by
  unfold pEq onRes
  simp only [res, PyData.eqv, beq_int]
@[simp] theorem pNe_int : pNe (.int i) (.int j) = M.ret (.bl (!decide (i = j))) := by
  unfold pNe onRes
  simp only [res, PyData.eqv, beq_int]
@[simp] theorem pEq_bl {a b : Bool} : pEq (.bl a) (.bl b) = M.ret (.bl (decide (a = b))) := by
  unfold pEq onRes
  simp only [res, PyData.eqv]
  cases a <;> cases b <;> rfl
@[simp] theorem pNe_bl {a b : Bool} : pNe (.bl a) (.bl b) = M.ret (.bl (!decide (a = b))) := by
  unfold pNe onRes
  simp only [res, PyData.eqv]
  cases a <;> cases b <;> rfl
/-- isinstance -/
@[simp] theorem isi_int_int : isTM "int" (.int i) = M.ret true := by
  have : isT "int" (.int i) = some true := by
    show kitB "int" "int" = some true
    decide +kernel
  simp [isTM, this]
@[simp] theorem isi_bool_int : isTM "bool" (.int i) = M.ret false := by
  have : isT "bool" (.int i) = some false := by
    show kitB "int" "bool" = some false
    decide +kernel
  simp [isTM, this]
@[simp] theorem isi_int_non : isTM "int" .non = M.ret false := by
  have : isT "int" .non = some false := by
    show kitB "NoneType" "int" = some false
    decide +kernel
  simp [isTM, this]
@[simp] theorem isi_tuple_non : isTM "tuple" .non = M.ret false := by
  have : isT "tuple" .non = some false := by
    show kitB "NoneType" "tuple" = some false
    decide +kernel
  simp [isTM, this]
@[simp] theorem isi_tuple_tup {l : List D} : isTM "tuple" (.tup l) = M.ret true := by
  have : isT "tuple" (.tup l) = some true := by
    show kitB "tuple" "tuple" = some true
    decide +kernel
  simp [isTM, this]
@[simp] theorem isi_tuple_lst {l : List D} : isTM "tuple" (.lst l) = M.ret false := by
  have : isT "tuple" (.lst l) = some false := by
    show kitB "list" "tuple" = some false
    decide +kernel
  simp [isTM, this]
@[simp] theorem isi_tuple_int : isTM "tuple" (.int i) = M.ret false := by
  have : isT "tuple" (.int i) = some false := by
    show kitB "int" "tuple" = some false
    decide +kernel
  simp [isTM, this]
end
/-! ### statements as runs -/
section
variable {α : Type} {μ μ1 : Mu} {ρ : Ro} {f g : Ro → M D} {fl : Ro → M (List D)} {t : Ro → M Bool} {a b : SF} {d : D} {c : Bool} {x : Str}
theorem sSeq_nx {ρ1 : Ro} (h : a ρ μ = some (.nx ρ1 μ1)) : sSeq a b ρ μ = b ρ1 μ1 := by
  unfold sSeq
  rw [h]
theorem sRet_ok (h : f ρ μ = some (.ok d μ1)) : sRet f ρ μ = some (.rt d μ1) := by
  unfold sRet bndS
  rw [h]
theorem sExpr_ok (h : f ρ μ = some (.ok d μ1)) : sExpr f ρ μ = some (.nx ρ μ1) := by
  unfold sExpr bndS
  rw [h]
theorem sIf_t (h : t ρ μ = some (.ok true μ1)) : sIf t a b ρ μ = a ρ μ1 := by
  unfold sIf bndS
  rw [h]
  rfl
theorem sIf_f (h : t ρ μ = some (.ok false μ1)) : sIf t a b ρ μ = b ρ μ1 := by
  unfold sIf bndS
  rw [h]
  rfl
end
@[simp] theorem startRo_ap {n : Nat} {ds : List D} : startRo n ds = ds.map some ++ List.replicate (n - ds.length) none := rfl
end Dn
namespace Dn
open PySem PySem.Spec L2
open PyProof.Rows hiding St
section
variable {μ : Mu} {ρ : Ro} {N : Ro → Mu → Prop} {T : D → Mu → Prop} {B C : Ro → Mu → Prop}
/-- the list o at i is given d -/
def PutAt (o i d : D) (μ : Mu) (Q : Mu → Prop) : Prop := ∃ n k l j, o = .loc n ∧ i = .int k ∧ μ[n]? = some (.lst l) ∧ ixN l.length k = some j ∧ Q (μ.set n (.lst (l.set j d)))
theorem putAt {n : Nat} {k : Int} {l : List D} {j : Nat} {d : D} {Q : Mu → Prop} (h : μ[n]? = some (.lst l)) (e : ixN l.length k = some j) (q : Q (μ.set n (.lst (l.set j d)))) : PutAt (.loc n) (.int k) d μ Q := ⟨n, k, l, j, rfl, rfl, h, e, q⟩
theorem wS_put {fo fi fe : Ro → M D} (h : wM (fe ρ) μ fun d μ1 => wM (fo ρ) μ1 fun o μ2 => wM (fi ρ) μ2 fun i μ3 => PutAt o i d μ3 fun μ4 => N ρ μ4) : wS (sPut fo fi fe) ρ μ N T B C := by
  obtain ⟨d, μ1, e1, o, μ2, e2, i, μ3, e3, n, k, l, j, rfl, rfl, e4, e5, p⟩ := h
  refine ⟨.nx ρ (μ3.set n (.lst (l.set j d))), ?_, p⟩
  simp only [sPut, bndS, e1, e2, e3, e4, e5]
theorem wS_augL {fo fi fe : Ro → M D} {p : D → D → M D} (h : wM (fo ρ) μ fun o μ1 => wM (fi ρ) μ1 fun i μ2 => wM (pIxL o i) μ2 fun x μ3 => wM (fe ρ) μ3 fun y μ4 => wM (p x y) μ4 fun z μ5 => PutAt o i z μ5 fun μ6 => N ρ μ6) :
    wS (sAugL fo fi p fe) ρ μ N T B C := by
  obtain ⟨o, μ1, e1, i, μ2, e2, x, μ3, e3, y, μ4, e4, z, μ5, e5, n, k, l, j, rfl, rfl, e6, e7, q⟩ := h
  refine ⟨.nx ρ (μ5.set n (.lst (l.set j z))), ?_, q⟩
  simp only [sAugL, bndS, e1, e2, e3, e4, e5, setLoc, e6, e7]
theorem pIxL_loc {n : Nat} {i : Int} {l : List D} {x : D} (h : μ[n]? = some (.lst l)) (e : atI l i = some x) : pIxL (.loc n) (.int i) μ = some (.ok x μ) := by
  unfold pIxL
  simp only [h, e]
  rfl
theorem wM_ixLoc {n : Nat} {i : Int} {l : List D} {x : D} {P : D → Mu → Prop} (h : μ[n]? = some (.lst l)) (e : atI l i = some x) (p : P x μ) : wM (pIx (.loc n) (.int i)) μ P := by
  refine wM_of (a := x) (μ' := μ) ?_ p
  rw [pIx_loc h, e]
  rfl
end
end Dn
namespace Dn
open PySem PySem.Spec L2
open PyProof.Rows hiding St
section
variable {μ : Mu} {i j : Int} {P : D → Mu → Prop}
theorem wM_mulA (h : (-18446744073709551616 < i ∧ i < 18446744073709551616) ∨ (-18446744073709551616 < j ∧ j < 18446744073709551616)) (p : P (.int (i * j)) μ) : wM (pMulA (.int i) (.int j)) μ P := by
  rw [pMulA_int h]
  exact wM_ret.mpr p
theorem wM_mod (h : 0 < j) (p : P (.int (i % j)) μ) : wM (pMod (.int i) (.int j)) μ P := by
  rw [pMod_int h]
  exact wM_ret.mpr p
theorem wM_div (h : 0 < j) (h2 : j < 1000000000000000000000000000000) (p : P (.int (i / j)) μ) : wM (pDiv (.int i) (.int j)) μ P := by
  rw [pDiv_int h h2]
  exact wM_ret.mpr p
theorem wM_pow {n : Nat} (h : n ≤ 1000) (h2 : i.natAbs < 1000) (p : P (.int (i ^ n)) μ) : wM (pPow (.int i) (.int n)) μ P := by
  refine ⟨.int (i ^ n), μ, ?_, p⟩
  unfold pPow p2I
  have e : (decide (0 ≤ (n : Int)) && decide ((n : Int) ≤ 1000) && decide (i.natAbs < 1000)) = true := by
    rw [decide_eq_true (by omega), decide_eq_true (by omega), decide_eq_true h2] <;> rfl
  simp only [e, Int.toNat_natCast]
  rfl
end
end Dn
namespace Dn
open PySem PySem.Spec L2
open PyProof.Rows hiding St
section
variable {μ : Mu} {ρ : Ro}
theorem eq_of_w {α : Type} {m : M α} {r : α} (h : wM m μ fun a μ' => a = r ∧ μ' = μ) : m μ = some (.ok r μ) := by
  obtain ⟨a, μ', e, rfl, rfl⟩ := h
  exact e
@[simp] theorem eComp_ap {src : Src} {g : GF} {t : Ro → M Bool} {e : Ro → M D} {vs : List Nat} : eComp src g t e vs ρ = M.bnd (src ρ) fun l => if small l.1.length = true then M.bnd (noX (compF l g t e l.1 (wipeR ρ vs))) fun ys => M.ret (.lst ys) else fail := rfl
@[simp] theorem compN_nil {l0 : List D} {g : GF} {t : Ro → M Bool} {e : Ro → M D} : compF (l0, none) g t e [] ρ = M.ret [] := rfl
@[simp] theorem compN_cons {l0 : List D} {g : GF} {t : Ro → M Bool} {e : Ro → M D} {d : D} {ds : List D} : compF (l0, none) g t e (d :: ds) ρ = match g d ρ with
    | none => fail
    | some ρ1 => M.bnd (t ρ1) fun c => if c = true then M.bnd (e ρ1) fun y => M.bnd (compF (l0, none) g t e ds ρ) fun ys => M.ret (y :: ys) else compF (l0, none) g t e ds ρ := by
  funext μ
  simp only [compF, guardH_none]
  cases g d ρ <;> rfl
@[simp] theorem wM_noX {α : Type} {m : M α} {P : α → Mu → Prop} : wM (noX m) μ P ↔ wM m μ P := by
  constructor
  · rintro ⟨a, μ', e, p⟩
    unfold noX at e
    cases q : m μ with
    | none => simp [q] at e
    | some r =>
      cases r with
      | ok b μ1 =>
        simp [q] at e
        obtain ⟨rfl, rfl⟩ := e
        exact ⟨b, μ1, q, p⟩
      | ex c μ1 => simp [q] at e
  · rintro ⟨a, μ', e, p⟩
    exact ⟨a, μ', by unfold noX; rw [e], p⟩
@[simp] theorem gN_ap {i : Nat} {d : D} : gN i d ρ = some (ρ.set i (some d)) := rfl
@[simp] theorem gT_ap {n : Nat} {gs : List D → Ro → Option Ro} {l : List D} : gT n gs (.tup l) ρ = if l.length = n then gs l ρ else none := rfl
@[simp] theorem gsNil_ap : gsNil [] ρ = some ρ := rfl
@[simp] theorem gsCons_ap {g : GF} {gs : List D → Ro → Option Ro} {d : D} {ds : List D} : gsCons g gs (d :: ds) ρ = match g d ρ with
  | some ρ1 => gs ds ρ1
  | none => none := rfl
@[simp] theorem wipeR_nil : wipeR ρ [] = ρ := rfl
@[simp] theorem wipeR_cons {v : Nat} {vs : List Nat} : wipeR ρ (v :: vs) = (wipeR ρ vs).set v none := rfl
/-- rows of truths -/
theorem boolsOf_mapB {l : List Bool} : boolsOf (l.map D.bl) = some l := by
  induction l with
  | nil => rfl
  | cons b l ih =>
    show (boolsOf (l.map D.bl)).map (b :: ·) = some (b :: l)
    rw [ih] <;> rfl
theorem pAllL_map {l : List Bool} : pAllL [.lst (l.map D.bl)] = M.ret (.bl (l.all id)) := by
  show M.bnd (M.of (boolsOf (l.map D.bl))) _ = _
  rw [boolsOf_mapB]
  rfl
@[simp] theorem pAllL_nil : pAllL [.lst []] = M.ret (.bl true) := rfl
@[simp] theorem pAllL_1 {a : Bool} : pAllL [.lst [.bl a]] = M.ret (.bl a) := by
  have := pAllL_map (l := [a])
  simpa using this
@[simp] theorem pAllL_2 {a b : Bool} : pAllL [.lst [.bl a, .bl b]] = M.ret (.bl (a && b)) := by
  have := pAllL_map (l := [a, b])
  simpa using this
@[simp] theorem pAllL_3 {a b c : Bool} : pAllL [.lst [.bl a, .bl b, .bl c]] = M.ret (.bl (a && (b && c))) := by
  have := pAllL_map (l := [a, b, c])
  simpa using this
@[simp] theorem atI_0 {α : Type} {x : α} {l : List α} : atI (x :: l) 0 = some x := atI_of (by omega) (by simp)
@[simp] theorem atI_1 {α : Type} {x y : α} {l : List α} : atI (x :: y :: l) 1 = some y := atI_of (by omega) (by simp)
@[simp] theorem atI_2 {α : Type} {x y z : α} {l : List α} : atI (x :: y :: z :: l) 2 = some z := atI_of (by omega) (by simp)
end
/-- a for over a row that may be of the store -/
theorem wS_forH {src : Src} {g : GF} {b : SF} {ρ : Ro} {μ : Mu} {N : Ro → Mu → Prop} {T : D → Mu → Prop} {B C : Ro → Mu → Prop} (I : List D → Ro → Mu → Prop) (h : wM (src ρ) μ fun w μ' => (∀ l ρ μ, I l ρ μ → hold w.1 w.2 μ) ∧ I w.1 ρ μ') (hs : ∀ d ds ρ μ, I (d :: ds) ρ μ → ∃ ρ1, g d ρ = some ρ1 ∧ wS b ρ1 μ (I ds) T N (I ds)) (he : ∀ ρ μ, I [] ρ μ → N ρ μ) : wS (sFor src g b) ρ μ N T B C := by
  refine wS_bnd.mpr (wM_mono h fun w μ' ⟨hw, hi⟩ => ?_)
  obtain ⟨l, lk⟩ := w
  show wS (fun ρ => loopF (l, lk) g b l ρ) ρ μ' N T B C
  have go : ∀ (l1 : List D) (ρ : Ro) (μ : Mu), I l1 ρ μ → wS (fun ρ => loopF (l, lk) g b l1 ρ) ρ μ N T B C := by
    intro l1
    induction l1 with
    | nil => exact fun ρ μ hi => ⟨.nx ρ μ, by simp only [loopF]; rw [guardH_pos (hw _ _ _ hi)], he ρ μ hi⟩
    | cons d ds ih =>
      intro ρ μ hi
      obtain ⟨ρ1, eg, r, eb, p⟩ := hs d ds ρ μ hi
      unfold wS
      simp only [loopF, guardH_pos (hw _ _ _ hi), eg, eb]
      cases r with
      | nx ρ2 μ2 => exact ih ρ2 μ2 p
      | ct ρ2 μ2 => exact ih ρ2 μ2 p
      | bk ρ2 μ2 => exact ⟨_, rfl, p⟩
      | rt d μ2 => exact ⟨_, rfl, p⟩
      | ex c ρ2 μ2 => exact p.elim
  exact go l ρ μ' hi
end Dn
namespace Dn
open PySem PySem.Spec L2
open PyProof.Rows hiding St
theorem wM_map {src : Src} {g : GF} {e : Ro → M D} {vs : List Nat} {ρ : Ro} {μ : Mu} {P : D → Mu → Prop} (F : D → D)
    (h : wM (src ρ) μ fun w μ' => w.2 = none ∧ w.1.length ≤ 1000000 ∧ (∀ d ∈ w.1, ∃ ρ1, g d (wipeR ρ vs) = some ρ1 ∧ e ρ1 μ' = some (.ok (F d) μ')) ∧ P (.lst (w.1.map F)) μ') : wM (eComp src g tYes' e vs ρ) μ P := by
  refine wM_comp (c := fun _ => true) (F := F) (wM_mono h fun w μ' ⟨h1, h2, h3, h4⟩ => ⟨h1, h2, fun d hd => ?_, ?_⟩)
  · obtain ⟨ρ1, a, b⟩ := h3 d hd
    exact ⟨ρ1, a, rfl, fun _ => b⟩
  · have e : w.1.filter (fun _ => true) = w.1 := List.filter_eq_self.mpr fun _ _ => rfl
    rw [e]
    exact h4
end Dn
namespace Dn
open PySem PySem.Spec L2
open PyProof.Rows hiding St
theorem wM_filt {α : Type} {src : Src} {g : GF} {t : Ro → M Bool} {e : Ro → M D} {vs : List Nat} {ρ : Ro} {μ : Mu} {P : D → Mu → Prop} {l : List α} {hD : α → D} (c : α → Bool) (F : α → D)
    (hs : src ρ μ = some (.ok (l.map hD, none) μ)) (hl : l.length ≤ 1000000) (he : ∀ x ∈ l, ∃ ρ1, g (hD x) (wipeR ρ vs) = some ρ1 ∧ t ρ1 μ = some (.ok (c x) μ) ∧ (c x = true → e ρ1 μ = some (.ok (F x) μ))) (p : P (.lst ((l.filter c).map F)) μ) : wM (eComp src g t e vs ρ) μ P := by
  have go : ∀ (l0 : List D) (l : List α), (∀ x ∈ l, ∃ ρ1, g (hD x) (wipeR ρ vs) = some ρ1 ∧ t ρ1 μ = some (.ok (c x) μ) ∧ (c x = true → e ρ1 μ = some (.ok (F x) μ))) → compF (l0, none) g t e (l.map hD) (wipeR ρ vs) μ = some (.ok ((l.filter c).map F) μ) := by
    intro l0 l
    induction l with
    | nil => exact fun _ => rfl
    | cons d ds ih =>
      intro hd
      obtain ⟨ρ1, e1, e2, e3⟩ := hd d (List.mem_cons_self ..)
      have ih' := ih fun d' hd' => hd d' (List.mem_cons_of_mem _ hd')
      rw [List.map_cons]
      simp only [compF, guardH_none, e1, M.bnd, e2]
      cases hc : c d with
      | false =>
        rw [List.filter_cons_of_neg (by simp [hc])]
        simp only [Bool.false_eq_true, if_false]
        exact ih'
      | true =>
        rw [List.filter_cons_of_pos (by simp [hc])]
        simp only [if_true, M.bnd, e3 hc, ih', List.map_cons, M.ret]
  unfold eComp
  refine wM_bnd.mpr (wM_of hs ?_)
  rw [if_pos (small_of (by rw [List.length_map]; exact hl))]
  refine wM_bnd.mpr ⟨_, μ, ?_, wM_ret.mpr p⟩
  unfold noX
  rw [go (l.map hD) l he]
theorem wM_mapm {α : Type} {src : Src} {g : GF} {e : Ro → M D} {vs : List Nat} {ρ : Ro} {μ : Mu} {P : D → Mu → Prop} {l : List α} {hD : α → D} (F : α → D)
    (hs : src ρ μ = some (.ok (l.map hD, none) μ)) (hl : l.length ≤ 1000000) (he : ∀ x ∈ l, ∃ ρ1, g (hD x) (wipeR ρ vs) = some ρ1 ∧ e ρ1 μ = some (.ok (F x) μ)) (p : P (.lst (l.map F)) μ) : wM (eComp src g tYes' e vs ρ) μ P := by
  refine wM_filt (fun _ => true) F hs hl (fun x hx => ?_) ?_
  · obtain ⟨ρ1, a, b⟩ := he x hx
    exact ⟨ρ1, a, rfl, fun _ => b⟩
  · have e : l.filter (fun _ => true) = l := List.filter_eq_self.mpr fun _ _ => rfl
    rw [e]
    exact p
end Dn
namespace Dn
open PySem PySem.Spec L2
open PyProof.Rows hiding St
section
variable {μ : Mu} {ρ : Ro} {N : Ro → Mu → Prop} {T : D → Mu → Prop} {B C : Ro → Mu → Prop}
/-- while: an invariant with a measure below the fuel -/
theorem wS_while {t : Ro → M Bool} {b : SF} {n : Nat} (I : Nat → Ro → Mu → Prop) (h0 : ∃ k, k < n ∧ I k ρ μ)
    (hs : ∀ k ρ μ, I k ρ μ → wM (t ρ) μ fun c μ' => if c = true then wS b ρ μ' (fun ρ μ => ∃ k', k' < k ∧ I k' ρ μ) T N (fun ρ μ => ∃ k', k' < k ∧ I k' ρ μ) else N ρ μ') : wS (whileF t b n) ρ μ N T B C := by
  obtain ⟨k, hk, hi⟩ := h0
  induction n generalizing k ρ μ with
  | zero => omega
  | succ n ih =>
    obtain ⟨c, μ1, e, p⟩ := hs k ρ μ hi
    unfold wS
    simp only [whileF, bndS, e]
    cases c with
    | false =>
      simp only [Bool.false_eq_true, if_false] at p ⊢
      exact ⟨_, rfl, p⟩
    | true =>
      simp only [if_true] at p ⊢
      obtain ⟨r, e2, p⟩ := p
      rw [e2]
      cases r with
      | nx ρ2 μ2 =>
        obtain ⟨k', hk', hi'⟩ := p
        exact ih k' (by omega) hi'
      | ct ρ2 μ2 =>
        obtain ⟨k', hk', hi'⟩ := p
        exact ih k' (by omega) hi'
      | bk ρ2 μ2 => exact ⟨_, rfl, p⟩
      | rt d μ2 => exact ⟨_, rfl, p⟩
      | ex c ρ2 μ2 => exact p.elim
theorem srcR1_int {f : Ro → M D} {n : Int} {μ' : Mu} (h : f ρ μ = some (.ok (.int n) μ')) (h1 : -1000000 < n) (h2 : n < 1000000) : srcR1 f ρ μ = some (.ok (rangeD 0 n.toNat, none) μ') := by
  unfold srcR1
  rw [bnd_ok h]
  simp only [decide_eq_true h1, decide_eq_true h2]
  rfl
theorem rangeD_map (n : Nat) : rangeD 0 n = (List.range n).map fun i : Nat => D.int (i : Nat) := by
  unfold rangeD
  refine List.map_congr_left fun i _ => ?_
  rw [Int.zero_add]
theorem wM_src1 {f : Ro → M D} {n : Int} {P : Wk → Mu → Prop} (h : wM (f ρ) μ fun d μ' => d = .int n ∧ P (rangeD 0 n.toNat, none) μ') (h1 : -1000000 < n) (h2 : n < 1000000) : wM (srcR1 f ρ) μ P := by
  obtain ⟨d, μ', e, rfl, p⟩ := h
  exact wM_of (srcR1_int e h1 h2) p
end
end Dn
namespace Dn
open PySem PySem.Spec L2
open PyProof.Rows hiding St
section
variable {μ μ1 : Mu} {ρ ρ1 : Ro} {f : Ro → M D} {t : Ro → M Bool} {a b : SF} {d : D} {c : Str} {i : Nat}
theorem sSet_ok (h : f ρ μ = some (.ok d μ1)) : sSet i f ρ μ = some (.nx (ρ.set i (some d)) μ1) := by
  unfold sSet bndS
  rw [h]
theorem sExpr_ex (h : f ρ μ = some (.ex c μ1)) : sExpr f ρ μ = some (.ex c ρ μ1) := by
  unfold sExpr bndS
  rw [h]
theorem sRet_ex (h : f ρ μ = some (.ex c μ1)) : sRet f ρ μ = some (.ex c ρ μ1) := by
  unfold sRet bndS
  rw [h]
theorem sSet_ex (h : f ρ μ = some (.ex c μ1)) : sSet i f ρ μ = some (.ex c ρ μ1) := by
  unfold sSet bndS
  rw [h]
theorem sSeq_ex (h : a ρ μ = some (.ex c ρ1 μ1)) : sSeq a b ρ μ = some (.ex c ρ1 μ1) := by
  unfold sSeq
  rw [h]
/-- it raises c, and the store stays -/
def sX (s : SF) (ρ : Ro) (μ : Mu) (c : Str) : Prop := ∃ ρ1, s ρ μ = some (.ex c ρ1 μ)
theorem sX_1 (h : sX a ρ μ c) : sX (sSeq a b) ρ μ c := let ⟨ρ1, e⟩ := h; ⟨ρ1, sSeq_ex e⟩
theorem sX_2 (h : a ρ μ = some (.nx ρ1 μ)) (k : sX b ρ1 μ c) : sX (sSeq a b) ρ μ c := let ⟨ρ2, e⟩ := k; ⟨ρ2, (sSeq_nx h).trans e⟩
theorem sX_expr (h : f ρ μ = some (.ex c μ)) : sX (sExpr f) ρ μ c := ⟨ρ, sExpr_ex h⟩
theorem sX_set (h : f ρ μ = some (.ex c μ)) : sX (sSet i f) ρ μ c := ⟨ρ, sSet_ex h⟩
theorem sX_ret (h : f ρ μ = some (.ex c μ)) : sX (sRet f) ρ μ c := ⟨ρ, sRet_ex h⟩
theorem sX_raise : sX (sRaise c) ρ μ c := ⟨ρ, rfl⟩
theorem sX_t (h : t ρ μ = some (.ok true μ)) (k : sX a ρ μ c) : sX (sIf t a b) ρ μ c := let ⟨ρ2, e⟩ := k; ⟨ρ2, (sIf_t h).trans e⟩
theorem sX_f (h : t ρ μ = some (.ok false μ)) (k : sX b ρ μ c) : sX (sIf t a b) ρ μ c := let ⟨ρ2, e⟩ := k; ⟨ρ2, (sIf_f h).trans e⟩
theorem runF_ex {np n : Nat} {B : SF} {ds : List D} (hl : ds.length = np) (h : sX B (startRo n ds) μ c) : runF np n B ds μ = some (.ex c μ) := by
  obtain ⟨ρ1, h⟩ := h
  unfold runF
  rw [if_pos hl, h]
  simp [finX]
theorem runF_rt {np n : Nat} {B : SF} {ds : List D} (hl : ds.length = np) (h : B (startRo n ds) μ = some (.rt d μ)) : runF np n B ds μ = some (.ok d μ) := by
  unfold runF
  rw [if_pos hl, h]
  simp [fin]
end
end Dn
namespace Dn
open PySem PySem.Spec L2
open PyProof.Rows hiding St
section
variable {μ : Mu} {ρ : Ro} {P : D → Mu → Prop}
@[simp] theorem eMeth_ap {p : D → List D → M D} {f : Ro → M D} {fa : Ro → M (List D)} : eMeth p f fa ρ = M.bnd (f ρ) fun o => M.bnd (chkL o) fun _ => M.bnd (fa ρ) fun l => p o l := rfl
theorem wM_chk {n : Nat} {l : List D} {P : Unit → Mu → Prop} (h : μ[n]? = some (.lst l)) (p : P () μ) : wM (chkL (.loc n)) μ P := by
  refine wM_of (a := ()) (μ' := μ) ?_ p
  unfold chkL
  simp only [h]
theorem wM_append {n : Nat} {l : List D} {x : D} (h : μ[n]? = some (.lst l)) (hl : l.length ≤ 1000000) (p : P .non (μ.set n (.lst (l ++ [x])))) : wM (mAppend (.loc n) [x]) μ P := by
  refine wM_of (a := .non) ?_ p
  unfold mAppend onLoc
  simp only [h]
  rw [if_pos (small_of hl)]
  rfl
theorem wM_new {fl : Ro → M (List D)} {P : D → Mu → Prop} (h : wM (fl ρ) μ fun l μ' => l.length ≤ 1000000 ∧ P (.loc μ'.length) (μ' ++ [.lst l])) : wM (eNew fl ρ) μ P := by
  unfold eNew
  refine wM_bnd.mpr (wM_mono h fun l μ' ⟨hl, p⟩ => ?_)
  rw [if_pos (small_of hl)]
  exact ⟨_, _, rfl, p⟩
end
/-- things of the store that name no newer thing -/
def Clo (k : Nat) (o : MO) : Prop := ∀ μ2, fzO k μ2 o = some o
def CloA (k : Nat) (μ : Mu) : Prop := ∀ o ∈ μ, Clo k o
theorem cut_clo {k : Nat} {μ r : Mu} (h : CloA k μ) (hl : μ.length = k) : cut k (μ ++ r) = some μ := by
  unfold cut
  rw [List.take_append_of_le_length (by omega), List.take_of_length_le (by omega)]
  exact mapO_id fun o ho => h o ho _
theorem CloA.set {k n : Nat} {μ : Mu} {o : MO} (h : CloA k μ) (ho : Clo k o) : CloA k (μ.set n o) := fun x hx => by
  rcases List.mem_or_eq_of_mem_set hx with hx | rfl
  · exact h x hx
  · exact ho
@[simp] theorem fz_int {n k : Nat} {μ : Mu} {i : Int} : fz n k μ (.int i) = some (.int i) := by cases n <;> rfl
@[simp] theorem fz_bl {n k : Nat} {μ : Mu} {i : Bool} : fz n k μ (.bl i) = some (.bl i) := by cases n <;> rfl
@[simp] theorem fz_non {n k : Nat} {μ : Mu} : fz n k μ .non = some .non := by cases n <;> rfl
@[simp] theorem fz_clo {n k : Nat} {μ : Mu} {c : List (Str × Addr)} {q : Str} {i : Nat} {y : Arguments × Expr × Scope} : fz n k μ (.clo c q i y) = some (.clo c q i y) := by cases n <;> rfl
theorem fz_ints {n k : Nat} {μ : Mu} (l : List Int) : mapO (fz n k μ) (l.map D.int) = some (l.map D.int) := mapO_map (k := D.int) fun _ _ => fz_int
theorem mapO_cons {α β : Type} {f : α → Option β} {x : α} {l : List α} {y : β} {ys : List β} (h : f x = some y) (hs : mapO f l = some ys) : mapO f (x :: l) = some (y :: ys) := by
  simp only [mapO, h, hs]
theorem clo_tab {k : Nat} {P : Addr} {q : Str} : Clo k (.tab P q) := fun _ => rfl
theorem clo_lst {k : Nat} {l : List D} (h : ∀ μ, mapO (fz 40 k μ) l = some l) : Clo k (.lst l) := fun μ => by
  simp only [fzO, h μ]
theorem set_app {μ r : Mu} {n : Nat} {o : MO} (h : n < μ.length) : (μ ++ r).set n o = μ.set n o ++ r := List.set_append_left _ _ h
theorem get_app {μ r : Mu} {n : Nat} (h : n < μ.length) : (μ ++ r)[n]? = μ[n]? := List.getElem?_append_left h
theorem get_last {μ : Mu} {o : MO} : (μ ++ [o])[μ.length]? = some o := by simp
theorem set_last {μ : Mu} {o o' : MO} : (μ ++ [o]).set μ.length o' = μ ++ [o'] := by simp
end Dn
namespace Dn
open PySem PySem.Spec L2
open PyProof.Rows hiding St
theorem isTM_k {T n : String} {d : D} {b : Bool} (h : tyN d = some n) (k : kitB n T = some b) : isTM T d = M.ret b := by
  have : isT T d = some b := by
    unfold isT
    rw [h]
    exact k
  cases d with
  | loc n => cases h
  | _ => simp [isTM, this]
section
variable {i : Int} {b : Bool} {x : Str} {l : List D}
@[simp] theorem isi_int_bl : isTM "int" (.bl b) = M.ret true := isTM_k rfl (by decide +kernel)
@[simp] theorem isi_bool_bl : isTM "bool" (.bl b) = M.ret true := isTM_k rfl (by decide +kernel)
@[simp] theorem isi_int_str : isTM "int" (.str x) = M.ret false := isTM_k rfl (by decide +kernel)
@[simp] theorem isi_int_tup : isTM "int" (.tup l) = M.ret false := isTM_k rfl (by decide +kernel)
@[simp] theorem isi_int_lst : isTM "int" (.lst l) = M.ret false := isTM_k rfl (by decide +kernel)
@[simp] theorem isi_tuple_bl : isTM "tuple" (.bl b) = M.ret false := isTM_k rfl (by decide +kernel)
@[simp] theorem isi_tuple_str : isTM "tuple" (.str x) = M.ret false := isTM_k rfl (by decide +kernel)
@[simp] theorem isN_bl : isN (.bl b) = false := rfl
@[simp] theorem isN_str : isN (.str x) = false := rfl
@[simp] theorem isN_tup : isN (.tup l) = false := rfl
@[simp] theorem isN_lst : isN (.lst l) = false := rfl
end
/-- nothing is left: equal to the empty list -/
theorem pNe_nil {μ : Mu} : pNe (.lst []) (.lst []) μ = some (.ok (.bl false) μ) := pNe_same (p := .list []) rfl
theorem pEq_nil {μ : Mu} : pEq (.lst []) (.lst []) μ = some (.ok (.bl true) μ) := pEq_same (p := .list []) rfl
end Dn
namespace Dn
open PySem PySem.Spec L2
open PyProof.Rows hiding St
/-- a for whose body leaves the store as it is -/
theorem wS_forC {src : Src} {g : GF} {b : SF} {ρ : Ro} {μ : Mu} {N : Ro → Mu → Prop} {T : D → Mu → Prop} {B C : Ro → Mu → Prop} (I : List D → Ro → Prop) (h : wM (src ρ) μ fun w μ' => hold w.1 w.2 μ' ∧ I w.1 ρ ∧ μ' = μ)
    (hs : ∀ d ds ρ, I (d :: ds) ρ → ∃ ρ1, g d ρ = some ρ1 ∧ wS b ρ1 μ (fun ρ μ' => I ds ρ ∧ μ' = μ) T N (fun ρ μ' => I ds ρ ∧ μ' = μ)) (he : ∀ ρ, I [] ρ → N ρ μ) : wS (sFor src g b) ρ μ N T B C := by
  refine wS_forH (fun l ρ μ' => I l ρ ∧ μ' = μ) (wM_mono h fun w μ' ⟨h1, h2, h3⟩ => ⟨fun l ρ μ2 hi => ?_, h2, h3⟩) (fun d ds ρ μ' ⟨hi, e⟩ => ?_) fun ρ μ' ⟨hi, e⟩ => ?_
  · rw [hi.2, ← h3]
    exact h1
  · subst e
    exact hs d ds ρ hi
  · subst e
    exact he ρ hi
theorem filter_none {α : Type} (l : List α) : l.filter (fun _ => false) = [] := List.filter_eq_nil_iff.mpr (by simp)
theorem filter_all {α : Type} (l : List α) : l.filter (fun _ => true) = l := List.filter_eq_self.mpr (by simp)
end Dn
namespace Dn
open PySem PySem.Spec L2
open PyProof.Rows hiding St
/-- .. over a row that may be of the store -/
theorem wM_filtH {α : Type} {src : Src} {g : GF} {t : Ro → M Bool} {e : Ro → M D} {vs : List Nat} {ρ : Ro} {μ : Mu} {P : D → Mu → Prop} {l : List α} {hD : α → D} {lk : Option Nat} (c : α → Bool) (F : α → D)
    (hs : src ρ μ = some (.ok (l.map hD, lk) μ)) (hh : hold (l.map hD) lk μ) (hl : l.length ≤ 1000000) (he : ∀ x ∈ l, ∃ ρ1, g (hD x) (wipeR ρ vs) = some ρ1 ∧ t ρ1 μ = some (.ok (c x) μ) ∧ (c x = true → e ρ1 μ = some (.ok (F x) μ))) (p : P (.lst ((l.filter c).map F)) μ) : wM (eComp src g t e vs ρ) μ P := by
  have go : ∀ (l0 : List D) (l : List α), hold l0 lk μ → (∀ x ∈ l, ∃ ρ1, g (hD x) (wipeR ρ vs) = some ρ1 ∧ t ρ1 μ = some (.ok (c x) μ) ∧ (c x = true → e ρ1 μ = some (.ok (F x) μ))) → compF (l0, lk) g t e (l.map hD) (wipeR ρ vs) μ = some (.ok ((l.filter c).map F) μ) := by
    intro l0 l hh
    induction l with
    | nil =>
      intro _
      simp only [List.map_nil, compF]
      rw [guardH_pos hh]
      rfl
    | cons d ds ih =>
      intro hd
      obtain ⟨ρ1, e1, e2, e3⟩ := hd d (List.mem_cons_self ..)
      have ih' := ih fun d' hd' => hd d' (List.mem_cons_of_mem _ hd')
      rw [List.map_cons]
      simp only [compF]
      rw [guardH_pos hh]
      simp only [e1, M.bnd, e2]
      cases hc : c d with
      | false =>
        rw [List.filter_cons_of_neg (by simp [hc])]
        simp only [Bool.false_eq_true, if_false]
        exact ih'
      | true =>
        rw [List.filter_cons_of_pos (by simp [hc])]
        simp only [if_true, M.bnd, e3 hc, ih', List.map_cons, M.ret]
  unfold eComp
  refine wM_bnd.mpr (wM_of hs ?_)
  rw [if_pos (small_of (by rw [List.length_map]; exact hl))]
  refine wM_bnd.mpr ⟨_, μ, ?_, wM_ret.mpr p⟩
  unfold noX
  rw [go (l.map hD) l hh he]
theorem wM_lam {t j : Nat} {A : Addr} {q : Str} {cs : List (Str × Addr)} {syn : Arguments × Expr × Scope} {ρ : Ro} {μ : Mu} {P : D → Mu → Prop} (h : μ[t]? = some (.tab A q)) (p : P (.clo cs q j syn) μ) : wM (eLam t j A cs q syn ρ) μ P := by
  refine wM_of (a := .clo cs q j syn) (μ' := μ) ?_ p
  unfold eLam
  simp [h]
theorem tIsn_x {j i : Nat} {vs : List Nat} {cs : List (Str × Addr)} {q n : Str} {Λ : Lams} {ex : Str → Option Bool} {ρ : Ro} {μ : Mu} {syn : Arguments × Expr × Scope} {fb : Ro → M D} (h : ρ[j]? = some (some (.clo cs q i syn))) (hΛ : Λ i = some (syn, fb)) (hx : fb (wipeR ρ vs) μ = some (.ex n μ)) (he : ex n = some true) :
    tIsn j vs cs q Λ ex ρ μ = some (.ok true μ) := by
  unfold tIsn
  simp [h, hΛ, hx, isnR, he]
theorem rep_one (d : D) (n : Nat) : rep [d] n = List.replicate n d := by
  unfold rep
  rw [Int.toNat_natCast]
  induction n with
  | zero => rfl
  | succ n ih =>
    rw [List.replicate_succ, List.flatten_cons, ih, List.replicate_succ]
    rfl
theorem pMulA_tup {l : List D} {k : Int} (h1 : -1000 ≤ k) (h2 : k ≤ 1000) (h3 : l.length ≤ 1000) : pMulA (.tup l) (.int k) = M.ret (.tup (rep l k)) := by
  have e : (decide (-1000 ≤ k) && decide (k ≤ 1000) && decide (l.length ≤ 1000)) = true := by
    rw [decide_eq_true h1, decide_eq_true h2, decide_eq_true h3] <;> rfl
  unfold pMulA
  simp only [e]
  rfl
end Dn

set_option Elab.async false
set_option linter.all false
set_option maxRecDepth 100000
set_option maxHeartbeats 4000000
/-! fourninths_k00_whole_dishes_manners_and: the defs, printed by gen.py -/
namespace K00
open PySem PySem.Spec L2 Dn
open PyProof.Rows hiding St
noncomputable section
def topS (i : Nat) : Stmt := PySem.Challenge.pw_fourninths_k00_whole_dishes_manners_and.main.body.getD i (.Pass ⟨0, 0, 0, 0⟩)
structure Txt (K : PySem.W.Frag) (mg : Str → Option Value) (base : Heap) : Prop where
  g__law_bag : mg "_law_bag" = some (.ref (He.ga K "_law_bag"))
  d__law_bag : ∃ fd, FunD K "_law_bag" "_law_bag" (defArgs (topS 27)) (defBody (topS 27)) (defScope (topS 27)) [] [] (He.ga K "_law_bag") fd
  g_is_sized : mg "is_sized" = some (.ref (He.ga K "is_sized"))
  d_is_sized : ∃ fd, FunD K "is_sized" "is_sized" (defArgs (topS 8)) (defBody (topS 8)) (defScope (topS 8)) [] [] (He.ga K "is_sized") fd
  g_is_integer : mg "is_integer" = some (.ref (He.ga K "is_integer"))
  d_is_integer : ∃ fd, FunD K "is_integer" "is_integer" (defArgs (topS 5)) (defBody (topS 5)) (defScope (topS 5)) [] [] (He.ga K "is_integer") fd
  g_is_between : mg "is_between" = some (.ref (He.ga K "is_between"))
  d_is_between : ∃ fd, FunD K "is_between" "is_between" (defArgs (topS 7)) (defBody (topS 7)) (defScope (topS 7)) [] [] (He.ga K "is_between") fd
  g_is_piece : mg "is_piece" = some (.ref (He.ga K "is_piece"))
  d_is_piece : ∃ fd, FunD K "is_piece" "is_piece" (defArgs (topS 14)) (defBody (topS 14)) (defScope (topS 14)) [] [] (He.ga K "is_piece") fd
  g_is_manner : mg "is_manner" = some (.ref (He.ga K "is_manner"))
  d_is_manner : ∃ fd, FunD K "is_manner" "is_manner" (defArgs (topS 17)) (defBody (topS 17)) (defScope (topS 17)) [] [] (He.ga K "is_manner") fd
  g_is_share : mg "is_share" = some (.ref (He.ga K "is_share"))
  d_is_share : ∃ fd, FunD K "is_share" "is_share" (defArgs (topS 18)) (defBody (topS 18)) (defScope (topS 18)) [] [] (He.ga K "is_share") fd
  g__law_are_forms_told : mg "_law_are_forms_told" = some (.ref (He.ga K "_law_are_forms_told"))
  d__law_are_forms_told : ∃ fd, FunD K "_law_are_forms_told" "_law_are_forms_told" (defArgs (topS 33)) (defBody (topS 33)) (defScope (topS 33)) [] [] (He.ga K "_law_are_forms_told") fd
  g__law_take : mg "_law_take" = some (.ref (He.ga K "_law_take"))
  d__law_take : ∃ fd, FunD K "_law_take" "_law_take" (defArgs (topS 28)) (defBody (topS 28)) (defScope (topS 28)) [] [] (He.ga K "_law_take") fd
  g__law_some : mg "_law_some" = some (.ref (He.ga K "_law_some"))
  d__law_some : ∃ fd, FunD K "_law_some" "_law_some" (defArgs (topS 29)) (defBody (topS 29)) (defScope (topS 29)) [] [] (He.ga K "_law_some") fd
  g__law_dish : mg "_law_dish" = some (.ref (He.ga K "_law_dish"))
  d__law_dish : ∃ fd, FunD K "_law_dish" "_law_dish" (defArgs (topS 31)) (defBody (topS 31)) (defScope (topS 31)) [] [] (He.ga K "_law_dish") fd
  g_is_tuple_of : mg "is_tuple_of" = some (.ref (He.ga K "is_tuple_of"))
  d_is_tuple_of : ∃ fd, FunD K "is_tuple_of" "is_tuple_of" (defArgs (topS 9)) (defBody (topS 9)) (defScope (topS 9)) [] [] (He.ga K "is_tuple_of") fd
  g_is_dish : mg "is_dish" = some (.ref (He.ga K "is_dish"))
  d_is_dish : ∃ fd, FunD K "is_dish" "is_dish" (defArgs (topS 15)) (defBody (topS 15)) (defScope (topS 15)) [] [] (He.ga K "is_dish") fd
  g_check_dish : mg "check_dish" = some (.ref (He.ga K "check_dish"))
  d_check_dish : ∃ fd, FunD K "check_dish" "check_dish" (defArgs (topS 16)) (defBody (topS 16)) (defScope (topS 16)) [] [] (He.ga K "check_dish") fd
  g_is_plain : mg "is_plain" = some (.ref (He.ga K "is_plain"))
  d_is_plain : ∃ fd, FunD K "is_plain" "is_plain" (defArgs (topS 19)) (defBody (topS 19)) (defScope (topS 19)) [] [] (He.ga K "is_plain") fd
  g_lows_of : mg "lows_of" = some (.ref (He.ga K "lows_of"))
  d_lows_of : ∃ fd, FunD K "lows_of" "lows_of" (defArgs (topS 21)) (defBody (topS 21)) (defScope (topS 21)) [] [] (He.ga K "lows_of") fd
  g_highs_of : mg "highs_of" = some (.ref (He.ga K "highs_of"))
  d_highs_of : ∃ fd, FunD K "highs_of" "highs_of" (defArgs (topS 22)) (defBody (topS 22)) (defScope (topS 22)) [] [] (He.ga K "highs_of") fd
  g_turned_by : mg "turned_by" = some (.ref (He.ga K "turned_by"))
  d_turned_by : ∃ fd, FunD K "turned_by" "turned_by" (defArgs (topS 23)) (defBody (topS 23)) (defScope (topS 23)) [] [] (He.ga K "turned_by") fd
  g_mirrored : mg "mirrored" = some (.ref (He.ga K "mirrored"))
  d_mirrored : ∃ fd, FunD K "mirrored" "mirrored" (defArgs (topS 24)) (defBody (topS 24)) (defScope (topS 24)) [] [] (He.ga K "mirrored") fd
  g_plain_dish : mg "plain_dish" = some (.ref (He.ga K "plain_dish"))
  d_plain_dish : ∃ fd, FunD K "plain_dish" "plain_dish" (defArgs (topS 20)) (defBody (topS 20)) (defScope (topS 20)) [] [] (He.ga K "plain_dish") fd
  g_is_count : mg "is_count" = some (.ref (He.ga K "is_count"))
  d_is_count : ∃ fd, FunD K "is_count" "is_count" (defArgs (topS 6)) (defBody (topS 6)) (defScope (topS 6)) [] [] (He.ga K "is_count") fd
  g_lowest : mg "lowest" = some (.ref (He.ga K "lowest"))
  d_lowest : ∃ fd, FunD K "lowest" "lowest" (defArgs (topS 25)) (defBody (topS 25)) (defScope (topS 25)) [] [] (He.ga K "lowest") fd
  g__law_lowest : mg "_law_lowest" = some (.ref (He.ga K "_law_lowest"))
  d__law_lowest : ∃ fd, FunD K "_law_lowest" "_law_lowest" (defArgs (topS 32)) (defBody (topS 32)) (defScope (topS 32)) [] [] (He.ga K "_law_lowest") fd
  g_law : mg "law" = some (.ref (He.ga K "law"))
  b_abs : mg "abs" = none
  b_all : mg "all" = none
  b_bool : mg "bool" = none
  b_int : mg "int" = none
  b_isinstance : mg "isinstance" = none
  b_len : mg "len" = none
  b_list : mg "list" = none
  b_range : mg "range" = none
  b_tuple : mg "tuple" = none
  x_Nothing : ExcC K mg "Nothing"
  isn__law_is_nothing : IsnD K mg "_law_is_nothing" "act" "Nothing" (exOne "Nothing")
  c_MOST_WORTH : ∃ t, mg "MOST_WORTH" = some (.int 9999 t)
  c_MOST_JUMPS : ∃ t, mg "MOST_JUMPS" = some (.int 2 t)
  c_MOST_PIECES : ∃ t, mg "MOST_PIECES" = some (.int 31 t)
  t_law : LamX.TabB base mg (codA K "law") (tabA K "law")
section
variable {P : Program} {w : World} {K : PySem.W.Frag} {mg : Str → Option Value} {base : Heap}
abbrev ex__law_is_nothing : Str → Option Bool := exOne "Nothing"
/-! ### _law_bag -/
abbrev s__law_bag : Stmt := topS 27
abbrev nm__law_bag : List Str := ["script", "cell"]
theorem sc__law_bag : FnScope nm__law_bag ["script"] (defScope s__law_bag) := ⟨rfl, rfl, rfl, by decide +kernel, rfl, by decide +kernel, by decide +kernel⟩
def B__law_bag : SF := sRet (eNew (aCons (eC (.int 0)) (aCons (eC (.int 1234567891)) (aCons (eC (.int 0)) (aCons (eComp (srcI (eSl (eVar 0) (oNone) (oSome (eC (.int 63))))) (gN 1) (tYes') (eL pAbs (aCons (eVar 1) (aNil))) [1]) (aNil))))))
def G__law_bag : Gt := runR 1 2 (B__law_bag)
theorem cal__law_bag (T : Txt K mg base) : Cal P w K mg base (1) "_law_bag" (G__law_bag) := by
  obtain ⟨fd, F⟩ := T.d__law_bag
  have S := sc__law_bag
  refine cal_ofR (k := 0) F S (F.bindsN fun _ _ _ _ _ _ us hl => match us, hl with | [_], _ => rfl) fun cdv A outer s H E hr => ?_
  have hu5 := hu65 hr
  have hu1 := hu_of hr
  unfold B__law_bag
  exact (dss_one (ds_ret (de_new (da_cons de_int (da_cons de_int (da_cons de_int (da_cons (de_comp (own := [("cell", 1)]) rfl S.nd (di_any (de_slice (de_var 0) do_none (do_some de_int))) (blkOk_by (own := [("cell", 1)]) (N := nm__law_bag) (sc := defScope s__law_bag) (by decide +kernel)) (fun _ _ _ _ _ => (dg_name 1 S.nd)) (fun _ _ _ _ _ => dts_nil) (fun _ _ _ _ _ => (de_callB call_abs pAbs_ok rfl T.b_abs (by decide +kernel) (da_cons (de_var 1) da_nil)))) da_nil)))))))

/-! ### is_sized -/
abbrev s_is_sized : Stmt := topS 8
abbrev nm_is_sized : List Str := ["thing", "many"]
theorem sc_is_sized : FnScope nm_is_sized ["thing", "many"] (defScope s_is_sized) := ⟨rfl, rfl, rfl, by decide +kernel, rfl, by decide +kernel, by decide +kernel⟩
def B_is_sized : SF := sRet (vAnd (eIsi "tuple" (eVar 0)) (e2 pEq (eL pLen (aCons (eVar 0) (aNil))) (eVar 1)))
def G_is_sized : Gt := runF 2 2 (B_is_sized)
theorem cal_is_sized (T : Txt K mg base) : Cal P w K mg base (1) "is_sized" (G_is_sized) := by
  obtain ⟨fd, F⟩ := T.d_is_sized
  have S := sc_is_sized
  refine cal_of (k := 0) F S (F.bindsN fun _ _ _ _ _ _ us hl => match us, hl with | [_, _], _ => rfl) fun cdv A outer s H E hr => ?_
  have hu5 := hu65 hr
  have hu1 := hu_of hr
  unfold B_is_sized
  exact (dss_one (ds_ret (de_and (de_isi rfl T.b_isinstance rfl T.b_tuple (by decide +kernel) (de_var 0)) (de_one (de_cmp (op_eqD hr.units) pEq_ok (de_callB call_len_seq pLen_ok rfl T.b_len (by decide +kernel) (da_cons (de_var 0) da_nil)) (de_var 1))))))

/-! ### is_integer -/
abbrev s_is_integer : Stmt := topS 5
abbrev nm_is_integer : List Str := ["thing"]
theorem sc_is_integer : FnScope nm_is_integer ["thing"] (defScope s_is_integer) := ⟨rfl, rfl, rfl, by decide +kernel, rfl, by decide +kernel, by decide +kernel⟩
def B_is_integer : SF := sRet (vAnd (eIsi "int" (eVar 0)) (vNot (eIsi "bool" (eVar 0))))
def G_is_integer : Gt := runF 1 1 (B_is_integer)
theorem cal_is_integer (T : Txt K mg base) : Cal P w K mg base (1) "is_integer" (G_is_integer) := by
  obtain ⟨fd, F⟩ := T.d_is_integer
  have S := sc_is_integer
  refine cal_of (k := 0) F S (F.bindsN fun _ _ _ _ _ _ us hl => match us, hl with | [_], _ => rfl) fun cdv A outer s H E hr => ?_
  have hu5 := hu65 hr
  have hu1 := hu_of hr
  unfold B_is_integer
  exact (dss_one (ds_ret (de_and (de_isi rfl T.b_isinstance rfl T.b_int (by decide +kernel) (de_var 0)) (de_one (de_not (de_isi rfl T.b_isinstance rfl T.b_bool (by decide +kernel) (de_var 0)))))))

/-! ### is_between -/
abbrev s_is_between : Stmt := topS 7
abbrev nm_is_between : List Str := ["thing", "least", "most"]
theorem sc_is_between : FnScope nm_is_between ["thing", "least", "most"] (defScope s_is_between) := ⟨rfl, rfl, rfl, by decide +kernel, rfl, by decide +kernel, by decide +kernel⟩
def B_is_between : SF := sRet (vAnd (eL G_is_integer (aCons (eVar 0) (aNil))) (vChain pLe pLe (eVar 1) (eVar 0) (eVar 2)))
def G_is_between : Gt := runF 3 3 (B_is_between)
theorem cal_is_between (T : Txt K mg base) : Cal P w K mg base (2) "is_between" (G_is_between) := by
  obtain ⟨fd, F⟩ := T.d_is_between
  have S := sc_is_between
  refine cal_of (k := 1) F S (F.bindsN fun _ _ _ _ _ _ us hl => match us, hl with | [_, _, _], _ => rfl) fun cdv A outer s H E hr => ?_
  have hu5 := hu65 hr
  have hu1 := hu_of hr
  unfold B_is_between
  exact (dss_one (ds_ret (de_and (de_call (cal_is_integer T) hr rfl T.g_is_integer takes_cx (da_cons (de_var 0) da_nil)) (de_one (de_chain op_le op_le pLe_ok pLe_ok (de_var 1) (de_var 0) (de_var 2))))))

/-! ### is_piece -/
abbrev s_is_piece : Stmt := topS 14
abbrev nm_is_piece : List Str := ["thing", "one"]
theorem sc_is_piece : FnScope nm_is_piece ["thing"] (defScope s_is_piece) := ⟨rfl, rfl, rfl, by decide +kernel, rfl, by decide +kernel, by decide +kernel⟩
def B_is_piece : SF := sRet (vAnd (eL G_is_sized (aCons (eVar 0) (aCons (eC (.int 2)) (aNil)))) (vAnd (eL pAllL (aCons (eComp (srcI (eVar 0)) (gN 1) (tYes') (eL G_is_between (aCons (eVar 1) (aCons (eC (.int 0)) (aCons (eC (.int 9999)) (aNil))))) [1]) (aNil))) (e2 pLe (e2 pIx (eVar 0) (eC (.int 0))) (e2 pIx (eVar 0) (eC (.int 1))))))
def G_is_piece : Gt := runF 1 2 (B_is_piece)
theorem cal_is_piece (T : Txt K mg base) : Cal P w K mg base (3) "is_piece" (G_is_piece) := by
  obtain ⟨fd, F⟩ := T.d_is_piece
  obtain ⟨_, c_MOST_WORTH⟩ := T.c_MOST_WORTH
  have S := sc_is_piece
  refine cal_of (k := 2) F S (F.bindsN fun _ _ _ _ _ _ us hl => match us, hl with | [_], _ => rfl) fun cdv A outer s H E hr => ?_
  have hu5 := hu65 hr
  have hu1 := hu_of hr
  unfold B_is_piece
  exact (dss_one (ds_ret (de_and (de_call (cal_is_sized T) hr rfl T.g_is_sized takes_cx (da_cons (de_var 0) (da_cons de_int da_nil))) (de_and (de_callB (cr_all rfl) pAllL_ok rfl T.b_all (by decide +kernel) (da_cons (de_comp (own := [("one", 1)]) rfl S.nd (di_any (de_var 0)) (blkOk_by (own := [("one", 1)]) (N := nm_is_piece) (sc := defScope s_is_piece) (by decide +kernel)) (fun _ _ _ _ _ => (dg_name 1 S.nd)) (fun _ _ _ _ _ => dts_nil) (fun _ _ _ _ _ => (de_call (cal_is_between T) hr rfl T.g_is_between Dn.takes0 (da_cons (de_var 1) (da_cons de_int (da_cons (de_glob rfl c_MOST_WORTH GlV.int) da_nil)))))) da_nil)) (de_one (de_cmp op_le pLe_ok (de_ix ix_seq pIx_ok (de_var 0) de_int) (de_ix ix_seq pIx_ok (de_var 0) de_int)))))))

/-! ### is_manner -/
abbrev s_is_manner : Stmt := topS 17
abbrev nm_is_manner : List Str := ["thing"]
theorem sc_is_manner : FnScope nm_is_manner ["thing"] (defScope s_is_manner) := ⟨rfl, rfl, rfl, by decide +kernel, rfl, by decide +kernel, by decide +kernel⟩
def B_is_manner : SF := sRet (vOr (e2 pIs (eVar 0) (eC .non)) (eL G_is_between (aCons (eVar 0) (aCons (eC (.int 0)) (aCons (eC (.int 2)) (aNil))))))
def G_is_manner : Gt := runF 1 1 (B_is_manner)
theorem cal_is_manner (T : Txt K mg base) : Cal P w K mg base (3) "is_manner" (G_is_manner) := by
  obtain ⟨fd, F⟩ := T.d_is_manner
  obtain ⟨_, c_MOST_JUMPS⟩ := T.c_MOST_JUMPS
  have S := sc_is_manner
  refine cal_of (k := 2) F S (F.bindsN fun _ _ _ _ _ _ us hl => match us, hl with | [_], _ => rfl) fun cdv A outer s H E hr => ?_
  have hu5 := hu65 hr
  have hu1 := hu_of hr
  unfold B_is_manner
  exact (dss_one (ds_ret (de_or (de_cmp op_isA pIs_ok (de_var 0) de_non) (de_one (de_call (cal_is_between T) hr rfl T.g_is_between takes_cx (da_cons (de_var 0) (da_cons de_int (da_cons (de_glob rfl c_MOST_JUMPS GlV.int) da_nil))))))))

/-! ### is_share -/
abbrev s_is_share : Stmt := topS 18
abbrev nm_is_share : List Str := ["thing"]
theorem sc_is_share : FnScope nm_is_share ["thing"] (defScope s_is_share) := ⟨rfl, rfl, rfl, by decide +kernel, rfl, by decide +kernel, by decide +kernel⟩
def B_is_share : SF := sRet (vAnd (eL G_is_sized (aCons (eVar 0) (aCons (eC (.int 2)) (aNil)))) (vAnd (eL G_is_between (aCons (e2 pIx (eVar 0) (eC (.int 1))) (aCons (eC (.int 1)) (aCons (eC (.int 9999)) (aNil))))) (eL G_is_between (aCons (e2 pIx (eVar 0) (eC (.int 0))) (aCons (eC (.int 0)) (aCons (e2 pIx (eVar 0) (eC (.int 1))) (aNil)))))))
def G_is_share : Gt := runF 1 1 (B_is_share)
theorem cal_is_share (T : Txt K mg base) : Cal P w K mg base (3) "is_share" (G_is_share) := by
  obtain ⟨fd, F⟩ := T.d_is_share
  obtain ⟨_, c_MOST_WORTH⟩ := T.c_MOST_WORTH
  have S := sc_is_share
  refine cal_of (k := 2) F S (F.bindsN fun _ _ _ _ _ _ us hl => match us, hl with | [_], _ => rfl) fun cdv A outer s H E hr => ?_
  have hu5 := hu65 hr
  have hu1 := hu_of hr
  unfold B_is_share
  exact (dss_one (ds_ret (de_and (de_call (cal_is_sized T) hr rfl T.g_is_sized takes_cx (da_cons (de_var 0) (da_cons de_int da_nil))) (de_and (de_call (cal_is_between T) hr rfl T.g_is_between takes_cx (da_cons (de_ix ix_seq pIx_ok (de_var 0) de_int) (da_cons de_int (da_cons (de_glob rfl c_MOST_WORTH GlV.int) da_nil)))) (de_one (de_call (cal_is_between T) hr rfl T.g_is_between takes_cx (da_cons (de_ix ix_seq pIx_ok (de_var 0) de_int) (da_cons de_int (da_cons (de_ix ix_seq pIx_ok (de_var 0) de_int) da_nil)))))))))

/-! ### _law_are_forms_told -/
abbrev s__law_are_forms_told : Stmt := topS 33
abbrev nm__law_are_forms_told : List Str := ["goods", "bads", "told", "some", "one"]
theorem sc__law_are_forms_told : FnScope nm__law_are_forms_told [] (defScope s__law_are_forms_told) := ⟨rfl, rfl, rfl, by decide +kernel, rfl, by decide +kernel, by decide +kernel⟩
def phi__law_are_forms_told : Phi := fun y => if y = "is_piece" then some G_is_piece else if y = "is_manner" then some G_is_manner else if y = "is_share" then some G_is_share else none
theorem phi__law_are_forms_told_ok (T : Txt K mg base) : ∀ y G, phi__law_are_forms_told y = some G → Cal P w K mg base 3 y G := by
  intro y G h
  unfold phi__law_are_forms_told at h
  by_cases c0 : y = "is_piece"
  · rw [if_pos c0] at h
    cases h
    subst c0
    exact (cal_is_piece T).mono (by decide)
  rw [if_neg c0] at h
  by_cases c1 : y = "is_manner"
  · rw [if_pos c1] at h
    cases h
    subst c1
    exact (cal_is_manner T).mono (by decide)
  rw [if_neg c1] at h
  by_cases c2 : y = "is_share"
  · rw [if_pos c2] at h
    cases h
    subst c2
    exact (cal_is_share T).mono (by decide)
  rw [if_neg c2] at h
  cases h
def B__law_are_forms_told : SF := sSeq (sSet 0 (eLst (aCons (eTup (aCons (eC (.fn "is_piece")) (aCons (eTup (aCons (eTup (aCons (eC (.int 0)) (aCons (eC (.int 0)) (aNil)))) (aCons (eTup (aCons (eC (.int 9999)) (aCons (eC (.int 9999)) (aNil)))) (aCons (eTup (aCons (eC (.int 0)) (aCons (eC (.int 9999)) (aNil)))) (aNil))))) (aNil)))) (aCons (eTup (aCons (eC (.fn "is_manner")) (aCons (eTup (aCons (eC (.int 0)) (aCons (eC (.int 1)) (aCons (eC (.int 2)) (aCons (eC .non) (aNil)))))) (aNil)))) (aCons (eTup (aCons (eC (.fn "is_share")) (aCons (eTup (aCons (eTup (aCons (eC (.int 0)) (aCons (eC (.int 1)) (aNil)))) (aCons (eTup (aCons (eC (.int 1)) (aCons (eC (.int 1)) (aNil)))) (aCons (eTup (aCons (eC (.int 0)) (aCons (eC (.int 9999)) (aNil)))) (aCons (eTup (aCons (eC (.int 9999)) (aCons (eC (.int 9999)) (aNil)))) (aNil)))))) (aNil)))) (aNil)))))) (
sSeq (sFor (srcI (eVar 0)) (gT 2 (gsCons (gN 2) (gsCons (gN 3) (gsNil)))) (
sIf (tV (e2 pNe (eComp (srcI (eVar 3)) (gN 4) (tV (e2 pIsNot (eCallV phi__law_are_forms_told 2 (aCons (eVar 4) (aNil))) (eC (.bl true)))) (eVar 4) [4]) (eLst (aNil)))) (
sRet (eC (.bl false))) (
sNext))) (
sSeq (sSet 1 (eNew (aCons (eTup (aCons (eC (.fn "is_piece")) (aCons (eTup (aCons (eTup (aCons (eC (.int 1)) (aCons (eC (.int 0)) (aNil)))) (aCons (eTup (aCons (eC (.int 0)) (aCons (eC (.int 10000)) (aNil)))) (aCons (eTup (aCons (e1 pNeg (eC (.int 1))) (aCons (eC (.int 0)) (aNil)))) (aCons (eTup (aCons (eC (.int 0)) (aNil))) (aCons (eLst (aCons (eC (.int 0)) (aCons (eC (.int 0)) (aNil)))) (aCons (eTup (aCons (eC (.int 0)) (aCons (eC (.int 0)) (aCons (eC (.int 0)) (aNil))))) (aCons (eTup (aCons (eC (.int 0)) (aCons (eC .non) (aNil)))) (aCons (eTup (aCons (eC (.bl false)) (aCons (eC (.int 1)) (aNil)))) (aCons (eC .non) (aNil))))))))))) (aNil)))) (aNil)))) (
sSeq (sExpr (eMeth mAppend (eVar 1) (aCons (eTup (aCons (eC (.fn "is_manner")) (aCons (eTup (aCons (eC (.int 3)) (aCons (e1 pNeg (eC (.int 1))) (aCons (eC (.bl true)) (aCons (eC (.bl false)) (aCons (eC (.str "0")) (aCons (eTup (aCons (eC (.int 0)) (aNil))) (aNil)))))))) (aNil)))) (aNil)))) (
sSeq (sExpr (eMeth mAppend (eVar 1) (aCons (eTup (aCons (eC (.fn "is_share")) (aCons (eTup (aCons (eTup (aCons (eC (.int 2)) (aCons (eC (.int 1)) (aNil)))) (aCons (eTup (aCons (eC (.int 0)) (aCons (eC (.int 0)) (aNil)))) (aCons (eTup (aCons (eC (.int 0)) (aCons (eC (.int 10000)) (aNil)))) (aCons (eTup (aCons (e1 pNeg (eC (.int 1))) (aCons (eC (.int 1)) (aNil)))) (aCons (eTup (aCons (eC (.int 1)) (aNil))) (aCons (eLst (aCons (eC (.int 1)) (aCons (eC (.int 1)) (aNil)))) (aCons (eTup (aCons (eC (.int 1)) (aCons (eC .non) (aNil)))) (aCons (eTup (aCons (eC (.bl true)) (aCons (eC (.int 1)) (aNil)))) (aCons (eC .non) (aNil))))))))))) (aNil)))) (aNil)))) (
sSeq (sFor (srcI (eVar 1)) (gT 2 (gsCons (gN 2) (gsCons (gN 3) (gsNil)))) (
sIf (tV (e2 pNe (eComp (srcI (eVar 3)) (gN 4) (tV (e2 pIsNot (eCallV phi__law_are_forms_told 2 (aCons (eVar 4) (aNil))) (eC (.bl false)))) (eVar 4) [4]) (eLst (aNil)))) (
sRet (eC (.bl false))) (
sNext))) (
sRet (eC (.bl true))))))))
def G__law_are_forms_told : Gt := runF 0 5 (B__law_are_forms_told)
theorem cal__law_are_forms_told (T : Txt K mg base) : Cal P w K mg base (4) "_law_are_forms_told" (G__law_are_forms_told) := by
  obtain ⟨fd, F⟩ := T.d__law_are_forms_told
  have S := sc__law_are_forms_told
  refine cal_of (k := 3) F S (F.bindsN fun _ _ _ _ _ _ us hl => match us, hl with | [], _ => rfl) fun cdv A outer s H E hr => ?_
  have hu5 := hu65 hr
  have hu1 := hu_of hr
  unfold B__law_are_forms_told
  exact (dss_cons (ds_set 0 S.nd (de_lst (da_cons (de_tup (da_cons (de_glob rfl T.g_is_piece GlV.fn) (da_cons (de_tup (da_cons (de_tup (da_cons de_int (da_cons de_int da_nil))) (da_cons (de_tup (da_cons de_int (da_cons de_int da_nil))) (da_cons (de_tup (da_cons de_int (da_cons de_int da_nil))) da_nil)))) da_nil))) (da_cons (de_tup (da_cons (de_glob rfl T.g_is_manner GlV.fn) (da_cons (de_tup (da_cons de_int (da_cons de_int (da_cons de_int (da_cons de_non da_nil))))) da_nil))) (da_cons (de_tup (da_cons (de_glob rfl T.g_is_share GlV.fn) (da_cons (de_tup (da_cons (de_tup (da_cons de_int (da_cons de_int da_nil))) (da_cons (de_tup (da_cons de_int (da_cons de_int da_nil))) (da_cons (de_tup (da_cons de_int (da_cons de_int da_nil))) (da_cons (de_tup (da_cons de_int (da_cons de_int da_nil))) da_nil))))) da_nil))) da_nil)))))
 (dss_cons (ds_for passes_cx rfl (di_any (de_var 0)) (dg_tup rfl (dgs_cons (dg_name 2 S.nd) (dgs_cons (dg_name 3 S.nd) dgs_nil)))
 (dss_one (ds_if (dt_cmp (op_neD hr.units) pNe_ok (de_comp (own := [("one", 4)]) rfl S.nd (di_any (de_var 3)) (blkOk_by (own := [("one", 4)]) (N := nm__law_are_forms_told) (sc := defScope s__law_are_forms_told) (by decide +kernel)) (fun _ _ _ _ _ => (dg_name 4 S.nd)) (fun _ _ _ _ _ => (dts_one (dt_cmp op_isNotA pIsNot_ok (de_callV (k := 3) 2 (phi__law_are_forms_told_ok T) (hr.mono (by decide)) Dn.takes0 (da_cons (de_var 4) da_nil)) de_bl))) (fun _ _ _ _ _ => (de_var 4))) (de_lst da_nil)) (dss_one (ds_ret de_bl)) dss_nil)))
 (dss_cons (ds_set 1 S.nd (de_new (da_cons (de_tup (da_cons (de_glob rfl T.g_is_piece GlV.fn) (da_cons (de_tup (da_cons (de_tup (da_cons de_int (da_cons de_int da_nil))) (da_cons (de_tup (da_cons de_int (da_cons de_int da_nil))) (da_cons (de_tup (da_cons (de_un un_neg pNeg_ok de_int) (da_cons de_int da_nil))) (da_cons (de_tup (da_cons de_int da_nil)) (da_cons (de_lst (da_cons de_int (da_cons de_int da_nil))) (da_cons (de_tup (da_cons de_int (da_cons de_int (da_cons de_int da_nil)))) (da_cons (de_tup (da_cons de_int (da_cons de_non da_nil))) (da_cons (de_tup (da_cons de_bl (da_cons de_int da_nil))) (da_cons de_non da_nil)))))))))) da_nil))) da_nil)))
 (dss_cons (ds_expr (de_meth PySem.F.slot_list_append PySem.F.type_list_append mt_append mAppend_ok (de_var 1) (da_cons (de_tup (da_cons (de_glob rfl T.g_is_manner GlV.fn) (da_cons (de_tup (da_cons de_int (da_cons (de_un un_neg pNeg_ok de_int) (da_cons de_bl (da_cons de_bl (da_cons de_str (da_cons (de_tup (da_cons de_int da_nil)) da_nil))))))) da_nil))) da_nil)))
 (dss_cons (ds_expr (de_meth PySem.F.slot_list_append PySem.F.type_list_append mt_append mAppend_ok (de_var 1) (da_cons (de_tup (da_cons (de_glob rfl T.g_is_share GlV.fn) (da_cons (de_tup (da_cons (de_tup (da_cons de_int (da_cons de_int da_nil))) (da_cons (de_tup (da_cons de_int (da_cons de_int da_nil))) (da_cons (de_tup (da_cons de_int (da_cons de_int da_nil))) (da_cons (de_tup (da_cons (de_un un_neg pNeg_ok de_int) (da_cons de_int da_nil))) (da_cons (de_tup (da_cons de_int da_nil)) (da_cons (de_lst (da_cons de_int (da_cons de_int da_nil))) (da_cons (de_tup (da_cons de_int (da_cons de_non da_nil))) (da_cons (de_tup (da_cons de_bl (da_cons de_int da_nil))) (da_cons de_non da_nil)))))))))) da_nil))) da_nil)))
 (dss_cons (ds_for passes_cx rfl (di_any (de_var 1)) (dg_tup rfl (dgs_cons (dg_name 2 S.nd) (dgs_cons (dg_name 3 S.nd) dgs_nil)))
 (dss_one (ds_if (dt_cmp (op_neD hr.units) pNe_ok (de_comp (own := [("one", 4)]) rfl S.nd (di_any (de_var 3)) (blkOk_by (own := [("one", 4)]) (N := nm__law_are_forms_told) (sc := defScope s__law_are_forms_told) (by decide +kernel)) (fun _ _ _ _ _ => (dg_name 4 S.nd)) (fun _ _ _ _ _ => (dts_one (dt_cmp op_isNotA pIsNot_ok (de_callV (k := 3) 2 (phi__law_are_forms_told_ok T) (hr.mono (by decide)) Dn.takes0 (da_cons (de_var 4) da_nil)) de_bl))) (fun _ _ _ _ _ => (de_var 4))) (de_lst da_nil)) (dss_one (ds_ret de_bl)) dss_nil)))
 (dss_one (ds_ret de_bl))))))))

/-! ### _law_take -/
abbrev s__law_take : Stmt := topS 28
abbrev nm__law_take : List Str := ["bag", "many", "front", "second", "cell", "stirred", "value"]
theorem sc__law_take : FnScope nm__law_take ["bag", "many"] (defScope s__law_take) := ⟨rfl, rfl, rfl, by decide +kernel, rfl, by decide +kernel, by decide +kernel⟩
def B__law_take : SF := sSeq (sIf (tV (e2 pEq (e2 pIx (eVar 0) (eC (.int 0))) (eC (.int 0)))) (
sSeq (sSet 4 (e2 pIx (e2 pAdd (eSl (e2 pIx (eVar 0) (eC (.int 3))) (oSome (e2 pIx (eVar 0) (eC (.int 2)))) (oNone)) (eLst (aCons (eC (.int 0)) (aNil)))) (eC (.int 0)))) (
sSeq (sAugL (eVar 0) (eC (.int 2)) (p2I0 fun i j => .int (i + j)) (eC (.int 1))) (
sSeq (sIf (tV (e2 pGe (eVar 4) (e2 pPow (eC (.int 10)) (eC (.int 18))))) (
sPut (eVar 0) (eC (.int 0)) (eVar 4)) (
sNext)) (
sSeq (sSet 5 (e2 pAdd (e2 pAdd (e2 pMulA (e2 pIx (eVar 0) (eC (.int 1))) (eC (.int 48271))) (e2 pMod (eL pInt (aCons (eVar 4) (aNil))) (eC (.int 2147483647)))) (e2 pMulA (eC (.int 7919)) (e2 pIx (eVar 0) (eC (.int 2)))))) (
sPut (eVar 0) (eC (.int 1)) (e2 pMod (eL pInt (aCons (eVar 5) (aNil))) (eC (.int 2147483647)))))))) (
sNext)) (
sSeq (sIf (tV (e2 pGt (e2 pIx (eVar 0) (eC (.int 0))) (eC (.int 0)))) (
sSeq (sSet 6 (e2 pMod (eL pInt (aCons (e2 pIx (eVar 0) (eC (.int 0))) (aNil))) (eVar 1))) (
sSeq (sPut (eVar 0) (eC (.int 0)) (e2 pDiv (eL pInt (aCons (e2 pIx (eVar 0) (eC (.int 0))) (aNil))) (eVar 1))) (
sRet (eVar 6)))) (
sNext)) (
sSeq (sSet 2 (e2 pMod (eL pInt (aCons (e2 pMulA (e2 pAdd (e2 pIx (eVar 0) (eC (.int 1))) (eC (.int 1))) (eC (.int 39373))) (aNil))) (eC (.int 1000000007)))) (
sSeq (sSet 3 (e2 pMod (eL pInt (aCons (e2 pMulA (e2 pMod (eL pInt (aCons (e2 pMulA (eVar 2) (eVar 2)) (aNil))) (eC (.int 998244353))) (eC (.int 30011))) (aNil))) (eC (.int 998244353)))) (
sRet (e2 pMod (eL pInt (aCons (e2 pDiv (eVar 3) (eC (.int 7))) (aNil))) (eVar 1))))))
def G__law_take : Gt := runF 2 7 (B__law_take)
theorem cal__law_take (T : Txt K mg base) : Cal P w K mg base (1) "_law_take" (G__law_take) := by
  obtain ⟨fd, F⟩ := T.d__law_take
  have S := sc__law_take
  refine cal_of (k := 0) F S (F.bindsN fun _ _ _ _ _ _ us hl => match us, hl with | [_, _], _ => rfl) fun cdv A outer s H E hr => ?_
  have hu5 := hu65 hr
  have hu1 := hu_of hr
  unfold B__law_take
  exact (dss_cons (ds_if (dt_cmp (op_eqD hr.units) pEq_ok (de_ix ix_seq pIx_ok (de_var 0) de_int) de_int) (dss_cons (ds_set 4 S.nd (de_ix ix_seq pIx_ok (de_op op_plus pAdd_ok (de_slice (de_ix ix_seq pIx_ok (de_var 0) de_int) (do_some (de_ix ix_seq pIx_ok (de_var 0) de_int)) do_none) (de_lst (da_cons de_int da_nil))) de_int))
 (dss_cons (ds_augL (de_var 0) de_int de_int ip_addI)
 (dss_cons (ds_if (dt_cmp op_ge pGe_ok (de_var 4) (de_op op_pow pPow_ok de_int de_int)) (dss_one (ds_put (de_var 0) de_int (de_var 4))) dss_nil)
 (dss_cons (ds_set 5 S.nd (de_op op_plus pAdd_ok (de_op op_plus pAdd_ok (de_op op_mulA pMulA_ok (de_ix ix_seq pIx_ok (de_var 0) de_int) de_int) (de_op op_mod pMod_ok (de_callTy call_int1 pInt_ok rfl T.b_int (by decide +kernel) (da_cons (de_var 4) da_nil)) de_int)) (de_op op_mulA pMulA_ok de_int (de_ix ix_seq pIx_ok (de_var 0) de_int))))
 (dss_one (ds_put (de_var 0) de_int (de_op op_mod pMod_ok (de_callTy call_int1 pInt_ok rfl T.b_int (by decide +kernel) (da_cons (de_var 5) da_nil)) de_int))))))) dss_nil)
 (dss_cons (ds_if (dt_cmp op_gt pGt_ok (de_ix ix_seq pIx_ok (de_var 0) de_int) de_int) (dss_cons (ds_set 6 S.nd (de_op op_mod pMod_ok (de_callTy call_int1 pInt_ok rfl T.b_int (by decide +kernel) (da_cons (de_ix ix_seq pIx_ok (de_var 0) de_int) da_nil)) (de_var 1)))
 (dss_cons (ds_put (de_var 0) de_int (de_op op_fdivW pDiv_ok (de_callTy call_int1 pInt_ok rfl T.b_int (by decide +kernel) (da_cons (de_ix ix_seq pIx_ok (de_var 0) de_int) da_nil)) (de_var 1)))
 (dss_one (ds_ret (de_var 6))))) dss_nil)
 (dss_cons (ds_set 2 S.nd (de_op op_mod pMod_ok (de_callTy call_int1 pInt_ok rfl T.b_int (by decide +kernel) (da_cons (de_op op_mulA pMulA_ok (de_op op_plus pAdd_ok (de_ix ix_seq pIx_ok (de_var 0) de_int) de_int) de_int) da_nil)) de_int))
 (dss_cons (ds_set 3 S.nd (de_op op_mod pMod_ok (de_callTy call_int1 pInt_ok rfl T.b_int (by decide +kernel) (da_cons (de_op op_mulA pMulA_ok (de_op op_mod pMod_ok (de_callTy call_int1 pInt_ok rfl T.b_int (by decide +kernel) (da_cons (de_op op_mulA pMulA_ok (de_var 2) (de_var 2)) da_nil)) de_int) de_int) da_nil)) de_int))
 (dss_one (ds_ret (de_op op_mod pMod_ok (de_callTy call_int1 pInt_ok rfl T.b_int (by decide +kernel) (da_cons (de_op op_fdivW pDiv_ok (de_var 3) de_int) da_nil)) (de_var 1))))))))

/-! ### _law_some -/
abbrev s__law_some : Stmt := topS 29
abbrev nm__law_some : List Str := ["bag", "things"]
theorem sc__law_some : FnScope nm__law_some ["bag", "things"] (defScope s__law_some) := ⟨rfl, rfl, rfl, by decide +kernel, rfl, by decide +kernel, by decide +kernel⟩
def B__law_some : SF := sRet (e2 pIx (eVar 1) (eL G__law_take (aCons (eVar 0) (aCons (eL pLen (aCons (eVar 1) (aNil))) (aNil)))))
def G__law_some : Gt := runF 2 2 (B__law_some)
theorem cal__law_some (T : Txt K mg base) : Cal P w K mg base (2) "_law_some" (G__law_some) := by
  obtain ⟨fd, F⟩ := T.d__law_some
  have S := sc__law_some
  refine cal_of (k := 1) F S (F.bindsN fun _ _ _ _ _ _ us hl => match us, hl with | [_, _], _ => rfl) fun cdv A outer s H E hr => ?_
  have hu5 := hu65 hr
  have hu1 := hu_of hr
  unfold B__law_some
  exact (dss_one (ds_ret (de_ix ix_seq pIx_ok (de_var 1) (de_call (cal__law_take T) hr rfl T.g__law_take takes_cx (da_cons (de_var 0) (da_cons (de_callB call_len_seq pLen_ok rfl T.b_len (by decide +kernel) (da_cons (de_var 1) da_nil)) da_nil))))))

/-! ### _law_dish -/
abbrev s__law_dish : Stmt := topS 31
abbrev nm__law_dish : List Str := ["bag", "least", "most", "found", "piece", "many", "plain", "top", "low"]
theorem sc__law_dish : FnScope nm__law_dish ["bag", "least", "most"] (defScope s__law_dish) := ⟨rfl, rfl, rfl, by decide +kernel, rfl, by decide +kernel, by decide +kernel⟩
def B__law_dish : SF := sSeq (sPar3 5 6 7 (aCons (e2 pAdd (eVar 1) (eL G__law_take (aCons (eVar 0) (aCons (e2 pAdd (e2 pSub (eVar 2) (eVar 1)) (eC (.int 1))) (aNil))))) (aCons (e2 pEq (eL G__law_take (aCons (eVar 0) (aCons (eC (.int 2)) (aNil)))) (eC (.int 0))) (aCons (eL G__law_some (aCons (eVar 0) (aCons (eLst (aCons (eC (.int 1)) (aCons (eC (.int 2)) (aCons (eC (.int 6)) (aNil))))) (aNil)))) (aNil))))) (
sSeq (sSet 3 (eNew (aNil))) (
sSeq (sFor (srcR1 (eVar 5)) (gN 4) (
sSeq (sSet 8 (eL G__law_some (aCons (eVar 0) (aCons (eLst (aCons (eC (.int 0)) (aCons (eL G__law_take (aCons (eVar 0) (aCons (e2 pAdd (eVar 7) (eC (.int 1))) (aNil)))) (aCons (e2 pAdd (eC (.int 1)) (eL G__law_take (aCons (eVar 0) (aCons (eVar 7) (aNil))))) (aNil))))) (aNil))))) (
sExpr (eMeth mAppend (eVar 3) (aCons (eTup (aCons (eVar 8) (aCons (e2 pAdd (eVar 8) (vIf (tV (eVar 6)) (eC (.int 0)) (eL G__law_some (aCons (eVar 0) (aCons (eLst (aCons (eC (.int 0)) (aCons (eC (.int 1)) (aCons (eL G__law_take (aCons (eVar 0) (aCons (eC (.int 4)) (aNil)))) (aNil))))) (aNil)))))) (aNil)))) (aNil)))))) (
sRet (eL pTuple (aCons (eVar 3) (aNil))))))
def G__law_dish : Gt := runF 3 9 (B__law_dish)
theorem cal__law_dish (T : Txt K mg base) : Cal P w K mg base (3) "_law_dish" (G__law_dish) := by
  obtain ⟨fd, F⟩ := T.d__law_dish
  have S := sc__law_dish
  refine cal_of (k := 2) F S (F.bindsN fun _ _ _ _ _ _ us hl => match us, hl with | [_, _, _], _ => rfl) fun cdv A outer s H E hr => ?_
  have hu5 := hu65 hr
  have hu1 := hu_of hr
  unfold B__law_dish
  exact (dss_cons (ds_par3 5 6 7 rfl S.nd (da_cons (de_op op_plus pAdd_ok (de_var 1) (de_call (cal__law_take T) hr rfl T.g__law_take takes_cx (da_cons (de_var 0) (da_cons (de_op op_plus pAdd_ok (de_op op_sub pSub_ok (de_var 2) (de_var 1)) de_int) da_nil)))) (da_cons (de_cmp (op_eqD hr.units) pEq_ok (de_call (cal__law_take T) hr rfl T.g__law_take takes_cx (da_cons (de_var 0) (da_cons de_int da_nil))) de_int) (da_cons (de_call (cal__law_some T) hr rfl T.g__law_some takes_cx (da_cons (de_var 0) (da_cons (de_lst (da_cons de_int (da_cons de_int (da_cons de_int da_nil)))) da_nil))) da_nil))))
 (dss_cons (ds_set 3 S.nd (de_new da_nil))
 (dss_cons (ds_for passes_cx rfl (di_range1 rfl T.b_range (de_var 5)) (dg_name 4 S.nd)
 (dss_cons (ds_set 8 S.nd (de_call (cal__law_some T) hr rfl T.g__law_some takes_cx (da_cons (de_var 0) (da_cons (de_lst (da_cons de_int (da_cons (de_call (cal__law_take T) hr rfl T.g__law_take takes_cx (da_cons (de_var 0) (da_cons (de_op op_plus pAdd_ok (de_var 7) de_int) da_nil))) (da_cons (de_op op_plus pAdd_ok de_int (de_call (cal__law_take T) hr rfl T.g__law_take takes_cx (da_cons (de_var 0) (da_cons (de_var 7) da_nil)))) da_nil)))) da_nil))))
 (dss_one (ds_expr (de_meth PySem.F.slot_list_append PySem.F.type_list_append mt_append mAppend_ok (de_var 3) (da_cons (de_tup (da_cons (de_var 8) (da_cons (de_op op_plus pAdd_ok (de_var 8) (de_if (dt_val (de_var 6)) de_int (de_call (cal__law_some T) hr rfl T.g__law_some takes_cx (da_cons (de_var 0) (da_cons (de_lst (da_cons de_int (da_cons de_int (da_cons (de_call (cal__law_take T) hr rfl T.g__law_take takes_cx (da_cons (de_var 0) (da_cons de_int da_nil))) da_nil)))) da_nil))))) da_nil))) da_nil))))))
 (dss_one (ds_ret (de_callTy call_tuple_of pTuple_ok rfl T.b_tuple (by decide +kernel) (da_cons (de_var 3) da_nil)))))))

/-! ### is_tuple_of -/
abbrev s_is_tuple_of : Stmt := topS 9
abbrev nm_is_tuple_of : List Str := ["thing", "is_item", "item"]
theorem sc_is_tuple_of : FnScope nm_is_tuple_of ["thing", "is_item"] (defScope s_is_tuple_of) := ⟨rfl, rfl, rfl, by decide +kernel, rfl, by decide +kernel, by decide +kernel⟩
def B_is_tuple_of (Φ : Phi) : SF := sRet (vAnd (eIsi "tuple" (eVar 0)) (eL pAllL (aCons (eComp (srcI (eVar 0)) (gN 2) (tYes') (eCallV Φ 1 (aCons (eVar 2) (aNil))) [2]) (aNil))))
def G_is_tuple_of (Φ : Phi) : Gt := runF 2 3 (B_is_tuple_of Φ)
theorem cal_is_tuple_of (T : Txt K mg base) {Φ : Phi} {k : Nat} (hΦ : ∀ y G, Φ y = some G → Cal P w K mg base k y G) : Cal P w K mg base (k + 1) "is_tuple_of" (G_is_tuple_of Φ) := by
  obtain ⟨fd, F⟩ := T.d_is_tuple_of
  have S := sc_is_tuple_of
  refine cal_of (k := k) F S (F.bindsN fun _ _ _ _ _ _ us hl => match us, hl with | [_, _], _ => rfl) fun cdv A outer s H E hr => ?_
  have hu5 := hu65 hr
  have hu1 := hu_of hr
  unfold B_is_tuple_of
  exact (dss_one (ds_ret (de_and (de_isi rfl T.b_isinstance rfl T.b_tuple (by decide +kernel) (de_var 0)) (de_one (de_callB (cr_all rfl) pAllL_ok rfl T.b_all (by decide +kernel) (da_cons (de_comp (own := [("item", 2)]) rfl S.nd (di_any (de_var 0)) (blkOk_by (own := [("item", 2)]) (N := nm_is_tuple_of) (sc := defScope s_is_tuple_of) (by decide +kernel)) (fun _ _ _ _ _ => (dg_name 2 S.nd)) (fun _ _ _ _ _ => dts_nil) (fun _ _ _ _ _ => (de_callV 1 hΦ hr Dn.takes0 (da_cons (de_var 2) da_nil)))) da_nil))))))

/-! ### is_tuple_of of is_piece -/
theorem cal_is_tuple_of_is_piece (T : Txt K mg base) : Cal P w K mg base 4 "is_tuple_of" (G_is_tuple_of (phi1 "is_piece" G_is_piece)) := cal_is_tuple_of T (phi1_ok (cal_is_piece T))

/-! ### is_dish -/
abbrev s_is_dish : Stmt := topS 15
abbrev nm_is_dish : List Str := ["thing"]
theorem sc_is_dish : FnScope nm_is_dish ["thing"] (defScope s_is_dish) := ⟨rfl, rfl, rfl, by decide +kernel, rfl, by decide +kernel, by decide +kernel⟩
def B_is_dish : SF := sRet (vAnd (eL (G_is_tuple_of (phi1 "is_piece" G_is_piece)) (aCons (eVar 0) (aCons (eC (.fn "is_piece")) (aNil)))) (vChain pLe pLe (eC (.int 1)) (eL pLen (aCons (eVar 0) (aNil))) (eC (.int 31))))
def G_is_dish : Gt := runF 1 1 (B_is_dish)
theorem cal_is_dish (T : Txt K mg base) : Cal P w K mg base (5) "is_dish" (G_is_dish) := by
  obtain ⟨fd, F⟩ := T.d_is_dish
  obtain ⟨_, c_MOST_PIECES⟩ := T.c_MOST_PIECES
  have S := sc_is_dish
  refine cal_of (k := 4) F S (F.bindsN fun _ _ _ _ _ _ us hl => match us, hl with | [_], _ => rfl) fun cdv A outer s H E hr => ?_
  have hu5 := hu65 hr
  have hu1 := hu_of hr
  unfold B_is_dish
  exact (dss_one (ds_ret (de_and (de_call (cal_is_tuple_of_is_piece T) hr rfl T.g_is_tuple_of takes_cx (da_cons (de_var 0) (da_cons (de_glob rfl T.g_is_piece GlV.fn) da_nil))) (de_one (de_chain op_le op_le pLe_ok pLe_ok de_int (de_callB call_len_seq pLen_ok rfl T.b_len (by decide +kernel) (da_cons (de_var 0) da_nil)) (de_glob rfl c_MOST_PIECES GlV.int))))))

/-! ### check_dish -/
abbrev s_check_dish : Stmt := topS 16
abbrev nm_check_dish : List Str := ["dish"]
theorem sc_check_dish : FnScope nm_check_dish ["dish"] (defScope s_check_dish) := ⟨rfl, rfl, rfl, by decide +kernel, rfl, by decide +kernel, by decide +kernel⟩
def B_check_dish : SF := sIf (tNot' (tV (eL G_is_dish (aCons (eVar 0) (aNil))))) (
sRaise "Nothing") (
sNext)
def G_check_dish : Gt := runF 1 1 (B_check_dish)
theorem cal_check_dish (T : Txt K mg base) : Cal P w K mg base (6) "check_dish" (G_check_dish) := by
  obtain ⟨fd, F⟩ := T.d_check_dish
  have S := sc_check_dish
  refine cal_of (k := 5) F S (F.bindsN fun _ _ _ _ _ _ us hl => match us, hl with | [_], _ => rfl) fun cdv A outer s H E hr => ?_
  have hu5 := hu65 hr
  have hu1 := hu_of hr
  unfold B_check_dish
  exact (dss_one (ds_if (dt_not (dt_val (de_call (cal_is_dish T) hr rfl T.g_is_dish takes_cx (da_cons (de_var 0) da_nil)))) (dss_one (ds_raise rfl takes_cx T.x_Nothing rfl)) dss_nil))

/-! ### is_plain -/
abbrev s_is_plain : Stmt := topS 19
abbrev nm_is_plain : List Str := ["dish", "low", "high"]
theorem sc_is_plain : FnScope nm_is_plain ["dish"] (defScope s_is_plain) := ⟨rfl, rfl, rfl, by decide +kernel, rfl, by decide +kernel, by decide +kernel⟩
def B_is_plain : SF := sSeq (sExpr (eL G_check_dish (aCons (eVar 0) (aNil)))) (
sRet (eL pAllL (aCons (eComp (srcI (eVar 0)) (gT 2 (gsCons (gN 1) (gsCons (gN 2) (gsNil)))) (tYes') (e2 pEq (eVar 1) (eVar 2)) [1, 2]) (aNil))))
def G_is_plain : Gt := runF 1 3 (B_is_plain)
theorem cal_is_plain (T : Txt K mg base) : Cal P w K mg base (7) "is_plain" (G_is_plain) := by
  obtain ⟨fd, F⟩ := T.d_is_plain
  have S := sc_is_plain
  refine cal_of (k := 6) F S (F.bindsN fun _ _ _ _ _ _ us hl => match us, hl with | [_], _ => rfl) fun cdv A outer s H E hr => ?_
  have hu5 := hu65 hr
  have hu1 := hu_of hr
  unfold B_is_plain
  exact (dss_cons (ds_expr (de_call (cal_check_dish T) hr rfl T.g_check_dish takes_cx (da_cons (de_var 0) da_nil)))
 (dss_one (ds_ret (de_callB (cr_all rfl) pAllL_ok rfl T.b_all (by decide +kernel) (da_cons (de_comp (own := [("low", 1), ("high", 2)]) rfl S.nd (di_any (de_var 0)) (blkOk_by (own := [("low", 1), ("high", 2)]) (N := nm_is_plain) (sc := defScope s_is_plain) (by decide +kernel)) (fun _ _ _ _ _ => (dg_tup rfl (dgs_cons (dg_name 1 S.nd) (dgs_cons (dg_name 2 S.nd) dgs_nil)))) (fun _ _ _ _ _ => dts_nil) (fun _ _ _ _ _ => (de_cmp (op_eqD hr.units) pEq_ok (de_var 1) (de_var 2)))) da_nil)))))

/-! ### lows_of -/
abbrev s_lows_of : Stmt := topS 21
abbrev nm_lows_of : List Str := ["dish", "low", "_high"]
theorem sc_lows_of : FnScope nm_lows_of ["dish"] (defScope s_lows_of) := ⟨rfl, rfl, rfl, by decide +kernel, rfl, by decide +kernel, by decide +kernel⟩
def B_lows_of : SF := sSeq (sExpr (eL G_check_dish (aCons (eVar 0) (aNil)))) (
sRet (eL pTuple (aCons (eComp (srcI (eVar 0)) (gT 2 (gsCons (gN 1) (gsCons (gN 2) (gsNil)))) (tYes') (eVar 1) [1, 2]) (aNil))))
def G_lows_of : Gt := runF 1 3 (B_lows_of)
theorem cal_lows_of (T : Txt K mg base) : Cal P w K mg base (7) "lows_of" (G_lows_of) := by
  obtain ⟨fd, F⟩ := T.d_lows_of
  have S := sc_lows_of
  refine cal_of (k := 6) F S (F.bindsN fun _ _ _ _ _ _ us hl => match us, hl with | [_], _ => rfl) fun cdv A outer s H E hr => ?_
  have hu5 := hu65 hr
  have hu1 := hu_of hr
  unfold B_lows_of
  exact (dss_cons (ds_expr (de_call (cal_check_dish T) hr rfl T.g_check_dish takes_cx (da_cons (de_var 0) da_nil)))
 (dss_one (ds_ret (de_callTy call_tuple_of pTuple_ok rfl T.b_tuple (by decide +kernel) (da_cons (de_comp (own := [("low", 1), ("_high", 2)]) rfl S.nd (di_any (de_var 0)) (blkOk_by (own := [("low", 1), ("_high", 2)]) (N := nm_lows_of) (sc := defScope s_lows_of) (by decide +kernel)) (fun _ _ _ _ _ => (dg_tup rfl (dgs_cons (dg_name 1 S.nd) (dgs_cons (dg_name 2 S.nd) dgs_nil)))) (fun _ _ _ _ _ => dts_nil) (fun _ _ _ _ _ => (de_var 1))) da_nil)))))

/-! ### highs_of -/
abbrev s_highs_of : Stmt := topS 22
abbrev nm_highs_of : List Str := ["dish", "_low", "high"]
theorem sc_highs_of : FnScope nm_highs_of ["dish"] (defScope s_highs_of) := ⟨rfl, rfl, rfl, by decide +kernel, rfl, by decide +kernel, by decide +kernel⟩
def B_highs_of : SF := sSeq (sExpr (eL G_check_dish (aCons (eVar 0) (aNil)))) (
sRet (eL pTuple (aCons (eComp (srcI (eVar 0)) (gT 2 (gsCons (gN 1) (gsCons (gN 2) (gsNil)))) (tYes') (eVar 2) [1, 2]) (aNil))))
def G_highs_of : Gt := runF 1 3 (B_highs_of)
theorem cal_highs_of (T : Txt K mg base) : Cal P w K mg base (7) "highs_of" (G_highs_of) := by
  obtain ⟨fd, F⟩ := T.d_highs_of
  have S := sc_highs_of
  refine cal_of (k := 6) F S (F.bindsN fun _ _ _ _ _ _ us hl => match us, hl with | [_], _ => rfl) fun cdv A outer s H E hr => ?_
  have hu5 := hu65 hr
  have hu1 := hu_of hr
  unfold B_highs_of
  exact (dss_cons (ds_expr (de_call (cal_check_dish T) hr rfl T.g_check_dish takes_cx (da_cons (de_var 0) da_nil)))
 (dss_one (ds_ret (de_callTy call_tuple_of pTuple_ok rfl T.b_tuple (by decide +kernel) (da_cons (de_comp (own := [("_low", 1), ("high", 2)]) rfl S.nd (di_any (de_var 0)) (blkOk_by (own := [("_low", 1), ("high", 2)]) (N := nm_highs_of) (sc := defScope s_highs_of) (by decide +kernel)) (fun _ _ _ _ _ => (dg_tup rfl (dgs_cons (dg_name 1 S.nd) (dgs_cons (dg_name 2 S.nd) dgs_nil)))) (fun _ _ _ _ _ => dts_nil) (fun _ _ _ _ _ => (de_var 2))) da_nil)))))

/-! ### turned_by -/
abbrev s_turned_by : Stmt := topS 23
abbrev nm_turned_by : List Str := ["dish", "by", "place"]
theorem sc_turned_by : FnScope nm_turned_by ["dish", "by"] (defScope s_turned_by) := ⟨rfl, rfl, rfl, by decide +kernel, rfl, by decide +kernel, by decide +kernel⟩
def B_turned_by : SF := sSeq (sExpr (eL G_check_dish (aCons (eVar 0) (aNil)))) (
sSeq (sIf (tNot' (tV (eL G_is_integer (aCons (eVar 1) (aNil))))) (
sRaise "Nothing") (
sNext)) (
sRet (eL pTuple (aCons (eComp (srcR1 (eL pLen (aCons (eVar 0) (aNil)))) (gN 2) (tYes') (e2 pIx (eVar 0) (e2 pMod (e2 pSub (eVar 2) (eVar 1)) (eL pLen (aCons (eVar 0) (aNil))))) [2]) (aNil)))))
def G_turned_by : Gt := runF 2 3 (B_turned_by)
theorem cal_turned_by (T : Txt K mg base) : Cal P w K mg base (7) "turned_by" (G_turned_by) := by
  obtain ⟨fd, F⟩ := T.d_turned_by
  have S := sc_turned_by
  refine cal_of (k := 6) F S (F.bindsN fun _ _ _ _ _ _ us hl => match us, hl with | [_, _], _ => rfl) fun cdv A outer s H E hr => ?_
  have hu5 := hu65 hr
  have hu1 := hu_of hr
  unfold B_turned_by
  exact (dss_cons (ds_expr (de_call (cal_check_dish T) hr rfl T.g_check_dish takes_cx (da_cons (de_var 0) da_nil)))
 (dss_cons (ds_if (dt_not (dt_val (de_call (cal_is_integer T) hr rfl T.g_is_integer takes_cx (da_cons (de_var 1) da_nil)))) (dss_one (ds_raise rfl takes_cx T.x_Nothing rfl)) dss_nil)
 (dss_one (ds_ret (de_callTy call_tuple_of pTuple_ok rfl T.b_tuple (by decide +kernel) (da_cons (de_comp (own := [("place", 2)]) rfl S.nd (di_range1 rfl T.b_range (de_callB call_len_seq pLen_ok rfl T.b_len (by decide +kernel) (da_cons (de_var 0) da_nil))) (blkOk_by (own := [("place", 2)]) (N := nm_turned_by) (sc := defScope s_turned_by) (by decide +kernel)) (fun _ _ _ _ _ => (dg_name 2 S.nd)) (fun _ _ _ _ _ => dts_nil) (fun _ _ _ _ _ => (de_ix ix_seq pIx_ok (de_var 0) (de_op op_mod pMod_ok (de_op op_sub pSub_ok (de_var 2) (de_var 1)) (de_callB call_len_seq pLen_ok rfl T.b_len (by decide +kernel) (da_cons (de_var 0) da_nil)))))) da_nil))))))

/-! ### mirrored -/
abbrev s_mirrored : Stmt := topS 24
abbrev nm_mirrored : List Str := ["dish", "place"]
theorem sc_mirrored : FnScope nm_mirrored ["dish"] (defScope s_mirrored) := ⟨rfl, rfl, rfl, by decide +kernel, rfl, by decide +kernel, by decide +kernel⟩
def B_mirrored : SF := sSeq (sExpr (eL G_check_dish (aCons (eVar 0) (aNil)))) (
sRet (eL pTuple (aCons (eComp (srcR1 (eL pLen (aCons (eVar 0) (aNil)))) (gN 1) (tYes') (e2 pIx (eVar 0) (e2 pMod (e1 pNeg (eVar 1)) (eL pLen (aCons (eVar 0) (aNil))))) [1]) (aNil))))
def G_mirrored : Gt := runF 1 2 (B_mirrored)
theorem cal_mirrored (T : Txt K mg base) : Cal P w K mg base (7) "mirrored" (G_mirrored) := by
  obtain ⟨fd, F⟩ := T.d_mirrored
  have S := sc_mirrored
  refine cal_of (k := 6) F S (F.bindsN fun _ _ _ _ _ _ us hl => match us, hl with | [_], _ => rfl) fun cdv A outer s H E hr => ?_
  have hu5 := hu65 hr
  have hu1 := hu_of hr
  unfold B_mirrored
  exact (dss_cons (ds_expr (de_call (cal_check_dish T) hr rfl T.g_check_dish takes_cx (da_cons (de_var 0) da_nil)))
 (dss_one (ds_ret (de_callTy call_tuple_of pTuple_ok rfl T.b_tuple (by decide +kernel) (da_cons (de_comp (own := [("place", 1)]) rfl S.nd (di_range1 rfl T.b_range (de_callB call_len_seq pLen_ok rfl T.b_len (by decide +kernel) (da_cons (de_var 0) da_nil))) (blkOk_by (own := [("place", 1)]) (N := nm_mirrored) (sc := defScope s_mirrored) (by decide +kernel)) (fun _ _ _ _ _ => (dg_name 1 S.nd)) (fun _ _ _ _ _ => dts_nil) (fun _ _ _ _ _ => (de_ix ix_seq pIx_ok (de_var 0) (de_op op_mod pMod_ok (de_un un_neg pNeg_ok (de_var 1)) (de_callB call_len_seq pLen_ok rfl T.b_len (by decide +kernel) (da_cons (de_var 0) da_nil)))))) da_nil)))))

/-! ### plain_dish -/
abbrev s_plain_dish : Stmt := topS 20
abbrev nm_plain_dish : List Str := ["worths", "dish", "worth"]
theorem sc_plain_dish : FnScope nm_plain_dish ["worths"] (defScope s_plain_dish) := ⟨rfl, rfl, rfl, by decide +kernel, rfl, by decide +kernel, by decide +kernel⟩
def B_plain_dish : SF := sSeq (sIf (tNot' (tV (eIsi "tuple" (eVar 0)))) (
sRaise "Nothing") (
sNext)) (
sSeq (sSet 1 (eL pTuple (aCons (eComp (srcI (eVar 0)) (gN 2) (tYes') (eTup (aCons (eVar 2) (aCons (eVar 2) (aNil)))) [2]) (aNil)))) (
sSeq (sExpr (eL G_check_dish (aCons (eVar 1) (aNil)))) (
sRet (eVar 1))))
def G_plain_dish : Gt := runF 1 3 (B_plain_dish)
theorem cal_plain_dish (T : Txt K mg base) : Cal P w K mg base (7) "plain_dish" (G_plain_dish) := by
  obtain ⟨fd, F⟩ := T.d_plain_dish
  have S := sc_plain_dish
  refine cal_of (k := 6) F S (F.bindsN fun _ _ _ _ _ _ us hl => match us, hl with | [_], _ => rfl) fun cdv A outer s H E hr => ?_
  have hu5 := hu65 hr
  have hu1 := hu_of hr
  unfold B_plain_dish
  exact (dss_cons (ds_if (dt_not (dt_val (de_isi rfl T.b_isinstance rfl T.b_tuple (by decide +kernel) (de_var 0)))) (dss_one (ds_raise rfl takes_cx T.x_Nothing rfl)) dss_nil)
 (dss_cons (ds_set 1 S.nd (de_callTy call_tuple_of pTuple_ok rfl T.b_tuple (by decide +kernel) (da_cons (de_comp (own := [("worth", 2)]) rfl S.nd (di_any (de_var 0)) (blkOk_by (own := [("worth", 2)]) (N := nm_plain_dish) (sc := defScope s_plain_dish) (by decide +kernel)) (fun _ _ _ _ _ => (dg_name 2 S.nd)) (fun _ _ _ _ _ => dts_nil) (fun _ _ _ _ _ => (de_tup (da_cons (de_var 2) (da_cons (de_var 2) da_nil))))) da_nil)))
 (dss_cons (ds_expr (de_call (cal_check_dish T) hr rfl T.g_check_dish takes_cx (da_cons (de_var 1) da_nil)))
 (dss_one (ds_ret (de_var 1))))))

/-! ### is_count -/
abbrev s_is_count : Stmt := topS 6
abbrev nm_is_count : List Str := ["thing"]
theorem sc_is_count : FnScope nm_is_count ["thing"] (defScope s_is_count) := ⟨rfl, rfl, rfl, by decide +kernel, rfl, by decide +kernel, by decide +kernel⟩
def B_is_count : SF := sRet (vAnd (eL G_is_integer (aCons (eVar 0) (aNil))) (e2 pGe (eVar 0) (eC (.int 0))))
def G_is_count : Gt := runF 1 1 (B_is_count)
theorem cal_is_count (T : Txt K mg base) : Cal P w K mg base (2) "is_count" (G_is_count) := by
  obtain ⟨fd, F⟩ := T.d_is_count
  have S := sc_is_count
  refine cal_of (k := 1) F S (F.bindsN fun _ _ _ _ _ _ us hl => match us, hl with | [_], _ => rfl) fun cdv A outer s H E hr => ?_
  have hu5 := hu65 hr
  have hu1 := hu_of hr
  unfold B_is_count
  exact (dss_one (ds_ret (de_and (de_call (cal_is_integer T) hr rfl T.g_is_integer takes_cx (da_cons (de_var 0) da_nil)) (de_one (de_cmp op_ge pGe_ok (de_var 0) de_int)))))

/-! ### is_tuple_of of is_count -/
theorem cal_is_tuple_of_is_count (T : Txt K mg base) : Cal P w K mg base 3 "is_tuple_of" (G_is_tuple_of (phi1 "is_count" G_is_count)) := cal_is_tuple_of T (phi1_ok (cal_is_count T))

/-! ### lowest -/
abbrev s_lowest : Stmt := topS 25
abbrev nm_lowest : List Str := ["fraction", "one", "other"]
theorem sc_lowest : FnScope nm_lowest ["fraction"] (defScope s_lowest) := ⟨rfl, rfl, rfl, by decide +kernel, rfl, by decide +kernel, by decide +kernel⟩
def B_lowest : SF := sSeq (sIf (tOr' (tNot' (tV (eL G_is_sized (aCons (eVar 0) (aCons (eC (.int 2)) (aNil)))))) (tOr' (tNot' (tV (eL (G_is_tuple_of (phi1 "is_count" G_is_count)) (aCons (eVar 0) (aCons (eC (.fn "is_count")) (aNil)))))) (tV (e2 pEq (e2 pIx (eVar 0) (eC (.int 1))) (eC (.int 0)))))) (
sRaise "Nothing") (
sNext)) (
sSeq (sAsg (eVar 0) (gT 2 (gsCons (gN 1) (gsCons (gN 2) (gsNil))))) (
sSeq (whileF (tV (e2 pNe (eVar 2) (eC (.int 0)))) (
sPar 1 2 (aCons (eVar 2) (aCons (e2 pMod (eVar 1) (eVar 2)) (aNil)))) 1000000) (
sRet (eTup (aCons (e2 pDiv (e2 pIx (eVar 0) (eC (.int 0))) (eVar 1)) (aCons (e2 pDiv (e2 pIx (eVar 0) (eC (.int 1))) (eVar 1)) (aNil)))))))
def G_lowest : Gt := runF 1 3 (B_lowest)
theorem cal_lowest (T : Txt K mg base) : Cal P w K mg base (4) "lowest" (G_lowest) := by
  obtain ⟨fd, F⟩ := T.d_lowest
  have S := sc_lowest
  refine cal_of (k := 3) F S (F.bindsN fun _ _ _ _ _ _ us hl => match us, hl with | [_], _ => rfl) fun cdv A outer s H E hr => ?_
  have hu5 := hu65 hr
  have hu1 := hu_of hr
  unfold B_lowest
  exact (dss_cons (ds_if (DW.dt (dw_or (dt_not (dt_val (de_call (cal_is_sized T) hr rfl T.g_is_sized takes_cx (da_cons (de_var 0) (da_cons de_int da_nil))))) (dw_or (dt_not (dt_val (de_call (cal_is_tuple_of_is_count T) hr rfl T.g_is_tuple_of takes_cx (da_cons (de_var 0) (da_cons (de_glob rfl T.g_is_count GlV.fn) da_nil))))) (dw_or1 (dt_cmp (op_eqD hr.units) pEq_ok (de_ix ix_seq pIx_ok (de_var 0) de_int) de_int))))) (dss_one (ds_raise rfl takes_cx T.x_Nothing rfl)) dss_nil)
 (dss_cons (ds_asg (de_var 0) (dg_tup rfl (dgs_cons (dg_name 1 S.nd) (dgs_cons (dg_name 2 S.nd) dgs_nil))))
 (dss_cons (ds_while 1000000 passes_cx (dt_cmp (op_neD hr.units) pNe_ok (de_var 2) de_int)
 (dss_one (ds_par 1 2 rfl S.nd (da_cons (de_var 2) (da_cons (de_op op_mod pMod_ok (de_var 1) (de_var 2)) da_nil)))))
 (dss_one (ds_ret (de_tup (da_cons (de_op op_fdivW pDiv_ok (de_ix ix_seq pIx_ok (de_var 0) de_int) (de_var 1)) (da_cons (de_op op_fdivW pDiv_ok (de_ix ix_seq pIx_ok (de_var 0) de_int) (de_var 1)) da_nil))))))))

/-! ### _law_lowest -/
abbrev s__law_lowest : Stmt := topS 32
abbrev nm__law_lowest : List Str := ["over", "under", "lap", "one", "other"]
theorem sc__law_lowest : FnScope nm__law_lowest ["over", "under"] (defScope s__law_lowest) := ⟨rfl, rfl, rfl, by decide +kernel, rfl, by decide +kernel, by decide +kernel⟩
def B__law_lowest : SF := sSeq (sPar 3 4 (aCons (eVar 0) (aCons (eVar 1) (aNil)))) (
sSeq (sFor (srcR1 (eC (.int 999))) (gN 2) (
sSeq (sIf (tV (e2 pEq (eVar 4) (eC (.int 0)))) (
sBreak) (
sNext)) (
sPar 3 4 (aCons (eVar 4) (aCons (e2 pMod (eL pInt (aCons (eVar 3) (aNil))) (eVar 4)) (aNil)))))) (
sRet (eTup (aCons (eL pInt (aCons (e2 pDiv (eVar 0) (eVar 3)) (aNil))) (aCons (eL pInt (aCons (e2 pDiv (eVar 1) (eVar 3)) (aNil))) (aNil))))))
def G__law_lowest : Gt := runF 2 5 (B__law_lowest)
theorem cal__law_lowest (T : Txt K mg base) : Cal P w K mg base (1) "_law_lowest" (G__law_lowest) := by
  obtain ⟨fd, F⟩ := T.d__law_lowest
  have S := sc__law_lowest
  refine cal_of (k := 0) F S (F.bindsN fun _ _ _ _ _ _ us hl => match us, hl with | [_, _], _ => rfl) fun cdv A outer s H E hr => ?_
  have hu5 := hu65 hr
  have hu1 := hu_of hr
  unfold B__law_lowest
  exact (dss_cons (ds_par 3 4 rfl S.nd (da_cons (de_var 0) (da_cons (de_var 1) da_nil)))
 (dss_cons (ds_for passes_cx rfl (di_range1 rfl T.b_range de_int) (dg_name 2 S.nd)
 (dss_cons (ds_if (dt_cmp (op_eqD hr.units) pEq_ok (de_var 4) de_int) (dss_one ds_break) dss_nil)
 (dss_one (ds_par 3 4 rfl S.nd (da_cons (de_var 4) (da_cons (de_op op_mod pMod_ok (de_callTy call_int1 pInt_ok rfl T.b_int (by decide +kernel) (da_cons (de_var 3) da_nil)) (de_var 4)) da_nil))))))
 (dss_one (ds_ret (de_tup (da_cons (de_callTy call_int1 pInt_ok rfl T.b_int (by decide +kernel) (da_cons (de_op op_fdivW pDiv_ok (de_var 0) (de_var 3)) da_nil)) (da_cons (de_callTy call_int1 pInt_ok rfl T.b_int (by decide +kernel) (da_cons (de_op op_fdivW pDiv_ok (de_var 1) (de_var 3)) da_nil)) da_nil)))))))

/-! ### law -/
abbrev s_law : Stmt := topS 34
abbrev nm_law : List Str := ["script", "bag", "lap", "dish", "many", "by", "due", "worths", "bents", "acts", "over", "under", "times", "place", "bent", "act", "one", "low", "high"]
theorem sc_law : FnScope nm_law ["script"] (defScope s_law) := ⟨rfl, rfl, rfl, by decide +kernel, rfl, by decide +kernel, by decide +kernel⟩
abbrev syn_law_0 : Arguments × Expr × Scope := lamE (prtE (expS (stN (blkS (stN (defBody s_law) 2) 0) 15)) 0)
theorem ls_law_0 : LamX.LamS (defScope s_law) syn_law_0.2.2 := LamX.lamS_by (by decide +kernel)
def L_law_0 (Pt : Str → Addr) : Ro → M D := eL G_turned_by (aCons (eVar 3) (aCons (eC .non) (aNil)))
theorem lamOk_law_0 (T : Txt K mg base) {A : Around} {outer : List Env} {s : Shared} {H : Hp} {E : XK} : LamK P w K mg base (cxOf (L2.CX P w) P w K mg base nm_law "law" (defScope s_law) (He.ga K "law") (.ref (codA K "law")) A outer s H E) 7 syn_law_0 (L_law_0 (tabA K)) := by
  have S := sc_law
  refine ⟨ls_law_0, fun _ _ _ _ _ => rfl, fun f c' A outer t G E hr => ?_⟩
  have hu5 := hu65 hr
  have hu1 := hu_of hr
  unfold L_law_0
  exact (de_call (cal_turned_by T) hr rfl T.g_turned_by takes_lam (da_cons (de_var 3) (da_cons de_non da_nil)))
abbrev syn_law_1 : Arguments × Expr × Scope := lamE (prtE (expS (stN (blkS (stN (defBody s_law) 2) 0) 16)) 1)
theorem ls_law_1 : LamX.LamS (defScope s_law) syn_law_1.2.2 := LamX.lamS_by (by decide +kernel)
def L_law_1 (Pt : Str → Addr) : Ro → M D := eL G_lows_of (aCons (eTup (aNil)) (aNil))
theorem lamOk_law_1 (T : Txt K mg base) {A : Around} {outer : List Env} {s : Shared} {H : Hp} {E : XK} : LamK P w K mg base (cxOf (L2.CX P w) P w K mg base nm_law "law" (defScope s_law) (He.ga K "law") (.ref (codA K "law")) A outer s H E) 7 syn_law_1 (L_law_1 (tabA K)) := by
  have S := sc_law
  refine ⟨ls_law_1, fun _ _ _ _ _ => rfl, fun f c' A outer t G E hr => ?_⟩
  have hu5 := hu65 hr
  have hu1 := hu_of hr
  unfold L_law_1
  exact (de_call (cal_lows_of T) hr rfl T.g_lows_of takes_lam (da_cons (de_tup da_nil) da_nil))
abbrev syn_law_2 : Arguments × Expr × Scope := lamE (prtE (expS (stN (blkS (stN (defBody s_law) 2) 0) 17)) 1)
theorem ls_law_2 : LamX.LamS (defScope s_law) syn_law_2.2.2 := LamX.lamS_by (by decide +kernel)
def L_law_2 (Pt : Str → Addr) : Ro → M D := eL G_is_plain (aCons (e2 pAdd (eVar 3) (eTup (aCons (eC .non) (aNil)))) (aNil))
theorem lamOk_law_2 (T : Txt K mg base) {A : Around} {outer : List Env} {s : Shared} {H : Hp} {E : XK} : LamK P w K mg base (cxOf (L2.CX P w) P w K mg base nm_law "law" (defScope s_law) (He.ga K "law") (.ref (codA K "law")) A outer s H E) 7 syn_law_2 (L_law_2 (tabA K)) := by
  have S := sc_law
  refine ⟨ls_law_2, fun _ _ _ _ _ => rfl, fun f c' A outer t G E hr => ?_⟩
  have hu5 := hu65 hr
  have hu1 := hu_of hr
  unfold L_law_2
  exact (de_call (cal_is_plain T) hr rfl T.g_is_plain takes_lam (da_cons (de_op op_plus pAdd_ok (de_var 3) (de_tup (da_cons de_non da_nil))) da_nil))
abbrev syn_law_3 : Arguments × Expr × Scope := lamE (prtE (expS (stN (blkS (stN (defBody s_law) 2) 0) 18)) 1)
theorem ls_law_3 : LamX.LamS (defScope s_law) syn_law_3.2.2 := LamX.lamS_by (by decide +kernel)
def L_law_3 (Pt : Str → Addr) : Ro → M D := eL G_plain_dish (aCons (e2 pAdd (eVar 7) (eTup (aCons (eC (.int 10000)) (aNil)))) (aNil))
theorem lamOk_law_3 (T : Txt K mg base) {A : Around} {outer : List Env} {s : Shared} {H : Hp} {E : XK} : LamK P w K mg base (cxOf (L2.CX P w) P w K mg base nm_law "law" (defScope s_law) (He.ga K "law") (.ref (codA K "law")) A outer s H E) 7 syn_law_3 (L_law_3 (tabA K)) := by
  have S := sc_law
  refine ⟨ls_law_3, fun _ _ _ _ _ => rfl, fun f c' A outer t G E hr => ?_⟩
  have hu5 := hu65 hr
  have hu1 := hu_of hr
  unfold L_law_3
  exact (de_call (cal_plain_dish T) hr rfl T.g_plain_dish takes_lam (da_cons (de_op op_plus pAdd_ok (de_var 7) (de_tup (da_cons de_int da_nil))) da_nil))
abbrev syn_law_4 : Arguments × Expr × Scope := lamE (prtE (expS (stN (blkS (stN (defBody s_law) 2) 0) 19)) 1)
theorem ls_law_4 : LamX.LamS (defScope s_law) syn_law_4.2.2 := LamX.lamS_by (by decide +kernel)
def L_law_4 (Pt : Str → Addr) : Ro → M D := eL G_plain_dish (aCons (eL pList (aCons (eVar 7) (aNil))) (aNil))
theorem lamOk_law_4 (T : Txt K mg base) {A : Around} {outer : List Env} {s : Shared} {H : Hp} {E : XK} : LamK P w K mg base (cxOf (L2.CX P w) P w K mg base nm_law "law" (defScope s_law) (He.ga K "law") (.ref (codA K "law")) A outer s H E) 7 syn_law_4 (L_law_4 (tabA K)) := by
  have S := sc_law
  refine ⟨ls_law_4, fun _ _ _ _ _ => rfl, fun f c' A outer t G E hr => ?_⟩
  have hu5 := hu65 hr
  have hu1 := hu_of hr
  unfold L_law_4
  exact (de_call (cal_plain_dish T) hr rfl T.g_plain_dish takes_lam (da_cons (de_callTy call_list_of pList_ok rfl T.b_list (by decide +kernel) (da_cons (de_var 7) da_nil)) da_nil))
abbrev syn_law_5 : Arguments × Expr × Scope := lamE (prtE (expS (stN (blkS (stN (defBody s_law) 2) 0) 20)) 1)
theorem ls_law_5 : LamX.LamS (defScope s_law) syn_law_5.2.2 := LamX.lamS_by (by decide +kernel)
def L_law_5 (Pt : Str → Addr) : Ro → M D := eL G_lowest (aCons (eTup (aCons (eC (.int 1)) (aCons (eC (.int 0)) (aNil)))) (aNil))
theorem lamOk_law_5 (T : Txt K mg base) {A : Around} {outer : List Env} {s : Shared} {H : Hp} {E : XK} : LamK P w K mg base (cxOf (L2.CX P w) P w K mg base nm_law "law" (defScope s_law) (He.ga K "law") (.ref (codA K "law")) A outer s H E) 7 syn_law_5 (L_law_5 (tabA K)) := by
  have S := sc_law
  refine ⟨ls_law_5, fun _ _ _ _ _ => rfl, fun f c' A outer t G E hr => ?_⟩
  have hu5 := hu65 hr
  have hu1 := hu_of hr
  unfold L_law_5
  exact (de_call (cal_lowest T) hr rfl T.g_lowest takes_lam (da_cons (de_tup (da_cons de_int (da_cons de_int da_nil))) da_nil))
abbrev syn_law_6 : Arguments × Expr × Scope := lamE (prtE (expS (stN (blkS (stN (defBody s_law) 2) 0) 21)) 1)
theorem ls_law_6 : LamX.LamS (defScope s_law) syn_law_6.2.2 := LamX.lamS_by (by decide +kernel)
def L_law_6 (Pt : Str → Addr) : Ro → M D := eL G_lowest (aCons (eTup (aCons (e1 pNeg (eC (.int 1))) (aCons (eC (.int 2)) (aNil)))) (aNil))
theorem lamOk_law_6 (T : Txt K mg base) {A : Around} {outer : List Env} {s : Shared} {H : Hp} {E : XK} : LamK P w K mg base (cxOf (L2.CX P w) P w K mg base nm_law "law" (defScope s_law) (He.ga K "law") (.ref (codA K "law")) A outer s H E) 7 syn_law_6 (L_law_6 (tabA K)) := by
  have S := sc_law
  refine ⟨ls_law_6, fun _ _ _ _ _ => rfl, fun f c' A outer t G E hr => ?_⟩
  have hu5 := hu65 hr
  have hu1 := hu_of hr
  unfold L_law_6
  exact (de_call (cal_lowest T) hr rfl T.g_lowest takes_lam (da_cons (de_tup (da_cons (de_un un_neg pNeg_ok de_int) (da_cons de_int da_nil))) da_nil))
abbrev syn_law_7 : Arguments × Expr × Scope := lamE (prtE (expS (stN (blkS (stN (defBody s_law) 2) 0) 22)) 1)
theorem ls_law_7 : LamX.LamS (defScope s_law) syn_law_7.2.2 := LamX.lamS_by (by decide +kernel)
def L_law_7 (Pt : Str → Addr) : Ro → M D := eL G_mirrored (aCons (eC .non) (aNil))
theorem lamOk_law_7 (T : Txt K mg base) {A : Around} {outer : List Env} {s : Shared} {H : Hp} {E : XK} : LamK P w K mg base (cxOf (L2.CX P w) P w K mg base nm_law "law" (defScope s_law) (He.ga K "law") (.ref (codA K "law")) A outer s H E) 7 syn_law_7 (L_law_7 (tabA K)) := by
  have S := sc_law
  refine ⟨ls_law_7, fun _ _ _ _ _ => rfl, fun f c' A outer t G E hr => ?_⟩
  have hu5 := hu65 hr
  have hu1 := hu_of hr
  unfold L_law_7
  exact (de_call (cal_mirrored T) hr rfl T.g_mirrored takes_lam (da_cons de_non da_nil))
def lams_law (Pt : Str → Addr) : Lams := fun i => match i with
  | 0 => some (syn_law_0, L_law_0 Pt)
  | 1 => some (syn_law_1, L_law_1 Pt)
  | 2 => some (syn_law_2, L_law_2 Pt)
  | 3 => some (syn_law_3, L_law_3 Pt)
  | 4 => some (syn_law_4, L_law_4 Pt)
  | 5 => some (syn_law_5, L_law_5 Pt)
  | 6 => some (syn_law_6, L_law_6 Pt)
  | 7 => some (syn_law_7, L_law_7 Pt)
  | _ => none
theorem lamsOk_law (T : Txt K mg base) {A : Around} {outer : List Env} {s : Shared} {H : Hp} {E : XK} : ∀ i syn fb, lams_law (tabA K) i = some (syn, fb) → LamK P w K mg base (cxOf (L2.CX P w) P w K mg base nm_law "law" (defScope s_law) (He.ga K "law") (.ref (codA K "law")) A outer s H E) 7 syn fb := by
  intro i syn fb h
  unfold lams_law at h
  split at h
  · cases h
    exact lamOk_law_0 T
  · cases h
    exact lamOk_law_1 T
  · cases h
    exact lamOk_law_2 T
  · cases h
    exact lamOk_law_3 T
  · cases h
    exact lamOk_law_4 T
  · cases h
    exact lamOk_law_5 T
  · cases h
    exact lamOk_law_6 T
  · cases h
    exact lamOk_law_7 T
  · cases h
def B_law (Pt : Str → Addr) (cs : Cells) : SF := sSeq (sSet 1 (eL G__law_bag (aCons (eVar 0) (aNil)))) (
sSeq (sIf (tNot' (tV (eL G__law_are_forms_told aNil))) (
sRet (eC (.bl false))) (
sNext)) (
sSeq (sFor (srcR1 (eC (.int 4))) (gN 2) (
sSeq (sSet 3 (eL G__law_dish (aCons (eVar 1) (aCons (eC (.int 1)) (aCons (eL G__law_some (aCons (eVar 1) (aCons (eLst (aCons (eC (.int 3)) (aCons (eC (.int 9)) (aCons (eC (.int 31)) (aNil))))) (aNil)))) (aNil)))))) (
sSeq (sSet 4 (eL pLen (aCons (eVar 3) (aNil)))) (
sSeq (sIf (tOr' (tV (e2 pIsNot (eL G_is_dish (aCons (eVar 3) (aNil))) (eC (.bl true)))) (tV (e2 pNe (eL G_is_plain (aCons (eVar 3) (aNil))) (e2 pEq (eComp (srcI (eVar 3)) (gN 16) (tV (e2 pNe (e2 pIx (eVar 16) (eC (.int 0))) (e2 pIx (eVar 16) (eC (.int 1))))) (eVar 16) [16]) (eLst (aNil)))))) (
sRet (eC (.bl false))) (
sNext)) (
sSeq (sIf (tOr' (tV (e2 pNe (eL pList (aCons (eL G_lows_of (aCons (eVar 3) (aNil))) (aNil))) (eComp (srcI (eVar 3)) (gT 2 (gsCons (gN 17) (gsCons (gN 18) (gsNil)))) (tYes') (eVar 17) [17, 18]))) (tV (e2 pNe (eL pList (aCons (eL G_highs_of (aCons (eVar 3) (aNil))) (aNil))) (eComp (srcI (eVar 3)) (gT 2 (gsCons (gN 17) (gsCons (gN 18) (gsNil)))) (tYes') (eVar 18) [17, 18])))) (
sRet (eC (.bl false))) (
sNext)) (
sSeq (sSet 5 (e2 pSub (eL G__law_take (aCons (eVar 1) (aCons (eC (.int 70)) (aNil)))) (eC (.int 35)))) (
sSeq (sSet 6 (eComp (srcR1 (eVar 4)) (gN 13) (tYes') (e2 pIx (eVar 3) (e2 pMod (eL pInt (aCons (e2 pSub (eVar 13) (eVar 5)) (aNil))) (eVar 4))) [13])) (
sSeq (sIf (tOr' (tV (e2 pNe (eL pList (aCons (eL G_turned_by (aCons (eVar 3) (aCons (eVar 5) (aNil)))) (aNil))) (eVar 6))) (tV (e2 pNe (eL G_turned_by (aCons (eL G_turned_by (aCons (eVar 3) (aCons (eVar 5) (aNil)))) (aCons (e2 pSub (eC (.int 0)) (eVar 5)) (aNil)))) (eVar 3)))) (
sRet (eC (.bl false))) (
sNext)) (
sSeq (sIf (tOr' (tV (e2 pNe (eL pList (aCons (eL G_mirrored (aCons (eVar 3) (aNil))) (aNil))) (eComp (srcR1 (eVar 4)) (gN 13) (tYes') (e2 pIx (eVar 3) (e2 pMod (eL pInt (aCons (e2 pSub (eC (.int 0)) (eVar 13)) (aNil))) (eVar 4))) [13]))) (tV (e2 pNe (eL G_mirrored (aCons (eL G_mirrored (aCons (eVar 3) (aNil))) (aNil))) (eVar 3)))) (
sRet (eC (.bl false))) (
sNext)) (
sSeq (sIf (tV (e2 pNe (eL G_mirrored (aCons (eL G_turned_by (aCons (eVar 3) (aCons (eVar 5) (aNil)))) (aNil))) (eL G_turned_by (aCons (eL G_mirrored (aCons (eVar 3) (aNil))) (aCons (e2 pSub (eC (.int 0)) (eVar 5)) (aNil)))))) (
sRet (eC (.bl false))) (
sNext)) (
sSeq (sSet 7 (eL G_lows_of (aCons (eVar 3) (aNil)))) (
sSeq (sIf (tOr' (tV (e2 pNe (eL G_plain_dish (aCons (eVar 7) (aNil))) (eL pTuple (aCons (eComp (srcI (eVar 7)) (gN 16) (tYes') (eTup (aCons (eVar 16) (aCons (eVar 16) (aNil)))) [16]) (aNil))))) (tV (e2 pIsNot (eL G_is_plain (aCons (eL G_plain_dish (aCons (eVar 7) (aNil))) (aNil))) (eC (.bl true))))) (
sRet (eC (.bl false))) (
sNext)) (
sSeq (sSet 8 (eLst (aCons (eTup (aNil)) (aCons (e2 pMulA (eVar 3) (eC (.int 32))) (aCons (eL pList (aCons (eVar 3) (aNil))) (aCons (e2 pAdd (eVar 3) (eTup (aCons (eTup (aCons (eC (.int 1)) (aCons (eC (.int 0)) (aNil)))) (aNil)))) (aCons (e2 pAdd (eSl (eVar 3) (oNone) (oSome (e1 pNeg (eC (.int 1))))) (eTup (aCons (eC .non) (aNil)))) (aCons (e2 pAdd (eSl (eVar 3) (oNone) (oSome (e1 pNeg (eC (.int 1))))) (eTup (aCons (eTup (aCons (eC (.int 0)) (aCons (eC (.int 10000)) (aNil)))) (aNil)))) (aCons (eC .non) (aNil)))))))))) (
sSeq (sIf (tV (e2 pNe (eComp (srcI (eVar 8)) (gN 14) (tV (e2 pIsNot (eL G_is_dish (aCons (eVar 14) (aNil))) (eC (.bl false)))) (eVar 14) [14]) (eLst (aNil)))) (
sRet (eC (.bl false))) (
sNext)) (
sSeq (sPar3 10 11 12 (aCons (eL G__law_take (aCons (eVar 1) (aCons (eC (.int 99)) (aNil)))) (aCons (e2 pAdd (eC (.int 1)) (eL G__law_take (aCons (eVar 1) (aCons (eC (.int 99)) (aNil))))) (aCons (e2 pAdd (eC (.int 1)) (eL G__law_take (aCons (eVar 1) (aCons (e2 pPow (eC (.int 10)) (eC (.int 9))) (aNil))))) (aNil))))) (
sSeq (sIf (tOr' (tV (e2 pNe (eL G_lowest (aCons (eTup (aCons (eVar 10) (aCons (eVar 11) (aNil)))) (aNil))) (eL G__law_lowest (aCons (eVar 10) (aCons (eVar 11) (aNil)))))) (tV (e2 pNe (eL G_lowest (aCons (eTup (aCons (e2 pMulA (eVar 10) (eVar 12)) (aCons (e2 pMulA (eVar 11) (eVar 12)) (aNil)))) (aNil))) (eL G__law_lowest (aCons (eVar 10) (aCons (eVar 11) (aNil))))))) (
sRet (eC (.bl false))) (
sNext)) (
sSeq (sSet 9 (eNew (aCons (eLam 0 0 (Pt "law") cs "law.<locals>.<lambda>" syn_law_0) (aNil)))) (
sSeq (sExpr (eMeth mAppend (eVar 9) (aCons (eLam 0 1 (Pt "law") cs "law.<locals>.<lambda>" syn_law_1) (aNil)))) (
sSeq (sExpr (eMeth mAppend (eVar 9) (aCons (eLam 0 2 (Pt "law") cs "law.<locals>.<lambda>" syn_law_2) (aNil)))) (
sSeq (sExpr (eMeth mAppend (eVar 9) (aCons (eLam 0 3 (Pt "law") cs "law.<locals>.<lambda>" syn_law_3) (aNil)))) (
sSeq (sExpr (eMeth mAppend (eVar 9) (aCons (eLam 0 4 (Pt "law") cs "law.<locals>.<lambda>" syn_law_4) (aNil)))) (
sSeq (sExpr (eMeth mAppend (eVar 9) (aCons (eLam 0 5 (Pt "law") cs "law.<locals>.<lambda>" syn_law_5) (aNil)))) (
sSeq (sExpr (eMeth mAppend (eVar 9) (aCons (eLam 0 6 (Pt "law") cs "law.<locals>.<lambda>" syn_law_6) (aNil)))) (
sSeq (sExpr (eMeth mAppend (eVar 9) (aCons (eLam 0 7 (Pt "law") cs "law.<locals>.<lambda>" syn_law_7) (aNil)))) (
sIf (tV (e2 pNe (eComp (srcI (eVar 9)) (gN 15) (tNot' (tIsn 15 [15] cs "law.<locals>.<lambda>" (lams_law Pt) ex__law_is_nothing)) (eVar 15) [15]) (eLst (aNil)))) (
sRet (eC (.bl false))) (
sNext)))))))))))))))))))))))))) (
sRet (vAnd (e2 pIs (eL G_is_dish (aCons (e2 pMulA (eTup (aCons (eTup (aCons (eC (.int 1)) (aCons (eC (.int 2)) (aNil)))) (aNil))) (eC (.int 31))) (aNil))) (eC (.bl true))) (e2 pIs (eL G_is_dish (aCons (e2 pMulA (eTup (aCons (eTup (aCons (eC (.int 1)) (aCons (eC (.int 2)) (aNil)))) (aNil))) (eC (.int 32))) (aNil))) (eC (.bl false)))))))
def G_law (Pt : Str → Addr) : Gt := allC fun cs => runF 1 19 (B_law Pt cs)
theorem fn_law (T : Txt K mg base) {fd : FuncData} (F : FunD K "law" "law" (defArgs s_law) (defBody s_law) (defScope s_law) [] [] (He.ga K "law") fd) : FnOk P w K mg base (L2.CX P w) 10 (He.ga K "law") fd ["script"] (spD K (G_law (tabA K))) := by
  have S := sc_law
  refine fn_okC (k := 9) F S fun A outer s H E hr => ?_
  have hu5 := hu65 hr
  have hu1 := hu_of hr
  unfold B_law
  exact (dss_cons (ds_set 1 S.nd (de_call (cal__law_bag T) hr rfl T.g__law_bag takes_cx (da_cons (de_var 0) da_nil)))
 (dss_cons (ds_if (dt_not (dt_val (de_call0 (cal__law_are_forms_told T) hr rfl T.g__law_are_forms_told takes_cx))) (dss_one (ds_ret de_bl)) dss_nil)
 (dss_cons (ds_for passes_cx rfl (di_range1 rfl T.b_range de_int) (dg_name 2 S.nd)
 (dss_cons (ds_set 3 S.nd (de_call (cal__law_dish T) hr rfl T.g__law_dish takes_cx (da_cons (de_var 1) (da_cons de_int (da_cons (de_call (cal__law_some T) hr rfl T.g__law_some takes_cx (da_cons (de_var 1) (da_cons (de_lst (da_cons de_int (da_cons de_int (da_cons de_int da_nil)))) da_nil))) da_nil)))))
 (dss_cons (ds_set 4 S.nd (de_callB call_len_seq pLen_ok rfl T.b_len (by decide +kernel) (da_cons (de_var 3) da_nil)))
 (dss_cons (ds_if (DW.dt (dw_or (dt_cmp op_isNotA pIsNot_ok (de_call (cal_is_dish T) hr rfl T.g_is_dish takes_cx (da_cons (de_var 3) da_nil)) de_bl) (dw_or1 (dt_cmp (op_neD hr.units) pNe_ok (de_call (cal_is_plain T) hr rfl T.g_is_plain takes_cx (da_cons (de_var 3) da_nil)) (de_cmp (op_eqD hr.units) pEq_ok (de_comp (own := [("one", 16)]) rfl S.nd (di_any (de_var 3)) (blkOk_by (own := [("one", 16)]) (N := nm_law) (sc := defScope s_law) (by decide +kernel)) (fun _ _ _ _ _ => (dg_name 16 S.nd)) (fun _ _ _ _ _ => (dts_one (dt_cmp (op_neD hr.units) pNe_ok (de_ix ix_seq pIx_ok (de_var 16) de_int) (de_ix ix_seq pIx_ok (de_var 16) de_int)))) (fun _ _ _ _ _ => (de_var 16))) (de_lst da_nil)))))) (dss_one (ds_ret de_bl)) dss_nil)
 (dss_cons (ds_if (DW.dt (dw_or (dt_cmp (op_neD hr.units) pNe_ok (de_callTy call_list_of pList_ok rfl T.b_list (by decide +kernel) (da_cons (de_call (cal_lows_of T) hr rfl T.g_lows_of takes_cx (da_cons (de_var 3) da_nil)) da_nil)) (de_comp (own := [("low", 17), ("high", 18)]) rfl S.nd (di_any (de_var 3)) (blkOk_by (own := [("low", 17), ("high", 18)]) (N := nm_law) (sc := defScope s_law) (by decide +kernel)) (fun _ _ _ _ _ => (dg_tup rfl (dgs_cons (dg_name 17 S.nd) (dgs_cons (dg_name 18 S.nd) dgs_nil)))) (fun _ _ _ _ _ => dts_nil) (fun _ _ _ _ _ => (de_var 17)))) (dw_or1 (dt_cmp (op_neD hr.units) pNe_ok (de_callTy call_list_of pList_ok rfl T.b_list (by decide +kernel) (da_cons (de_call (cal_highs_of T) hr rfl T.g_highs_of takes_cx (da_cons (de_var 3) da_nil)) da_nil)) (de_comp (own := [("low", 17), ("high", 18)]) rfl S.nd (di_any (de_var 3)) (blkOk_by (own := [("low", 17), ("high", 18)]) (N := nm_law) (sc := defScope s_law) (by decide +kernel)) (fun _ _ _ _ _ => (dg_tup rfl (dgs_cons (dg_name 17 S.nd) (dgs_cons (dg_name 18 S.nd) dgs_nil)))) (fun _ _ _ _ _ => dts_nil) (fun _ _ _ _ _ => (de_var 18))))))) (dss_one (ds_ret de_bl)) dss_nil)
 (dss_cons (ds_set 5 S.nd (de_op op_sub pSub_ok (de_call (cal__law_take T) hr rfl T.g__law_take takes_cx (da_cons (de_var 1) (da_cons de_int da_nil))) de_int))
 (dss_cons (ds_setComp (own := [("place", 13)]) 6 rfl S.nd rfl rfl (sw_true rfl rfl rfl (by decide +kernel)) (di_range1 rfl T.b_range (de_var 4)) (blkOk_by (own := [("place", 13)]) (N := nm_law) (sc := defScope s_law) (by decide +kernel)) (fun _ _ _ _ _ => (dg_name 13 S.nd)) (fun _ _ _ _ _ => dts_nil) (fun _ _ _ _ _ => (de_ix ix_seq pIx_ok (de_var 3) (de_op op_mod pMod_ok (de_callTy call_int1 pInt_ok rfl T.b_int (by decide +kernel) (da_cons (de_op op_sub pSub_ok (de_var 13) (de_var 5)) da_nil)) (de_var 4)))))
 (dss_cons (ds_if (DW.dt (dw_or (dt_cmp (op_neD hr.units) pNe_ok (de_callTy call_list_of pList_ok rfl T.b_list (by decide +kernel) (da_cons (de_call (cal_turned_by T) hr rfl T.g_turned_by takes_cx (da_cons (de_var 3) (da_cons (de_var 5) da_nil))) da_nil)) (de_var 6)) (dw_or1 (dt_cmp (op_neD hr.units) pNe_ok (de_call (cal_turned_by T) hr rfl T.g_turned_by takes_cx (da_cons (de_call (cal_turned_by T) hr rfl T.g_turned_by takes_cx (da_cons (de_var 3) (da_cons (de_var 5) da_nil))) (da_cons (de_op op_sub pSub_ok de_int (de_var 5)) da_nil))) (de_var 3))))) (dss_one (ds_ret de_bl)) dss_nil)
 (dss_cons (ds_if (DW.dt (dw_or (dt_cmp (op_neD hr.units) pNe_ok (de_callTy call_list_of pList_ok rfl T.b_list (by decide +kernel) (da_cons (de_call (cal_mirrored T) hr rfl T.g_mirrored takes_cx (da_cons (de_var 3) da_nil)) da_nil)) (de_comp (own := [("place", 13)]) rfl S.nd (di_range1 rfl T.b_range (de_var 4)) (blkOk_by (own := [("place", 13)]) (N := nm_law) (sc := defScope s_law) (by decide +kernel)) (fun _ _ _ _ _ => (dg_name 13 S.nd)) (fun _ _ _ _ _ => dts_nil) (fun _ _ _ _ _ => (de_ix ix_seq pIx_ok (de_var 3) (de_op op_mod pMod_ok (de_callTy call_int1 pInt_ok rfl T.b_int (by decide +kernel) (da_cons (de_op op_sub pSub_ok de_int (de_var 13)) da_nil)) (de_var 4)))))) (dw_or1 (dt_cmp (op_neD hr.units) pNe_ok (de_call (cal_mirrored T) hr rfl T.g_mirrored takes_cx (da_cons (de_call (cal_mirrored T) hr rfl T.g_mirrored takes_cx (da_cons (de_var 3) da_nil)) da_nil)) (de_var 3))))) (dss_one (ds_ret de_bl)) dss_nil)
 (dss_cons (ds_if (dt_cmp (op_neD hr.units) pNe_ok (de_call (cal_mirrored T) hr rfl T.g_mirrored takes_cx (da_cons (de_call (cal_turned_by T) hr rfl T.g_turned_by takes_cx (da_cons (de_var 3) (da_cons (de_var 5) da_nil))) da_nil)) (de_call (cal_turned_by T) hr rfl T.g_turned_by takes_cx (da_cons (de_call (cal_mirrored T) hr rfl T.g_mirrored takes_cx (da_cons (de_var 3) da_nil)) (da_cons (de_op op_sub pSub_ok de_int (de_var 5)) da_nil)))) (dss_one (ds_ret de_bl)) dss_nil)
 (dss_cons (ds_set 7 S.nd (de_call (cal_lows_of T) hr rfl T.g_lows_of takes_cx (da_cons (de_var 3) da_nil)))
 (dss_cons (ds_if (DW.dt (dw_or (dt_cmp (op_neD hr.units) pNe_ok (de_call (cal_plain_dish T) hr rfl T.g_plain_dish takes_cx (da_cons (de_var 7) da_nil)) (de_callTy call_tuple_of pTuple_ok rfl T.b_tuple (by decide +kernel) (da_cons (de_comp (own := [("one", 16)]) rfl S.nd (di_any (de_var 7)) (blkOk_by (own := [("one", 16)]) (N := nm_law) (sc := defScope s_law) (by decide +kernel)) (fun _ _ _ _ _ => (dg_name 16 S.nd)) (fun _ _ _ _ _ => dts_nil) (fun _ _ _ _ _ => (de_tup (da_cons (de_var 16) (da_cons (de_var 16) da_nil))))) da_nil))) (dw_or1 (dt_cmp op_isNotA pIsNot_ok (de_call (cal_is_plain T) hr rfl T.g_is_plain takes_cx (da_cons (de_call (cal_plain_dish T) hr rfl T.g_plain_dish takes_cx (da_cons (de_var 7) da_nil)) da_nil)) de_bl)))) (dss_one (ds_ret de_bl)) dss_nil)
 (dss_cons (ds_set 8 S.nd (de_lst (da_cons (de_tup da_nil) (da_cons (de_op op_mulA pMulA_ok (de_var 3) de_int) (da_cons (de_callTy call_list_of pList_ok rfl T.b_list (by decide +kernel) (da_cons (de_var 3) da_nil)) (da_cons (de_op op_plus pAdd_ok (de_var 3) (de_tup (da_cons (de_tup (da_cons de_int (da_cons de_int da_nil))) da_nil))) (da_cons (de_op op_plus pAdd_ok (de_slice (de_var 3) do_none (do_some (de_un un_neg pNeg_ok de_int))) (de_tup (da_cons de_non da_nil))) (da_cons (de_op op_plus pAdd_ok (de_slice (de_var 3) do_none (do_some (de_un un_neg pNeg_ok de_int))) (de_tup (da_cons (de_tup (da_cons de_int (da_cons de_int da_nil))) da_nil))) (da_cons de_non da_nil)))))))))
 (dss_cons (ds_if (dt_cmp (op_neD hr.units) pNe_ok (de_comp (own := [("bent", 14)]) rfl S.nd (di_any (de_var 8)) (blkOk_by (own := [("bent", 14)]) (N := nm_law) (sc := defScope s_law) (by decide +kernel)) (fun _ _ _ _ _ => (dg_name 14 S.nd)) (fun _ _ _ _ _ => (dts_one (dt_cmp op_isNotA pIsNot_ok (de_call (cal_is_dish T) hr rfl T.g_is_dish Dn.takes0 (da_cons (de_var 14) da_nil)) de_bl))) (fun _ _ _ _ _ => (de_var 14))) (de_lst da_nil)) (dss_one (ds_ret de_bl)) dss_nil)
 (dss_cons (ds_par3 10 11 12 rfl S.nd (da_cons (de_call (cal__law_take T) hr rfl T.g__law_take takes_cx (da_cons (de_var 1) (da_cons de_int da_nil))) (da_cons (de_op op_plus pAdd_ok de_int (de_call (cal__law_take T) hr rfl T.g__law_take takes_cx (da_cons (de_var 1) (da_cons de_int da_nil)))) (da_cons (de_op op_plus pAdd_ok de_int (de_call (cal__law_take T) hr rfl T.g__law_take takes_cx (da_cons (de_var 1) (da_cons (de_op op_pow pPow_ok de_int de_int) da_nil)))) da_nil))))
 (dss_cons (ds_if (DW.dt (dw_or (dt_cmp (op_neD hr.units) pNe_ok (de_call (cal_lowest T) hr rfl T.g_lowest takes_cx (da_cons (de_tup (da_cons (de_var 10) (da_cons (de_var 11) da_nil))) da_nil)) (de_call (cal__law_lowest T) hr rfl T.g__law_lowest takes_cx (da_cons (de_var 10) (da_cons (de_var 11) da_nil)))) (dw_or1 (dt_cmp (op_neD hr.units) pNe_ok (de_call (cal_lowest T) hr rfl T.g_lowest takes_cx (da_cons (de_tup (da_cons (de_op op_mulA pMulA_ok (de_var 10) (de_var 12)) (da_cons (de_op op_mulA pMulA_ok (de_var 11) (de_var 12)) da_nil))) da_nil)) (de_call (cal__law_lowest T) hr rfl T.g__law_lowest takes_cx (da_cons (de_var 10) (da_cons (de_var 11) da_nil))))))) (dss_one (ds_ret de_bl)) dss_nil)
 (dss_cons (ds_set 9 S.nd (de_new (da_cons (de_lam 0 0 T.t_law rfl rfl rfl ls_law_0) da_nil)))
 (dss_cons (ds_expr (de_meth PySem.F.slot_list_append PySem.F.type_list_append mt_append mAppend_ok (de_var 9) (da_cons (de_lam 0 1 T.t_law rfl rfl rfl ls_law_1) da_nil)))
 (dss_cons (ds_expr (de_meth PySem.F.slot_list_append PySem.F.type_list_append mt_append mAppend_ok (de_var 9) (da_cons (de_lam 0 2 T.t_law rfl rfl rfl ls_law_2) da_nil)))
 (dss_cons (ds_expr (de_meth PySem.F.slot_list_append PySem.F.type_list_append mt_append mAppend_ok (de_var 9) (da_cons (de_lam 0 3 T.t_law rfl rfl rfl ls_law_3) da_nil)))
 (dss_cons (ds_expr (de_meth PySem.F.slot_list_append PySem.F.type_list_append mt_append mAppend_ok (de_var 9) (da_cons (de_lam 0 4 T.t_law rfl rfl rfl ls_law_4) da_nil)))
 (dss_cons (ds_expr (de_meth PySem.F.slot_list_append PySem.F.type_list_append mt_append mAppend_ok (de_var 9) (da_cons (de_lam 0 5 T.t_law rfl rfl rfl ls_law_5) da_nil)))
 (dss_cons (ds_expr (de_meth PySem.F.slot_list_append PySem.F.type_list_append mt_append mAppend_ok (de_var 9) (da_cons (de_lam 0 6 T.t_law rfl rfl rfl ls_law_6) da_nil)))
 (dss_cons (ds_expr (de_meth PySem.F.slot_list_append PySem.F.type_list_append mt_append mAppend_ok (de_var 9) (da_cons (de_lam 0 7 T.t_law rfl rfl rfl ls_law_7) da_nil)))
 (dss_one (ds_if (dt_cmp (op_neD hr.units) pNe_ok (de_acts (own := [("act", 15)]) (j := 15) (k := 7) rfl S.nd (di_any (de_var 9)) (blkOk_by (own := [("act", 15)]) (N := nm_law) (sc := defScope s_law) (by decide +kernel)) (fun _ _ _ _ _ => (dg_name 15 S.nd)) T.isn__law_is_nothing rfl rfl (hr.mono (by decide)) (lamsOk_law T) (fun _ _ _ _ _ => (de_var 15)) (fun _ _ _ _ _ => rfl) (hv := fun _ _ => Or.inl rfl)) (de_lst da_nil)) (dss_one (ds_ret de_bl)) dss_nil))))))))))))))))))))))))))
 (dss_one (ds_ret (de_and (de_cmp op_isA pIs_ok (de_call (cal_is_dish T) hr rfl T.g_is_dish takes_cx (da_cons (de_op op_mulA pMulA_ok (de_tup (da_cons (de_tup (da_cons de_int (da_cons de_int da_nil))) da_nil)) de_int) da_nil)) de_bl) (de_one (de_cmp op_isA pIs_ok (de_call (cal_is_dish T) hr rfl T.g_is_dish takes_cx (da_cons (de_op op_mulA pMulA_ok (de_tup (da_cons (de_tup (da_cons de_int (da_cons de_int da_nil))) da_nil)) de_int) da_nil)) de_bl))))))))

/-- the defs that make lambdas -/
def tf : List (Str × Str) := [("law", "law.<locals>.<lambda>")]
end
end
end K00

set_option Elab.async false
set_option linter.all false
set_option maxRecDepth 100000
set_option maxHeartbeats 4000000
/-! k00: the defs as functions. -/
namespace K00
open PySem PySem.Spec L2 Dn
open PyProof.Rows hiding St

/-! ### the bag -/
abbrev bagO (a b c : Int) (cells : List Int) : MO := .lst [.int a, .int b, .int c, .lst (cells.map D.int)]
/-- the next cell: an int -/
theorem cut_int (l : List Int) (lo hi : Option Int) : ∃ l' : List Int, Dn.cutD (l.map D.int) lo hi = l'.map D.int ∧ l'.length ≤ l.length := by
  refine ⟨(l.drop (HT.sIx l.length 0 lo)).take (HT.sIx l.length l.length hi - HT.sIx l.length 0 lo), ?_, ?_⟩
  · unfold Dn.cutD
    rw [List.length_map, List.map_take, List.map_drop]
  · rw [List.length_take, List.length_drop]
    omega
theorem take_w {P : D → Mu → Prop} {μ : Mu} {n : Nat} {a b c m : Int} {cells : List Int} (hn : μ[n]? = some (bagO a b c cells)) (hl : cells.length ≤ 1000) (hm : 0 < m) (hm2 : m < 1000000000000)
    (k : ∀ v a' b' c', 0 ≤ v → v < m → P (.int v) (μ.set n (bagO a' b' c' cells))) : wM (G__law_take [.loc n, .int m]) μ P := by
  have hlt : n < μ.length := (List.getElem?_eq_some_iff.mp hn).1
  unfold G__law_take
  refine runF_w rfl ?_
  unfold B__law_take
  refine wS_seq.mpr (wS_mono (N := fun ρ' μ' => ∃ x4 x5 a b c, ρ' = [some (.loc n), some (.int m), none, none, x4, x5, none] ∧ μ' = μ.set n (bagO a b c cells)) (T := fun _ _ => False) (B := fun _ _ => False) (C := fun _ _ => False) ?_ ?_ (fun _ _ z => z.elim) (fun _ _ z => z.elim) (fun _ _ z => z.elim))
  · simp
    refine wM_ixLoc hn rfl ?_
    simp
    split
    case isFalse => exact ⟨a, b, c, (set_same hn).symm⟩
    case isTrue =>
      refine wM_ixLoc hn rfl ?_
      refine wM_ixLoc hn rfl ?_
      simp
      obtain ⟨l', e', hl'⟩ := cut_int cells (some c) none
      rw [e']
      rw [if_pos (by simp; omega)]
      try simp
      have hd : ∃ cell, atI (l'.map D.int ++ [D.int 0]) 0 = some (D.int cell) := by
        cases l' with
        | nil => exact ⟨0, rfl⟩
        | cons z r => exact ⟨z, atI_of (by omega) (by simp)⟩
      obtain ⟨cell, hd⟩ := hd
      rw [hd]
      try simp
      refine wS_augL ?_
      try simp
      refine wM_of (pIxL_loc hn rfl) ?_
      try simp
      refine putAt (j := 2) hn rfl ?_
      try simp
      have hb : ∀ a b c, (μ.set n (bagO a b c cells))[n]? = some (bagO a b c cells) := fun _ _ _ => List.getElem?_set_self hlt
      refine wM_pow (n := 18) (by decide) (by decide) ?_
      try simp
      split
      · refine wS_put ?_
        try simp
        refine putAt (j := 0) (hb a b (c + 1)) rfl ?_
        try simp
        refine wM_ixLoc (hb cell b (c + 1)) rfl ?_
        refine wM_mulA (.inr (by omega)) ?_
        try simp
        refine wM_mod (by omega) ?_
        try simp
        refine wM_ixLoc (hb cell b (c + 1)) rfl ?_
        refine wM_mulA (.inl (by omega)) ?_
        try simp
        refine wS_put ?_
        try simp
        refine wM_mod (by omega) ?_
        refine putAt (j := 1) (hb cell b (c + 1)) rfl ?_
        try simp
        exact ⟨cell, _, c + 1, rfl⟩
      · refine wM_ixLoc (hb a b (c + 1)) rfl ?_
        refine wM_mulA (.inr (by omega)) ?_
        try simp
        refine wM_mod (by omega) ?_
        try simp
        refine wM_ixLoc (hb a b (c + 1)) rfl ?_
        refine wM_mulA (.inl (by omega)) ?_
        try simp
        refine wS_put ?_
        try simp
        refine wM_mod (by omega) ?_
        refine putAt (j := 1) (hb a b (c + 1)) rfl ?_
        try simp
        exact ⟨a, _, c + 1, rfl⟩
  · rintro ρ' μ' ⟨x4, x5, a, b, c, rfl, rfl⟩
    have hb : ∀ a b c, (μ.set n (bagO a b c cells))[n]? = some (bagO a b c cells) := fun _ _ _ => List.getElem?_set_self hlt
    have m1 : ∀ i : Int, 0 ≤ i % m ∧ i % m < m := fun i => ⟨Int.emod_nonneg i (by omega), Int.emod_lt_of_pos i hm⟩
    simp
    refine wM_ixLoc (hb a b c) rfl ?_
    simp
    split
    · refine wM_ixLoc (hb a b c) rfl ?_
      simp
      refine wM_mod hm ?_
      refine wS_put ?_
      simp
      refine wM_ixLoc (hb a b c) rfl ?_
      simp
      refine wM_div hm (by omega) ?_
      refine putAt (j := 0) (hb a b c) rfl ?_
      simp
      exact k _ _ _ _ (m1 a).1 (m1 a).2
    · refine wM_ixLoc (hb a b c) rfl ?_
      simp
      refine wM_mulA (.inr (by omega)) ?_
      simp
      refine wM_mod (by omega) ?_
      have b1 := Int.emod_nonneg ((b + 1) * 39373) (show (1000000007 : Int) ≠ 0 by omega)
      have b2 := Int.emod_lt_of_pos ((b + 1) * 39373) (show (0 : Int) < 1000000007 by omega)
      refine wM_mulA (.inl (by omega)) ?_
      simp
      refine wM_mod (by omega) ?_
      refine wM_mulA (.inr (by omega)) ?_
      simp
      refine wM_mod (by omega) ?_
      refine wM_div (by omega) (by omega) ?_
      simp
      refine wM_mod hm ?_
      simp
      exact k _ _ _ _ (m1 _).1 (m1 _).2
end K00
namespace K00
open PySem PySem.Spec L2 Dn
open PyProof.Rows hiding St
/-! ### the tests -/
theorem is_integer_int (i : Int) (μ : Mu) : G_is_integer [.int i] μ = some (.ok (.bl true) μ) := eq_of_w (runF_w rfl (by simp [B_is_integer]))
theorem is_integer_non (μ : Mu) : G_is_integer [.non] μ = some (.ok (.bl false) μ) := eq_of_w (runF_w rfl (by simp [B_is_integer]))
theorem is_between_int (i lo hi : Int) (μ : Mu) : G_is_between [.int i, .int lo, .int hi] μ = some (.ok (.bl (decide (lo ≤ i ∧ i ≤ hi))) μ) := eq_of_w (runF_w rfl (by
  simp [B_is_between, wM_eq (is_integer_int _ _)]
  by_cases h : lo ≤ i <;> simp [h]))
theorem is_between_non (lo hi : Int) (μ : Mu) : G_is_between [.non, .int lo, .int hi] μ = some (.ok (.bl false) μ) := eq_of_w (runF_w rfl (by simp [B_is_between, wM_eq (is_integer_non _)]))
theorem is_sized_tup (l : List D) (n : Int) (μ : Mu) : G_is_sized [.tup l, .int n] μ = some (.ok (.bl (decide ((l.length : Int) = n))) μ) := eq_of_w (runF_w rfl (by simp [B_is_sized]))
theorem is_sized_non (n : Int) (μ : Mu) : G_is_sized [.non, .int n] μ = some (.ok (.bl false) μ) := eq_of_w (runF_w rfl (by simp [B_is_sized]))
theorem is_sized_lst (l : List D) (n : Int) (μ : Mu) : G_is_sized [.lst l, .int n] μ = some (.ok (.bl false) μ) := eq_of_w (runF_w rfl (by simp [B_is_sized]))
theorem is_piece_pair (a b : Int) (μ : Mu) : G_is_piece [.tup [.int a, .int b]] μ = some (.ok (.bl (decide (0 ≤ a ∧ a ≤ 9999 ∧ 0 ≤ b ∧ b ≤ 9999 ∧ a ≤ b))) μ) := eq_of_w (runF_w rfl (by
  simp [B_is_piece, wM_eq (is_sized_tup _ _ _), wM_eq (is_between_int _ _ _ _)]
  by_cases h : (0 ≤ a ∧ a ≤ 9999) ∧ 0 ≤ b ∧ b ≤ 9999
  · simp [h]
    try omega
  · simp [h]
    try omega))
theorem is_piece_non (μ : Mu) : G_is_piece [.non] μ = some (.ok (.bl false) μ) := eq_of_w (runF_w rfl (by simp [B_is_piece, wM_eq (is_sized_non _ _)]))
/-- a row all of whose items pass -/
theorem tup_of {x : Str} {G : Gt} {l : List D} {f : D → Bool} (h : ∀ d ∈ l, ∀ μ, G [d] μ = some (.ok (.bl (f d)) μ)) (hl : l.length ≤ 1000000) (μ : Mu) : G_is_tuple_of (phi1 x G) [.tup l, .fn x] μ = some (.ok (.bl (l.all f)) μ) := eq_of_w (runF_w rfl (by
  simp only [B_is_tuple_of, wS_ret, vAnd_ap, eIsi_ap, eL_ap, aCons_ap, aNil_ap, startRo_ap, List.map_cons, List.map_nil, List.length_cons, List.length_nil, List.replicate, List.cons_append, List.nil_append, eVar_0, M.of_some, M.ret_bnd, isi_tuple_tup, asB_bl, wM_bnd, wM_ret, if_true]
  refine wM_map (fun d => .bl (f d)) ?_
  simp
  refine ⟨hl, fun d hd => ?_, ?_⟩
  · unfold eCallV
    simp [phi1, bnd_ok (h d hd _), h d hd]
  · have e : l.map (fun d => D.bl (f d)) = (l.map f).map D.bl := by rw [List.map_map] <;> rfl
    rw [e, pAllL_map]
    simp [List.all_map]))
theorem tup_of_non {Φ : Phi} {d : D} {T : Str} (h : isTM "tuple" d = M.ret false) (μ : Mu) : G_is_tuple_of Φ [d, .fn T] μ = some (.ok (.bl false) μ) := eq_of_w (runF_w rfl (by simp [B_is_tuple_of, h]))
theorem is_dish_of {l : List D} {f : D → Bool} (h : ∀ d ∈ l, ∀ μ, G_is_piece [d] μ = some (.ok (.bl (f d)) μ)) (hl : l.length ≤ 1000000) (μ : Mu) : G_is_dish [.tup l] μ = some (.ok (.bl (l.all f && decide (1 ≤ l.length ∧ l.length ≤ 31))) μ) := eq_of_w (runF_w rfl (by
  simp [B_is_dish, wM_eq (tup_of h hl _)]
  by_cases c : ∀ x : D, x ∈ l → f x = true
  · rw [if_pos c]
    have ca : l.all f = true := List.all_eq_true.mpr c
    by_cases c2 : 1 ≤ l.length
    · rw [if_pos (by omega)]
      simp [ca, c2]
      omega
    · rw [if_neg (by omega)]
      simp [ca, c2]
  · rw [if_neg c]
    have ca : l.all f = false := by
      cases q : l.all f with
      | false => rfl
      | true => exact absurd (List.all_eq_true.mp q) c
    simp [ca]))
theorem is_dish_non (μ : Mu) : G_is_dish [.non] μ = some (.ok (.bl false) μ) := eq_of_w (runF_w rfl (by simp [B_is_dish, wM_eq (tup_of_non isi_tuple_non _)]))
theorem is_dish_lst (l : List D) (μ : Mu) : G_is_dish [.lst l] μ = some (.ok (.bl false) μ) := eq_of_w (runF_w rfl (by simp [B_is_dish, wM_eq (tup_of_non isi_tuple_lst _)]))
theorem check_ok {d : D} {μ : Mu} (h : G_is_dish [d] μ = some (.ok (.bl true) μ)) : G_check_dish [d] μ = some (.ok .non μ) := eq_of_w (runF_w rfl (by simp [B_check_dish, wM_eq h]))
theorem check_no {d : D} {μ : Mu} (h : G_is_dish [d] μ = some (.ok (.bl false) μ)) : G_check_dish [d] μ = some (.ex "Nothing" μ) := by
  simp [G_check_dish, B_check_dish, runF, sIf, bndS, M.bnd_bnd, bnd_ok h, sRaise, finX]
/-! ### dishes as data -/
abbrev Pc := Int × Int
def pcD (p : Pc) : D := .tup [.int p.1, .int p.2]
def dishD (l : List Pc) : D := .tup (l.map pcD)
def OkPc (p : Pc) : Prop := 0 ≤ p.1 ∧ p.1 ≤ p.2 ∧ p.2 ≤ 9999
structure OkDish (l : List Pc) : Prop where
  pc : ∀ p ∈ l, OkPc p
  lo : 1 ≤ l.length
  hi : l.length ≤ 31
/-- what is_piece says of pairs of ints and of None -/
def pcF : D → Bool
  | .tup [.int a, .int b] => decide (0 ≤ a ∧ a ≤ 9999 ∧ 0 ≤ b ∧ b ≤ 9999 ∧ a ≤ b)
  | _ => false
theorem pcF_ok {l : List Pc} {r : List D} (h : ∀ d ∈ r, d = .non ∨ ∃ p : Pc, d = pcD p) : ∀ d ∈ l.map pcD ++ r, ∀ μ, G_is_piece [d] μ = some (.ok (.bl (pcF d)) μ) := by
  intro d hd μ
  have : d = .non ∨ ∃ p : Pc, d = pcD p := by
    rcases List.mem_append.mp hd with hd | hd
    · obtain ⟨p, _, rfl⟩ := List.mem_map.mp hd
      exact .inr ⟨p, rfl⟩
    · exact h d hd
  rcases this with rfl | ⟨p, rfl⟩
  · exact is_piece_non μ
  · exact is_piece_pair p.1 p.2 μ
theorem pcF_pc {p : Pc} (h : OkPc p) : pcF (pcD p) = true := decide_eq_true ⟨h.1, by have := h.2.1; have := h.2.2; omega, by have := h.1; have := h.2.1; omega, h.2.2, h.2.1⟩
theorem all_pc {l : List Pc} (h : ∀ p ∈ l, OkPc p) : (l.map pcD).all pcF = true := List.all_eq_true.mpr fun d hd => by
  obtain ⟨p, hp, rfl⟩ := List.mem_map.mp hd
  exact pcF_pc (h p hp)
theorem is_dish_D {l : List Pc} (h : OkDish l) (μ : Mu) : G_is_dish [dishD l] μ = some (.ok (.bl true) μ) := by
  have hl := h.hi
  have e := is_dish_of (l := l.map pcD) (f := pcF) (by simpa using pcF_ok (l := l) (r := []) (by simp)) (by rw [List.length_map]; omega) μ
  rw [all_pc h.pc, List.length_map, decide_eq_true ⟨h.lo, h.hi⟩] at e
  exact e
theorem check_D {l : List Pc} (h : OkDish l) (μ : Mu) : G_check_dish [dishD l] μ = some (.ok .non μ) := check_ok (is_dish_D h μ)
theorem lows_D {l : List Pc} (h : OkDish l) (μ : Mu) : G_lows_of [dishD l] μ = some (.ok (.tup (l.map fun p => .int p.1)) μ) := eq_of_w (runF_w rfl (by
  have hl := h.hi
  simp [B_lows_of, wM_eq (check_D h _), -eComp_ap]
  refine wM_mapm (l := l) (hD := pcD) (fun p => .int p.1) (by simp [dishD]) (by omega) (fun p _ => ⟨_, rfl, by simp [pcD]⟩) ?_
  simp))
theorem highs_D {l : List Pc} (h : OkDish l) (μ : Mu) : G_highs_of [dishD l] μ = some (.ok (.tup (l.map fun p => .int p.2)) μ) := eq_of_w (runF_w rfl (by
  have hl := h.hi
  simp [B_highs_of, wM_eq (check_D h _), -eComp_ap]
  refine wM_mapm (l := l) (hD := pcD) (fun p => .int p.2) (by simp [dishD]) (by omega) (fun p _ => ⟨_, rfl, by simp [pcD]⟩) ?_
  simp))
theorem plain_D {l : List Pc} (h : OkDish l) (μ : Mu) : G_is_plain [dishD l] μ = some (.ok (.bl (l.all fun p => decide (p.1 = p.2))) μ) := eq_of_w (runF_w rfl (by
  have hl := h.hi
  simp [B_is_plain, wM_eq (check_D h _), -eComp_ap]
  refine wM_mapm (l := l) (hD := pcD) (fun p => .bl (decide (p.1 = p.2))) (by simp [dishD]) (by omega) (fun p _ => ⟨_, rfl, by simp [pcD]⟩) ?_
  have e : l.map (fun p => D.bl (decide (p.1 = p.2))) = (l.map fun p => decide (p.1 = p.2)).map D.bl := by rw [List.map_map] <;> rfl
  rw [e, pAllL_map]
  simp))
/-! ### turned, mirrored -/
def pick (l : List Pc) (f : Int → Int) : List Pc := (List.range l.length).map fun i : Nat => l.getD (f i % (l.length : Int)).toNat (0, 0)
theorem pick_len (l : List Pc) (f : Int → Int) : (pick l f).length = l.length := by
  unfold pick
  rw [List.length_map, List.length_range]
theorem mod_ok {n : Nat} (h : 1 ≤ n) (i : Int) : 0 ≤ i % (n : Int) ∧ (i % (n : Int)).toNat < n := by
  have h1 := Int.emod_nonneg i (show (n : Int) ≠ 0 by omega)
  have h2 := Int.emod_lt_of_pos i (show (0 : Int) < n by omega)
  omega
theorem at_pick {l : List Pc} (h : OkDish l) (i : Int) : atI (l.map pcD) (i % (l.length : Int)) = some (pcD (l.getD (i % (l.length : Int)).toNat (0, 0))) := by
  obtain ⟨h1, h2⟩ := mod_ok h.lo i
  refine atI_of h1 ?_
  rw [List.getElem?_map, List.getD_eq_getElem?_getD, List.getElem?_eq_getElem h2]
  rfl
theorem pick_ok {l : List Pc} (h : OkDish l) (f : Int → Int) : OkDish (pick l f) := by
  refine ⟨fun p hp => ?_, by rw [pick_len]; exact h.lo, by rw [pick_len]; exact h.hi⟩
  obtain ⟨i, _, rfl⟩ := List.mem_map.mp hp
  obtain ⟨_, h2⟩ := mod_ok h.lo (f i)
  rw [List.getD_eq_getElem?_getD, List.getElem?_eq_getElem h2]
  exact h.pc _ (List.getElem_mem _)
theorem turned_D {l : List Pc} (h : OkDish l) (by_ : Int) (μ : Mu) : G_turned_by [dishD l, .int by_] μ = some (.ok (dishD (pick l fun i => i - by_)) μ) := eq_of_w (runF_w rfl (by
  have hl := h.hi
  have hlo := h.lo
  simp [B_turned_by, wM_eq (check_D h _), wM_eq (is_integer_int _ _), -eComp_ap]
  refine wM_mapm (l := List.range l.length) (hD := fun i : Nat => D.int (i : Nat)) (fun i => pcD (l.getD (((i : Int) - by_) % (l.length : Int)).toNat (0, 0))) ?_ (by simp; omega) (fun i hi => ⟨_, rfl, ?_⟩) ?_
  · rw [← rangeD_map]
    refine (srcR1_int (μ' := μ) (n := (l.length : Int)) ?_ (by omega) (by omega)).trans (by simp)
    simp [dishD]
  · simp [dishD, pMod_int (show (0 : Int) < l.length by omega), at_pick h]
  · simp [dishD, pick]))
theorem turned_non {l : List Pc} (h : OkDish l) (μ : Mu) : G_turned_by [dishD l, .non] μ = some (.ex "Nothing" μ) := by
  simp [G_turned_by, B_turned_by, runF, sSeq, sExpr, sIf, bndS, M.bnd_bnd, check_D h, bnd_ok (is_integer_non _), sRaise, finX]
theorem mirrored_D {l : List Pc} (h : OkDish l) (μ : Mu) : G_mirrored [dishD l] μ = some (.ok (dishD (pick l fun i => -i)) μ) := eq_of_w (runF_w rfl (by
  have hl := h.hi
  have hlo := h.lo
  simp [B_mirrored, wM_eq (check_D h _), -eComp_ap]
  refine wM_mapm (l := List.range l.length) (hD := fun i : Nat => D.int (i : Nat)) (fun i => pcD (l.getD ((-(i : Int)) % (l.length : Int)).toNat (0, 0))) ?_ (by simp; omega) (fun i hi => ⟨_, rfl, ?_⟩) ?_
  · rw [← rangeD_map]
    refine (srcR1_int (μ' := μ) (n := (l.length : Int)) ?_ (by omega) (by omega)).trans (by simp)
    simp [dishD]
  · simp [dishD, pMod_int (show (0 : Int) < l.length by omega), at_pick h]
  · simp [dishD, pick]))
theorem mirrored_non (μ : Mu) : G_mirrored [.non] μ = some (.ex "Nothing" μ) := by
  simp [G_mirrored, B_mirrored, runF, sSeq, sExpr, bndS, check_no (is_dish_non _), finX]
/-- one after the other -/
theorem pick_pick {l : List Pc} (h : 1 ≤ l.length) (f g : Int → Int) : pick (pick l f) g = pick l fun i => f (g i % (l.length : Int)) := by
  unfold pick
  rw [List.length_map, List.length_range]
  refine List.map_congr_left fun i _ => ?_
  obtain ⟨h1, h2⟩ := mod_ok h (g i)
  rw [List.getD_eq_getElem?_getD, List.getElem?_map, List.getElem?_range h2]
  simp only [Option.map_some, Option.getD_some]
  rw [Int.toNat_of_nonneg h1]
theorem pick_congr {l : List Pc} {f g : Int → Int} (h : ∀ i : Nat, i < l.length → f i % (l.length : Int) = g i % (l.length : Int)) : pick l f = pick l g := by
  unfold pick
  refine List.map_congr_left fun i hi => ?_
  rw [h i (List.mem_range.mp hi)]
theorem pick_id {l : List Pc} {f : Int → Int} (h : ∀ i : Nat, i < l.length → f i % (l.length : Int) = i) : pick l f = l := by
  unfold pick
  refine List.ext_getElem (by simp) fun i h1 h2 => ?_
  rw [List.getElem_map, List.getElem_range, h i h2, Int.toNat_natCast, List.getD_eq_getElem?_getD, List.getElem?_eq_getElem h2]
  rfl
theorem add_em (a b n : Int) : (a % n + b) % n = (a + b) % n := by
  rw [Int.emod_add_emod]
theorem sub_em (a b n : Int) : (a % n - b) % n = (a - b) % n := by
  rw [Int.sub_eq_add_neg, Int.sub_eq_add_neg, Int.emod_add_emod]
theorem neg_em (a n : Int) : (-(a % n)) % n = (-a) % n := by
  rw [Int.emod_def a n, Int.neg_sub, Int.sub_eq_add_neg, Int.add_comm, Int.add_mul_emod_self_left]
theorem turn_back {l : List Pc} (h : OkDish l) (b : Int) : pick (pick l fun i => i - b) (fun i => i - (0 - b)) = l := by
  rw [pick_pick h.lo]
  refine pick_id fun i hi => ?_
  rw [sub_em, show (i : Int) - (0 - b) - b = i by omega]
  exact Int.emod_eq_of_lt (by omega) (by omega)
theorem mirror_back {l : List Pc} (h : OkDish l) : pick (pick l fun i => -i) (fun i => -i) = l := by
  rw [pick_pick h.lo]
  refine pick_id fun i hi => ?_
  rw [neg_em, Int.neg_neg]
  exact Int.emod_eq_of_lt (by omega) (by omega)
theorem mirror_turn {l : List Pc} (h : OkDish l) (b : Int) : pick (pick l fun i => i - b) (fun i => -i) = pick (pick l fun i => -i) (fun i => i - (0 - b)) := by
  rw [pick_pick h.lo, pick_pick h.lo]
  refine pick_congr fun i hi => ?_
  rw [sub_em, neg_em]
  congr 1
  omega
end K00

set_option Elab.async false
set_option linter.all false
set_option maxRecDepth 100000
set_option maxHeartbeats 4000000
/-! k00: plain dishes, lowest terms, what is refused. -/
namespace K00
open PySem PySem.Spec L2 Dn
open PyProof.Rows hiding St

theorem plain_pre {P : D → Mu → Prop} {ws : List Int} {μ : Mu} (hl : ws.length ≤ 1000000) (h : P (dishD (ws.map fun w => (w, w))) μ) :
    wM (eL pTuple (aCons (eComp (srcI (eVar 0)) (gN 2) (tYes') (eTup (aCons (eVar 2) (aCons (eVar 2) (aNil)))) [2]) (aNil)) [some (.tup (ws.map D.int)), none, none]) μ P := by
  simp [-eComp_ap]
  refine wM_mapm (l := ws) (hD := D.int) (fun w => pcD (w, w)) (by simp) hl (fun w _ => ⟨_, rfl, by simp [pcD]⟩) ?_
  have e : dishD (ws.map fun w => (w, w)) = .tup (ws.map fun w => pcD (w, w)) := by
    unfold dishD
    rw [List.map_map] <;> rfl
  rw [e] at h
  simpa using h
theorem plain_ok {ws : List Int} (h : OkDish (ws.map fun w => (w, w))) (μ : Mu) : G_plain_dish [.tup (ws.map D.int)] μ = some (.ok (dishD (ws.map fun w => (w, w))) μ) := eq_of_w (runF_w rfl (by
  have hl := h.hi
  rw [List.length_map] at hl
  unfold B_plain_dish
  refine wS_seq.mpr ?_
  simp [-eComp_ap, -eL_ap]
  refine plain_pre (by omega) ?_
  simp [wM_eq (check_D h _)]))
theorem dish_no {l : List Pc} (h : ¬ OkDish l) (hl : l.length ≤ 1000000) (μ : Mu) : G_is_dish [dishD l] μ = some (.ok (.bl false) μ) := by
  have e := is_dish_of (l := l.map pcD) (f := pcF) (by simpa using pcF_ok (l := l) (r := []) (by simp)) (by rw [List.length_map]; omega) μ
  have f : ((l.map pcD).all pcF && decide (1 ≤ (l.map pcD).length ∧ (l.map pcD).length ≤ 31)) = false := by
    cases q : ((l.map pcD).all pcF && decide (1 ≤ (l.map pcD).length ∧ (l.map pcD).length ≤ 31)) with
    | false => rfl
    | true =>
      rw [Bool.and_eq_true, decide_eq_true_eq, List.length_map] at q
      refine absurd ⟨fun p hp => ?_, q.2.1, q.2.2⟩ h
      have := List.all_eq_true.mp q.1 _ (List.mem_map.mpr ⟨p, hp, rfl⟩)
      obtain ⟨a1, a2, a3, a4, a5⟩ := of_decide_eq_true this
      exact ⟨a1, a5, a4⟩
  rw [f] at e
  exact e
theorem dish_non {l : List Pc} (hl : l.length ≤ 900000) (μ : Mu) : G_is_dish [.tup (l.map pcD ++ [.non])] μ = some (.ok (.bl false) μ) := by
  have e := is_dish_of (l := l.map pcD ++ [.non]) (f := pcF) (pcF_ok (l := l) (r := [.non]) (by simp)) (by simp; omega) μ
  simpa [pcF] using e
theorem plain_no {ws : List Int} (h : ¬ OkDish (ws.map fun w => (w, w))) (hl : ws.length ≤ 1000000) (μ : Mu) : G_plain_dish [.tup (ws.map D.int)] μ = some (.ex "Nothing" μ) := by
  have pre := plain_pre (P := fun d μ' => d = dishD (ws.map fun w => (w, w)) ∧ μ' = μ) hl ⟨rfl, rfl⟩
  have e := eq_of_w pre
  have c := check_no (dish_no h (by rw [List.length_map]; exact hl) μ)
  refine runF_ex rfl (sX_2 ((sIf_f (μ1 := μ) (by simp)).trans rfl) (sX_2 (sSet_ok (ρ := [some (.tup (ws.map D.int)), none, none]) e) (sX_1 (sX_expr ?_))))
  simpa using c
theorem plain_lst (l : List D) (μ : Mu) : G_plain_dish [.lst l] μ = some (.ex "Nothing" μ) := runF_ex rfl (sX_1 (sX_t (by simp) sX_raise))
theorem lows_empty (μ : Mu) : G_lows_of [.tup []] μ = some (.ex "Nothing" μ) := runF_ex rfl (sX_1 (sX_expr (by
  have e := check_no (dish_no (l := []) (fun h => by have := h.lo; simp at this) (by simp) μ)
  simpa [dishD] using e)))
theorem isplain_non {l : List Pc} (hl : l.length ≤ 900000) (μ : Mu) : G_is_plain [.tup (l.map pcD ++ [.non])] μ = some (.ex "Nothing" μ) := runF_ex rfl (sX_1 (sX_expr (by simpa using check_no (dish_non hl μ))))
/-! ### lowest terms -/
theorem is_count_int (i : Int) (μ : Mu) : G_is_count [.int i] μ = some (.ok (.bl (decide (0 ≤ i))) μ) := eq_of_w (runF_w rfl (by simp [B_is_count, wM_eq (is_integer_int _ _)]))
theorem counts_2 (a b : Int) (μ : Mu) : G_is_tuple_of (phi1 "is_count" G_is_count) [.tup [.int a, .int b], .fn "is_count"] μ = some (.ok (.bl (decide (0 ≤ a) && decide (0 ≤ b))) μ) := by
  have h := tup_of (x := "is_count") (G := G_is_count) (l := [.int a, .int b]) (f := fun d => match d with | .int i => decide (0 ≤ i) | _ => false) (by simp [is_count_int]) (by simp) μ
  simpa using h
theorem lowest_no0 (a : Int) (h : 0 ≤ a) (μ : Mu) : G_lowest [.tup [.int a, .int 0]] μ = some (.ex "Nothing" μ) := runF_ex rfl (sX_1 (sX_t (by
  simp [M.bnd_bnd, bnd_ok (is_sized_tup _ _ _), bnd_ok (counts_2 _ _ _), h]) sX_raise))
theorem lowest_neg (a b : Int) (h : a < 0) (μ : Mu) : G_lowest [.tup [.int a, .int b]] μ = some (.ex "Nothing" μ) := runF_ex rfl (sX_1 (sX_t (by
  simp [M.bnd_bnd, bnd_ok (is_sized_tup _ _ _), bnd_ok (counts_2 _ _ _), h, show ¬ 0 ≤ a by omega]) sX_raise))
theorem gcd_step (a b : Nat) : Nat.gcd b (a % b) = Nat.gcd a b := by
  rw [Nat.gcd_comm b, ← Nat.gcd_rec, Nat.gcd_comm]
theorem mod_scale (a b t : Nat) : ((a * t : Nat) : Int) % ((b * t : Nat) : Int) = ((a % b * t : Nat) : Int) := by
  rw [← Int.natCast_emod, Nat.mul_mod_mul_right]
theorem div_scale (a b t : Nat) (h : 0 < t) : ((a * t : Nat) : Int) / ((b * t : Nat) : Int) = ((a / b : Nat) : Int) := by
  rw [← Int.natCast_ediv, Nat.mul_div_mul_right _ _ h]
/-- both by their greatest divisor -/
def lowD (x y : Nat) : D := .tup [.int ((x / Nat.gcd x y : Nat) : Int), .int ((y / Nat.gcd x y : Nat) : Int)]
theorem lowest_D (x y t : Nat) (hx : x ≤ 1000) (hy : 1 ≤ y) (hy2 : y ≤ 1000) (ht : 1 ≤ t) (ht2 : t ≤ 10000000000) (μ : Mu) : G_lowest [.tup [.int ((x * t : Nat) : Int), .int ((y * t : Nat) : Int)]] μ = some (.ok (lowD x y) μ) := eq_of_w (runF_w rfl (by
  have py : 0 < y * t := Nat.mul_pos hy ht
  unfold B_lowest
  refine wS_seq.mpr ?_
  refine (wS_nx (ρ' := [some (.tup [.int ((x * t : Nat) : Int), .int ((y * t : Nat) : Int)]), none, none]) (μ' := μ) ?_).mpr ?_
  · refine (sIf_f (μ1 := μ) ?_).trans rfl
    simp [M.bnd_bnd, bnd_ok (is_sized_tup _ _ _), bnd_ok (counts_2 _ _ _), -Int.natCast_mul, -Int.natCast_mul]
    omega
  refine wS_seq.mpr ?_
  simp only [wS_asg]
  simp [-Int.natCast_mul]
  refine wS_while (fun k ρ μ' => μ' = μ ∧ ∃ a b : Nat, Nat.gcd a b = Nat.gcd x y ∧ b = k ∧ a ≤ 1000 ∧ b ≤ 1000 ∧ ρ = [some (.tup [.int ((x * t : Nat) : Int), .int ((y * t : Nat) : Int)]), some (.int ((a * t : Nat) : Int)), some (.int ((b * t : Nat) : Int))]) ⟨y, by omega, rfl, x, y, rfl, rfl, hx, hy2, rfl⟩ ?_
  rintro k ρ μ' ⟨rfl, a, b, hg, rfl, ha, hb2, rfl⟩
  by_cases hb : b = 0
  · subst hb
    have eg : a = Nat.gcd x y := by rw [← hg, Nat.gcd_zero_right]
    have pg : 0 < Nat.gcd x y := Nat.gcd_pos_of_pos_right _ hy
    have pgt : 0 < Nat.gcd x y * t := Nat.mul_pos pg ht
    have lgt : Nat.gcd x y * t ≤ 1000 * 10000000000 := Nat.mul_le_mul (by omega) ht2
    simp [-Int.natCast_mul]
    rw [eg]
    refine wM_div (by omega) (by omega) ?_
    refine wM_div (by omega) (by omega) ?_
    rw [div_scale _ _ _ ht, div_scale _ _ _ ht]
    simp [lowD]
  · have pb : 0 < b * t := Nat.mul_pos (by omega) ht
    simp [-Int.natCast_mul]
    rw [if_neg (by omega)]
    refine wM_mod (by omega) ?_
    rw [mod_scale]
    exact ⟨_, _, ⟨rfl, rfl⟩, a % b, Nat.mod_lt _ (by omega), rfl, b, a % b, by rw [gcd_step, hg], rfl, hb2, by have := Nat.mod_lt a (show b > 0 by omega); omega, rfl, rfl⟩))
theorem law_lowest_D (x y : Nat) (hx : x ≤ 900) (hy : 1 ≤ y) (hy2 : y ≤ 900) (μ : Mu) : G__law_lowest [.int (x : Nat), .int (y : Nat)] μ = some (.ok (lowD x y) μ) := eq_of_w (runF_w rfl (by
  unfold B__law_lowest
  refine wS_seq.mpr ?_
  simp
  refine ⟨_, _, ⟨rfl, rfl⟩, ?_⟩
  have pg : 0 < Nat.gcd x y := Nat.gcd_pos_of_pos_right _ hy
  have lg : Nat.gcd x y ≤ y := Nat.gcd_le_right _ hy
  have fin : ∀ z o : Option D, (fun (ρ : Ro) (μ_1 : Mu) =>
          wM (eVar 0 ρ) μ_1 fun a μ' =>
            wM (eVar 3 ρ) μ' fun a_1 μ' =>
              wM (pDiv a a_1) μ' fun a μ' =>
                wM (pInt [a]) μ' fun a μ' =>
                  wM (eVar 1 ρ) μ' fun a_2 μ' =>
                    wM (eVar 3 ρ) μ' fun a_3 μ' =>
                      wM (pDiv a_2 a_3) μ' fun a_4 μ' =>
                        wM (pInt [a_4]) μ' fun a_5 μ' =>
                          List.length μ' = List.length μ ∧ D.tup [a, a_5] = lowD x y ∧ μ' = μ) [some (.int (x : Nat)), some (.int (y : Nat)), z, some (.int (Nat.gcd x y : Nat)), o] μ := by
    intro z o
    simp
    refine wM_div (by omega) (by omega) ?_
    simp
    refine wM_div (by omega) (by omega) ?_
    simp [lowD]
  refine wS_for (fun l ρ μ' => μ' = μ ∧ ∃ (a b : Nat) (z : Option D), Nat.gcd a b = Nat.gcd x y ∧ b ≤ l.length ∧ a ≤ 900 ∧ b ≤ 900 ∧ ρ = [some (.int (x : Nat)), some (.int (y : Nat)), z, some (.int (a : Nat)), some (.int (b : Nat))]) ?_ ?_ ?_
  · refine wM_src1 (n := 999) (by simp; exact ⟨x, y, rfl, by simp [rangeD]; omega, hx, hy2, rfl, rfl⟩) (by omega) (by omega)
  · rintro d ds ρ μ' ⟨rfl, a, b, z, hg, hb, ha, hb2, rfl⟩
    refine ⟨_, rfl, ?_⟩
    have hb : b ≤ ds.length + 1 := hb
    by_cases h0 : b = 0
    · subst h0
      have eg : a = Nat.gcd x y := by rw [← hg, Nat.gcd_zero_right]
      rw [eg]
      simp
      simpa using fin (some d) (some (.int 0))
    · simp
      rw [if_neg (by omega)]
      refine wM_mod (by omega) ?_
      have ml := Nat.mod_lt a (show b > 0 by omega)
      exact ⟨_, _, ⟨rfl, rfl⟩, rfl, b, a % b, by rw [gcd_step, hg], by omega, hb2, by omega, by simp⟩
  · rintro ρ μ' ⟨rfl, a, b, z, hg, hb, ha, hb2, rfl⟩
    have h0 : b = 0 := by simpa using hb
    subst h0
    have eg : a = Nat.gcd x y := by rw [← hg, Nat.gcd_zero_right]
    rw [eg]
    exact fin _ _))
end K00

set_option Elab.async false
set_option linter.all false
set_option maxRecDepth 100000
set_option maxHeartbeats 4000000
/-! k00: the bag's dish. -/
namespace K00
open PySem PySem.Spec L2 Dn
open PyProof.Rows hiding St

theorem clo_bag {k : Nat} {a b c : Int} {cells : List Int} : Clo k (bagO a b c cells) := clo_lst fun μ =>
  mapO_cons fz_int (mapO_cons fz_int (mapO_cons fz_int (mapO_cons (by simp only [fz, fz_ints]) rfl)))
theorem some_w {P : D → Mu → Prop} {μ : Mu} {n : Nat} {a b c : Int} {cells : List Int} {l : List D} (hn : μ[n]? = some (bagO a b c cells)) (hl : cells.length ≤ 1000) (h1 : 1 ≤ l.length) (h2 : l.length ≤ 1000000)
    (k : ∀ x a' b' c', x ∈ l → P x (μ.set n (bagO a' b' c' cells))) : wM (G__law_some [.loc n, .lst l]) μ P := by
  have hlt : n < μ.length := (List.getElem?_eq_some_iff.mp hn).1
  refine runF_w rfl ?_
  simp [B__law_some]
  refine take_w hn hl (by omega) (by omega) fun v a' b' c' h0 h1 => ?_
  have hv : v.toNat < l.length := by omega
  rw [pIx_lst, atI_of h0 (List.getElem?_eq_getElem hv)]
  simp
  exact k _ _ _ _ (List.getElem_mem hv)
/-- the bag in a longer store -/
theorem bag_app {μ r : Mu} {n : Nat} {o : MO} (hlt : n < μ.length) : (μ.set n o ++ r)[n]? = some o := by
  rw [get_app (by simpa using hlt), List.getElem?_set_self hlt]
theorem bag_put {μ r : Mu} {n : Nat} {o o' : MO} (hlt : n < μ.length) : (μ.set n o ++ r).set n o' = μ.set n o' ++ r := by
  rw [set_app (by simpa using hlt), List.set_set]
theorem dish_w {P : D → Mu → Prop} {μ : Mu} {n : Nat} {a b c most : Int} {cells : List Int} (hn : μ[n]? = some (bagO a b c cells)) (hl : cells.length ≤ 1000) (cl : CloA μ.length μ) (h1 : 1 ≤ most) (h2 : most ≤ 31)
    (k : ∀ l a' b' c', OkDish l → P (dishD l) (μ.set n (bagO a' b' c' cells))) : wM (G__law_dish [.loc n, .int 1, .int most]) μ P := by
  have hlt : n < μ.length := (List.getElem?_eq_some_iff.mp hn).1
  refine runF_wC rfl ?_
  unfold B__law_dish
  refine wS_seq.mpr ?_
  simp only [wS_par3]
  simp
  refine take_w hn hl (by omega) (by omega) fun v a1 b1 c1 v0 v1 => ?_
  simp
  refine take_w (List.getElem?_set_self hlt) hl (by omega) (by omega) fun v2 a2 b2 c2 _ _ => ?_
  rw [List.set_set]
  simp
  refine some_w (List.getElem?_set_self hlt) hl (by simp) (by simp) fun top a3 b3 c3 htop => ?_
  rw [List.set_set]
  obtain ⟨t, rfl, t1, t2⟩ : ∃ t : Int, top = .int t ∧ 1 ≤ t ∧ t ≤ 6 := by
    simp at htop
    rcases htop with rfl | rfl | rfl
    · exact ⟨1, rfl, by omega, by omega⟩
    · exact ⟨2, rfl, by omega, by omega⟩
    · exact ⟨6, rfl, by omega, by omega⟩
  refine ⟨_, _, _, ⟨rfl, rfl, rfl⟩, ?_⟩
  refine wM_new ?_
  simp
  refine wS_for (fun l ρ μ' => ∃ (acc : List Pc) (a b c : Int) (z y : Option D), acc.length + l.length = (1 + v).toNat ∧ (∀ p ∈ acc, OkPc p) ∧
    ρ = [some (.loc n), some (.int 1), some (.int most), some (.loc μ.length), z, some (.int (1 + v)), some (.bl (decide (v2 = 0))), some (.int t), y] ∧ μ' = μ.set n (bagO a b c cells) ++ [.lst (acc.map pcD)]) ?_ ?_ ?_
  · refine wM_src1 (n := 1 + v) ?_ (by omega) (by omega)
    exact wM_of (a := .int (1 + v)) rfl ⟨rfl, rfl, [], a3, b3, c3, none, none, by simp [rangeD], by simp, rfl, rfl⟩
  · rintro d ds ρ μ' ⟨acc, a, b, c, z, y, hlen, hacc, rfl, rfl⟩
    refine ⟨_, rfl, ?_⟩
    simp
    refine take_w (bag_app hlt) hl (by omega) (by omega) fun w a4 b4 c4 w0 w1 => ?_
    rw [bag_put hlt]
    try simp
    refine take_w (bag_app hlt) hl (by omega) (by omega) fun w2 a5 b5 c5 w20 w21 => ?_
    rw [bag_put hlt]
    simp
    refine some_w (bag_app hlt) hl (by simp) (by simp) fun low a6 b6 c6 hlow => ?_
    rw [bag_put hlt]
    obtain ⟨lo, rfl, l0, l1⟩ : ∃ t : Int, low = .int t ∧ 0 ≤ t ∧ t ≤ 6 := by
      simp at hlow
      rcases hlow with rfl | rfl | rfl
      · exact ⟨0, rfl, by omega, by omega⟩
      · exact ⟨w, rfl, by omega, by omega⟩
      · exact ⟨1 + w2, rfl, by omega, by omega⟩
    have found : ∀ a b c, (μ.set n (bagO a b c cells) ++ [MO.lst (acc.map pcD)])[μ.length]? = some (.lst (acc.map pcD)) := fun a b c => by
      have := get_last (μ := μ.set n (bagO a b c cells)) (o := .lst (acc.map pcD))
      simpa using this
    have put_ : ∀ a b c o, (μ.set n (bagO a b c cells) ++ [MO.lst (acc.map pcD)]).set μ.length o = μ.set n (bagO a b c cells) ++ [o] := fun a b c o => by
      have := set_last (μ := μ.set n (bagO a b c cells)) (o := .lst (acc.map pcD)) (o' := o)
      simpa using this
    have accl : acc.length ≤ 1000000 := by omega
    have hlen : acc.length + (ds.length + 1) = (1 + v).toNat := by simpa using hlen
    have add1 : ∀ (hi a b c : Int), OkPc (lo, hi) → ∃ acc_1 : List Pc, acc_1.length + ds.length = (1 + v).toNat ∧ (∀ (a b : Int), (a, b) ∈ acc_1 → OkPc (a, b)) ∧
        ∃ x x_1 x_2, List.set μ n (bagO a b c cells) ++ [MO.lst (List.map pcD acc ++ [D.tup [D.int lo, D.int hi]])] = List.set μ n (bagO x x_1 x_2 cells) ++ [MO.lst (List.map pcD acc_1)] := by
      intro hi a b c ho
      refine ⟨acc ++ [(lo, hi)], by simp; omega, fun a b hm => ?_, a, b, c, by simp [pcD]⟩
      rcases List.mem_append.mp hm with hm | hm
      · exact hacc _ hm
      · simp at hm
        rw [hm.1, hm.2]
        exact ho
    refine wM_chk (found _ _ _) ?_
    try simp
    split
    · simp
      refine wM_append (found _ _ _) (by simpa using accl) ?_
      rw [put_]
      exact add1 lo _ _ _ ⟨l0, Int.le_refl _, by omega⟩
    · simp
      refine take_w (bag_app hlt) hl (by omega) (by omega) fun w3 a7 b7 c7 w30 w31 => ?_
      rw [bag_put hlt]
      refine some_w (bag_app hlt) hl (by simp) (by simp) fun up a8 b8 c8 hup => ?_
      rw [bag_put hlt]
      obtain ⟨u, rfl, u0, u1⟩ : ∃ t : Int, up = .int t ∧ 0 ≤ t ∧ t ≤ 3 := by
        simp at hup
        rcases hup with rfl | rfl | rfl
        · exact ⟨0, rfl, by omega, by omega⟩
        · exact ⟨1, rfl, by omega, by omega⟩
        · exact ⟨w3, rfl, by omega, by omega⟩
      simp
      refine wM_append (found _ _ _) (by simpa using accl) ?_
      rw [put_]
      exact add1 (lo + u) _ _ _ ⟨l0, show lo ≤ lo + u by omega, show lo + u ≤ 9999 by omega⟩
  · rintro ρ μ' ⟨acc, a, b, c, z, y, hlen, hacc, rfl, rfl⟩
    simp
    have found : (μ.set n (bagO a b c cells) ++ [MO.lst (acc.map pcD)])[μ.length]? = some (.lst (acc.map pcD)) := by
      have := get_last (μ := μ.set n (bagO a b c cells)) (o := .lst (acc.map pcD))
      simpa using this
    have hlen : acc.length = (1 + v).toNat := by simpa using hlen
    have fz1 : ∀ μ2, fz 40 μ.length μ2 (dishD acc) = some (dishD acc) := fun μ2 => by
      have e : mapO (fz 39 μ.length μ2) (acc.map pcD) = some (acc.map pcD) := mapO_map (k := pcD) fun p _ => by
        show fz 39 μ.length μ2 (.tup [.int p.1, .int p.2]) = _
        simp [fz, mapO, pcD]
      simp only [dishD, fz, e]
    exact wM_of (pTuple_loc found) ⟨dishD acc, fz1 _, μ.set n (bagO a b c cells), cut_clo (cl.set clo_bag) (by simp), by simp, k acc a b c ⟨hacc, by omega, by omega⟩⟩
end K00

set_option Elab.async false
set_option linter.all false
set_option maxRecDepth 100000
set_option maxHeartbeats 4000000
/-! k00: the forms told. -/
namespace K00
open PySem PySem.Spec L2 Dn
open PyProof.Rows hiding St
section
variable (μ : Mu)
theorem is_integer_bl (b : Bool) : G_is_integer [.bl b] μ = some (.ok (.bl false) μ) := eq_of_w (runF_w rfl (by simp [B_is_integer]))
theorem is_integer_str (x : Str) : G_is_integer [.str x] μ = some (.ok (.bl false) μ) := eq_of_w (runF_w rfl (by simp [B_is_integer]))
theorem is_integer_tup (x : List D) : G_is_integer [.tup x] μ = some (.ok (.bl false) μ) := eq_of_w (runF_w rfl (by simp [B_is_integer]))
theorem is_between_bl (b : Bool) (lo hi : D) : G_is_between [.bl b, lo, hi] μ = some (.ok (.bl false) μ) := eq_of_w (runF_w rfl (by simp [B_is_between, wM_eq (is_integer_bl _ _)]))
theorem is_between_str (b : Str) (lo hi : D) : G_is_between [.str b, lo, hi] μ = some (.ok (.bl false) μ) := eq_of_w (runF_w rfl (by simp [B_is_between, wM_eq (is_integer_str _ _)]))
theorem is_between_tup (b : List D) (lo hi : D) : G_is_between [.tup b, lo, hi] μ = some (.ok (.bl false) μ) := eq_of_w (runF_w rfl (by simp [B_is_between, wM_eq (is_integer_tup _ _)]))
theorem pc_lst (l : List D) : G_is_piece [.lst l] μ = some (.ok (.bl false) μ) := eq_of_w (runF_w rfl (by simp [B_is_piece, wM_eq (is_sized_lst _ _ _)]))
theorem pc_1 (d : D) : G_is_piece [.tup [d]] μ = some (.ok (.bl false) μ) := eq_of_w (runF_w rfl (by simp [B_is_piece, wM_eq (is_sized_tup _ _ _)]))
theorem pc_3 (d e f : D) : G_is_piece [.tup [d, e, f]] μ = some (.ok (.bl false) μ) := eq_of_w (runF_w rfl (by simp [B_is_piece, wM_eq (is_sized_tup _ _ _)]))
theorem pc_in (a : Int) : G_is_piece [.tup [.int a, .non]] μ = some (.ok (.bl false) μ) := eq_of_w (runF_w rfl (by simp [B_is_piece, wM_eq (is_sized_tup _ _ _), wM_eq (is_between_int _ _ _ _), wM_eq (is_between_non _ _ _)]))
theorem pc_bi (b : Bool) (a : Int) : G_is_piece [.tup [.bl b, .int a]] μ = some (.ok (.bl false) μ) := eq_of_w (runF_w rfl (by simp [B_is_piece, wM_eq (is_sized_tup _ _ _), wM_eq (is_between_int _ _ _ _), wM_eq (is_between_bl _ _ _ _)]))
theorem mn_int (i : Int) : G_is_manner [.int i] μ = some (.ok (.bl (decide (0 ≤ i ∧ i ≤ 2))) μ) := eq_of_w (runF_w rfl (by simp [B_is_manner, wM_eq (is_between_int _ _ _ _)]))
theorem mn_non : G_is_manner [.non] μ = some (.ok (.bl true) μ) := eq_of_w (runF_w rfl (by simp [B_is_manner]))
theorem mn_bl (b : Bool) : G_is_manner [.bl b] μ = some (.ok (.bl false) μ) := eq_of_w (runF_w rfl (by simp [B_is_manner, wM_eq (is_between_bl _ _ _ _)]))
theorem mn_str (b : Str) : G_is_manner [.str b] μ = some (.ok (.bl false) μ) := eq_of_w (runF_w rfl (by simp [B_is_manner, wM_eq (is_between_str _ _ _ _)]))
theorem mn_tup (b : List D) : G_is_manner [.tup b] μ = some (.ok (.bl false) μ) := eq_of_w (runF_w rfl (by simp [B_is_manner, wM_eq (is_between_tup _ _ _ _)]))
theorem sh_int (a b : Int) : G_is_share [.tup [.int a, .int b]] μ = some (.ok (.bl (decide ((1 ≤ b ∧ b ≤ 9999) ∧ 0 ≤ a ∧ a ≤ b))) μ) := eq_of_w (runF_w rfl (by
  simp [B_is_share, wM_eq (is_sized_tup _ _ _), wM_eq (is_between_int _ _ _ _)]
  by_cases h : 1 ≤ b ∧ b ≤ 9999
  · simp [h, wM_eq (is_between_int _ _ _ _)]
  · simp [h]
    try omega))
theorem sh_1 (d : D) : G_is_share [.tup [d]] μ = some (.ok (.bl false) μ) := eq_of_w (runF_w rfl (by simp [B_is_share, wM_eq (is_sized_tup _ _ _)]))
theorem sh_lst (l : List D) : G_is_share [.lst l] μ = some (.ok (.bl false) μ) := eq_of_w (runF_w rfl (by simp [B_is_share, wM_eq (is_sized_lst _ _ _)]))
theorem sh_non : G_is_share [.non] μ = some (.ok (.bl false) μ) := eq_of_w (runF_w rfl (by simp [B_is_share, wM_eq (is_sized_non _ _)]))
theorem sh_in (a : Int) : G_is_share [.tup [.int a, .non]] μ = some (.ok (.bl false) μ) := eq_of_w (runF_w rfl (by simp [B_is_share, wM_eq (is_sized_tup _ _ _), wM_eq (is_between_non _ _ _)]))
theorem sh_bi (b : Bool) : G_is_share [.tup [.bl b, .int 1]] μ = some (.ok (.bl false) μ) := eq_of_w (runF_w rfl (by simp [B_is_share, wM_eq (is_sized_tup _ _ _), wM_eq (is_between_int _ _ _ _), wM_eq (is_between_bl _ _ _ _)]))
end
/-- a row of which each is told v -/
def Told (v : Bool) (d : D) : Prop := ∃ (x : Str) (G : Gt) (ls : List D), d = .tup [.fn x, .tup ls] ∧ phi__law_are_forms_told x = some G ∧ ls.length ≤ 1000 ∧ ∀ e ∈ ls, ∀ μ, G [e] μ = some (.ok (.bl v) μ)
theorem told_w {v : Bool} {μ : Mu} {g b z w o : Option D} {d : D} {N : Ro → Mu → Prop} {T : D → Mu → Prop} {B C : Ro → Mu → Prop} (h : Told v d) (k : ∀ z w, N [g, b, z, w, o] μ) :
    ∃ ρ1, gT 2 (gsCons (gN 2) (gsCons (gN 3) (gsNil))) d [g, b, z, w, o] = some ρ1 ∧ wS (sIf (tV (e2 pNe (eComp (srcI (eVar 3)) (gN 4) (tV (e2 pIsNot (eCallV phi__law_are_forms_told 2 (aCons (eVar 4) (aNil))) (eC (.bl v)))) (eVar 4) [4]) (eLst (aNil)))) (sRet (eC (.bl false))) (sNext)) ρ1 μ N T B C := by
  obtain ⟨x, G, ls, rfl, hp, hl, hG⟩ := h
  refine ⟨_, rfl, ?_⟩
  simp [-eComp_ap]
  refine wM_filt (l := ls) (hD := id) (fun _ => false) id (by simp) (by omega) (fun e he => ⟨_, rfl, ?_, by simp⟩) ?_
  · simp [eCallV, hp, M.bnd_bnd, bnd_ok (hG e he μ)]
  · simp
    rw [filter_none, wM_eq pNe_nil]
    simpa using k _ _
theorem forms_told {μ : Mu} (cl : CloA μ.length μ) : wM (G__law_are_forms_told []) μ fun d μ' => d = .bl true ∧ μ' = μ := by
  refine runF_wC rfl ?_
  unfold B__law_are_forms_told
  refine wS_seq.mpr ?_
  simp only [wS_set]
  simp [-wS_seq]
  refine wS_seq.mpr ?_
  refine wS_for (fun l ρ μ' => μ' = μ ∧ (∃ g z w, ρ = [g, none, z, w, none]) ∧ ∀ d ∈ l, Told true d) ?_ ?_ ?_
  · refine wM_of rfl ⟨rfl, rfl, ⟨_, _, _, rfl⟩, ?_⟩
    simp
    refine ⟨⟨_, _, _, rfl, rfl, by simp, ?_⟩, ⟨_, _, _, rfl, rfl, by simp, ?_⟩, ⟨_, _, _, rfl, rfl, by simp, ?_⟩⟩
    · simp [is_piece_pair]
    · simp [mn_int, mn_non]
    · simp [sh_int]
  · rintro d ds ρ μ' ⟨rfl, ⟨g, z, w, rfl⟩, h⟩
    exact told_w (h d (by simp)) fun z w => ⟨rfl, ⟨g, z, w, rfl⟩, fun d' hd => h d' (by simp [hd])⟩
  · rintro ρ μ' ⟨rfl, ⟨g, z, w, rfl⟩, _⟩
    refine wS_seq.mpr ?_
    simp only [wS_set]
    refine wM_new ?_
    simp [-wS_seq]
    have put_ : ∀ o o' : MO, (μ' ++ [o]).set μ'.length o' = μ' ++ [o'] := fun o o' => set_last
    refine wS_seq.mpr ?_
    simp only [wS_expr]
    simp [-wS_seq]
    refine wM_chk get_last ?_
    refine wM_append get_last (by simp) ?_
    rw [put_]
    refine wS_seq.mpr ?_
    simp only [wS_expr]
    simp [-wS_seq]
    refine wM_chk get_last ?_
    refine wM_append get_last (by simp) ?_
    rw [put_]
    refine wS_seq.mpr ?_
    simp [-wS_seq]
    refine wS_forC (fun l ρ => (∃ z w, ρ = [g, some (.loc μ'.length), z, w, none]) ∧ ∀ d ∈ l, Told false d) ?_ ?_ ?_
    · simp [-wS_seq]
      refine wM_of (itemsM_loc get_last) ⟨get_last, ?_, rfl⟩
      simp
      refine ⟨⟨_, _, _, rfl, rfl, by simp, ?_⟩, ⟨_, _, _, rfl, rfl, by simp, ?_⟩, ⟨_, _, _, rfl, rfl, by simp, ?_⟩⟩
      · simp [is_piece_pair, pc_1, pc_3, pc_lst, pc_in, pc_bi, is_piece_non]
      · simp [mn_int, mn_bl, mn_str, mn_tup]
      · simp [sh_int, sh_1, sh_lst, sh_in, sh_bi, sh_non]
    · rintro d ds ρ ⟨⟨z, w, rfl⟩, h⟩
      exact told_w (h d (by simp)) fun z w => ⟨⟨⟨z, w, rfl⟩, fun d' hd => h d' (by simp [hd])⟩, rfl⟩
    · rintro ρ ⟨⟨z, w, rfl⟩, _⟩
      simp
      exact cut_clo cl rfl
end K00

set_option Elab.async false
set_option linter.all false
set_option maxRecDepth 100000
set_option maxHeartbeats 4000000
/-! k00: one lap. -/
namespace K00
open PySem PySem.Spec L2 Dn
open PyProof.Rows hiding St

theorem res_pcs (l : List Pc) (n : Nat) (μ : Mu) : mapO (res (n + 1) μ) (l.map pcD) = some (l.map fun p => PyData.tuple [.int p.1, .int p.2]) := mapO_map (k := fun p : Pc => PyData.tuple [.int p.1, .int p.2]) fun p _ => by
  simp [res, pcD, mapO]
theorem res_ints (l : List Int) (n : Nat) (μ : Mu) : mapO (res n μ) (l.map D.int) = some (l.map PyData.int) := mapO_map (k := PyData.int) fun p _ => by
  cases n <;> rfl
theorem res_dish (l : List Pc) (μ : Mu) : res 40 μ (dishD l) = some (.tuple (l.map fun p => PyData.tuple [.int p.1, .int p.2])) := by
  simp only [res, dishD, res_pcs]
theorem res_dl (l : List Pc) (μ : Mu) : res 40 μ (.lst (l.map pcD)) = some (.list (l.map fun p => PyData.tuple [.int p.1, .int p.2])) := by
  simp only [res, res_pcs]
theorem res_il (l : List Int) (μ : Mu) : res 40 μ (.lst (l.map D.int)) = some (.list (l.map PyData.int)) := by
  simp only [res, res_ints]
theorem pEq_pcs_nil (l : List Pc) (μ : Mu) : pEq (.lst (l.map pcD)) (.lst []) μ = some (.ok (.bl l.isEmpty) μ) := by
  have e : res 40 μ (.lst []) = some (.list []) := rfl
  unfold pEq onRes
  simp only [res_dl, e]
  cases l with
  | nil => rfl
  | cons p l => rfl
theorem pNe_dish (l : List Pc) (μ : Mu) : pNe (dishD l) (dishD l) μ = some (.ok (.bl false) μ) := pNe_same (res_dish l μ)
theorem pNe_pcs (l : List Pc) (μ : Mu) : pNe (.lst (l.map pcD)) (.lst (l.map pcD)) μ = some (.ok (.bl false) μ) := pNe_same (res_dl l μ)
theorem pNe_ints (l : List Int) (μ : Mu) : pNe (.lst (l.map D.int)) (.lst (l.map D.int)) μ = some (.ok (.bl false) μ) := pNe_same (res_il l μ)
theorem low_res (x y : Nat) (μ : Mu) : pNe (lowD x y) (lowD x y) μ = some (.ok (.bl false) μ) := pNe_same (p := .tuple [.int _, .int _]) rfl
theorem filter_all_iff {α : Type} (l : List α) (p : α → Bool) : (l.filter fun x => !p x).isEmpty = l.all p := by
  induction l with
  | nil => rfl
  | cons a l ih =>
    cases h : p a with
    | true => simp [h, ih]
    | false => simp [h]
theorem worths_ok {l : List Pc} (h : OkDish l) : OkDish ((l.map fun p => p.1).map fun w => (w, w)) := by
  refine ⟨fun p hp => ?_, by simpa using h.lo, by simpa using h.hi⟩
  obtain ⟨w, hw, rfl⟩ := List.mem_map.mp hp
  obtain ⟨q, hq, rfl⟩ := List.mem_map.mp hw
  obtain ⟨h1, h2, h3⟩ := h.pc q hq
  exact ⟨h1, Int.le_refl _, show q.1 ≤ 9999 by omega⟩
/-- the store between the laps -/
structure Ok (μ : Mu) (P : Addr) (cells : List Int) : Prop where
  tab : μ[0]? = some (.tab P "law.<locals>.<lambda>")
  bag : ∃ a b c, μ[1]? = some (bagO a b c cells)
  clo : ∀ o ∈ μ, ∀ k, Clo k o
theorem Ok.set {μ : Mu} {P : Addr} {cells : List Int} (h : Ok μ P cells) (a b c : Int) : Ok (μ.set 1 (bagO a b c cells)) P cells := by
  obtain ⟨a0, b0, c0, hb⟩ := h.bag
  have hlt : 1 < μ.length := (List.getElem?_eq_some_iff.mp hb).1
  refine ⟨by rw [List.getElem?_set_ne (by omega)]; exact h.tab, ⟨a, b, c, List.getElem?_set_self hlt⟩, fun o ho k => ?_⟩
  rcases List.mem_or_eq_of_mem_set ho with ho | rfl
  · exact h.clo o ho k
  · exact clo_bag
theorem take_k {Q : D → Mu → Prop} {μ : Mu} {P : Addr} {cells : List Int} {m : Int} (h : Ok μ P cells) (hl : cells.length ≤ 1000) (hm : 0 < m) (hm2 : m < 1000000000000)
    (k : ∀ v μ', 0 ≤ v → v < m → Ok μ' P cells → Q (.int v) μ') : wM (G__law_take [.loc 1, .int m]) μ Q := by
  obtain ⟨a, b, c, hb⟩ := h.bag
  exact take_w hb hl hm hm2 fun v a' b' c' h0 h1 => k v _ h0 h1 (h.set a' b' c')
theorem some_k {Q : D → Mu → Prop} {μ : Mu} {P : Addr} {cells : List Int} {l : List D} (h : Ok μ P cells) (hl : cells.length ≤ 1000) (h1 : 1 ≤ l.length) (h2 : l.length ≤ 1000000)
    (k : ∀ x μ', x ∈ l → Ok μ' P cells → Q x μ') : wM (G__law_some [.loc 1, .lst l]) μ Q := by
  obtain ⟨a, b, c, hb⟩ := h.bag
  exact some_w hb hl h1 h2 fun x a' b' c' hx => k x _ hx (h.set a' b' c')
theorem dish_k {Q : D → Mu → Prop} {μ : Mu} {P : Addr} {cells : List Int} {m : Int} (h : Ok μ P cells) (hl : cells.length ≤ 1000) (h1 : 1 ≤ m) (h2 : m ≤ 31)
    (k : ∀ l μ', OkDish l → Ok μ' P cells → Q (dishD l) μ') : wM (G__law_dish [.loc 1, .int 1, .int m]) μ Q := by
  obtain ⟨a, b, c, hb⟩ := h.bag
  exact dish_w hb hl (fun o ho => h.clo o ho _) h1 h2 fun l a' b' c' hd => k l _ hd (h.set a' b' c')
end K00
namespace K00
open PySem PySem.Spec L2 Dn
open PyProof.Rows hiding St
theorem turn_back2 {l : List Pc} (h : OkDish l) (b : Int) : pick (pick l fun i => i - b) (fun i => i + b) = l := by
  have := turn_back h b
  have e : (fun i : Int => i - (0 - b)) = fun i => i + b := by
    funext i
    omega
  rwa [e] at this
theorem mirror_turn2 {l : List Pc} (h : OkDish l) (b : Int) : pick (pick l fun i => i - b) (fun i => -i) = pick (pick l fun i => -i) (fun i => i + b) := by
  have := mirror_turn h b
  have e : (fun i : Int => i - (0 - b)) = fun i => i + b := by
    funext i
    omega
  rwa [e] at this
theorem rep_pcs (l : List Pc) : rep (l.map pcD) 32 = ((List.replicate 32 l).flatten).map pcD := by
  unfold rep
  rw [List.map_flatten, List.map_replicate]
  rfl
theorem cut_pcs {l : List Pc} (h : 1 ≤ l.length) : Dn.cutD (l.map pcD) none (some (-1)) = (l.take (l.length - 1)).map pcD := by
  unfold Dn.cutD
  have e : HT.sIx (l.map pcD).length (l.map pcD).length (some (-1)) = l.length - 1 := by
    show (if (-1 : Int) < 0 then ((-1 : Int) + ((l.map pcD).length : Int)).toNat else min (-1 : Int).toNat (l.map pcD).length) = l.length - 1
    rw [if_pos (by omega), List.length_map]
    omega
  rw [e]
  simp [HT.sIx, List.map_take]
theorem flat_len {α : Type} (n : Nat) (l : List α) : ((List.replicate n l).flatten).length = n * l.length := by
  induction n with
  | zero => simp
  | succ n ih =>
    rw [List.replicate_succ, List.flatten_cons, List.length_append, ih, Nat.add_mul, Nat.one_mul]
    omega
/-- what is no dish -/
def bents (l : List Pc) : List D := [dishD [], dishD (List.replicate 32 l).flatten, .lst (l.map pcD), dishD (l ++ [(1, 0)]), .tup ((l.take (l.length - 1)).map pcD ++ [.non]), dishD (l.take (l.length - 1) ++ [(0, 10000)]), .non]
theorem bents_no {l : List Pc} (h : OkDish l) {d : D} (hd : d ∈ bents l) (μ : Mu) : G_is_dish [d] μ = some (.ok (.bl false) μ) := by
  have hlo := h.lo
  have hhi := h.hi
  simp only [bents, List.mem_cons, List.not_mem_nil, or_false] at hd
  rcases hd with rfl | rfl | rfl | rfl | rfl | rfl | rfl
  · exact dish_no (fun k => by have := k.lo; simp at this) (by simp) μ
  · have e := flat_len 32 l
    generalize (List.replicate 32 l).flatten = r at e ⊢
    refine dish_no (fun k => ?_) (by omega) μ
    have := k.hi
    omega
  · exact is_dish_lst _ μ
  · refine dish_no (fun k => ?_) (by simp; omega) μ
    have := k.pc (1, 0) (by simp)
    have := this.2.1
    simp at this
  · exact dish_non (by simp; omega) μ
  · refine dish_no (fun k => ?_) (by simp; omega) μ
    have := k.pc (0, 10000) (by simp)
    have := this.2.2
    simp at this
  · exact is_dish_non μ
end K00
namespace K00
open PySem PySem.Spec L2 Dn
open PyProof.Rows hiding St
theorem lowest_1 (x y : Nat) (hx : x ≤ 1000) (hy : 1 ≤ y) (hy2 : y ≤ 1000) (μ : Mu) : G_lowest [.tup [.int (x : Int), .int (y : Int)]] μ = some (.ok (lowD x y) μ) := by
  simpa using lowest_D x y 1 hx hy hy2 (by omega) (by omega) μ
theorem lowest_s (x y t : Nat) (hx : x ≤ 1000) (hy : 1 ≤ y) (hy2 : y ≤ 1000) (ht : 1 ≤ t) (ht2 : t ≤ 10000000000) (μ : Mu) : G_lowest [.tup [.int ((x : Int) * (t : Int)), .int ((y : Int) * (t : Int))]] μ = some (.ok (lowD x y) μ) := by
  have := lowest_D x y t hx hy hy2 ht ht2 μ
  rwa [Int.natCast_mul, Int.natCast_mul] at this
theorem plain_more {l : List Pc} (h : OkDish l) (μ : Mu) : G_plain_dish [.tup ((l.map fun p => p.1).map D.int ++ [.int 10000])] μ = some (.ex "Nothing" μ) := by
  have hl := h.hi
  have := plain_no (ws := (l.map fun p => p.1) ++ [10000]) (fun k => by
    have := (k.pc (10000, 10000) (by simp)).2.2
    simp at this) (by simp; omega) μ
  simpa using this
/-- the eight that are refused -/
abbrev cl (cs : Cells) (i : Nat) (syn : Arguments × Expr × Scope) : D := .clo cs "law.<locals>.<lambda>" i syn
def actsL (cs : Cells) : List D := [cl cs 0 syn_law_0, cl cs 1 syn_law_1, cl cs 2 syn_law_2, cl cs 3 syn_law_3, cl cs 4 syn_law_4, cl cs 5 syn_law_5, cl cs 6 syn_law_6, cl cs 7 syn_law_7]
theorem clo_acts (cs : Cells) (k : Nat) : Clo k (.lst (actsL cs)) := clo_lst fun μ => mapO_id fun x hx => by
  simp only [actsL, List.mem_cons, List.not_mem_nil, or_false] at hx
  rcases hx with rfl | rfl | rfl | rfl | rfl | rfl | rfl | rfl <;> exact fz_clo
theorem act_no {Pt : Str → Addr} {cs : Cells} {l : List Pc} {ρ : Ro} {μ : Mu} {x : D} (h : OkDish l) (hx : x ∈ actsL cs) (h3 : ∀ x, eVar 3 (wipeR (ρ.set 15 (some x)) [15]) = M.ret (dishD l)) (h7 : ∀ x, eVar 7 (wipeR (ρ.set 15 (some x)) [15]) = M.ret (.tup ((l.map fun p => p.1).map D.int))) (h15 : ∀ x, (ρ.set 15 (some x))[15]? = some (some x)) :
    tIsn 15 [15] cs "law.<locals>.<lambda>" (lams_law Pt) ex__law_is_nothing (ρ.set 15 (some x)) μ = some (.ok true μ) := by
  have hl := h.hi
  have ex1 : ex__law_is_nothing "Nothing" = some true := by
    show exOne "Nothing" "Nothing" = some true
    unfold exOne
    rw [if_pos rfl]
  simp only [actsL, List.mem_cons, List.not_mem_nil, or_false] at hx
  rcases hx with rfl | rfl | rfl | rfl | rfl | rfl | rfl | rfl
  · refine tIsn_x (fb := L_law_0 Pt) (h15 _) rfl ?_ ex1
    simp [L_law_0, h3, turned_non h, -wipeR_cons]
  · refine tIsn_x (fb := L_law_1 Pt) (h15 _) rfl ?_ ex1
    simp [L_law_1, lows_empty]
  · refine tIsn_x (fb := L_law_2 Pt) (h15 _) rfl ?_ ex1
    have e : pAdd (dishD l) (.tup [.non]) = M.ret (.tup (l.map pcD ++ [.non])) := by
      unfold dishD
      rw [pAdd_tup, if_pos (small_of (by simp; omega))]
    simp [L_law_2, h3, e, isplain_non (show l.length ≤ 900000 by omega), -wipeR_cons]
  · refine tIsn_x (fb := L_law_3 Pt) (h15 _) rfl ?_ ex1
    have e : pAdd (.tup ((l.map fun p => p.1).map D.int)) (.tup [.int 10000]) = M.ret (.tup ((l.map fun p => p.1).map D.int ++ [.int 10000])) := by
      rw [pAdd_tup, if_pos (small_of (by simp; omega))]
    simp [L_law_3, h7, e, plain_more h, -wipeR_cons, -List.map_map, -pAdd_tup]
  · refine tIsn_x (fb := L_law_4 Pt) (h15 _) rfl ?_ ex1
    simp [L_law_4, h7, plain_lst, -wipeR_cons, -List.map_map]
  · refine tIsn_x (fb := L_law_5 Pt) (h15 _) rfl ?_ ex1
    simp [L_law_5, lowest_no0 1 (by omega)]
  · refine tIsn_x (fb := L_law_6 Pt) (h15 _) rfl ?_ ex1
    simp [L_law_6, lowest_neg (-1) 2 (by omega)]
  · refine tIsn_x (fb := L_law_7 Pt) (h15 _) rfl ?_ ex1
    simp [L_law_7, mirrored_non]
end K00
namespace K00
open PySem PySem.Spec L2 Dn
open PyProof.Rows hiding St
theorem low_all (x y t : Nat) (hx : x ≤ 900) (hy : 1 ≤ y) (hy2 : y ≤ 900) (ht : 1 ≤ t) (ht2 : t ≤ 10000000000) : ∃ r : D, (∀ μ, G_lowest [.tup [.int (x : Int), .int (y : Int)]] μ = some (.ok r μ)) ∧ (∀ μ, G__law_lowest [.int (x : Int), .int (y : Int)] μ = some (.ok r μ)) ∧
    (∀ μ, G_lowest [.tup [.int ((x : Int) * (t : Int)), .int ((y : Int) * (t : Int))]] μ = some (.ok r μ)) ∧ ∀ μ, pNe r r μ = some (.ok (.bl false) μ) :=
  ⟨lowD x y, fun μ => lowest_1 x y (by omega) hy (by omega) μ, fun μ => law_lowest_D x y hx hy hy2 μ, fun μ => lowest_s x y t (by omega) hy (by omega) ht ht2 μ, fun μ => low_res x y μ⟩
end K00
namespace K00
open PySem PySem.Spec L2 Dn
open PyProof.Rows hiding St
theorem e2_run {p : D → D → M D} {f g : Ro → M D} {ρ : Ro} {μ : Mu} {a b c : D} (hf : f ρ μ = some (.ok a μ)) (hg : g ρ μ = some (.ok b μ)) (hp : p a b μ = some (.ok c μ)) : e2 p f g ρ μ = some (.ok c μ) := by
  rw [e2_ap, bnd_ok hf, bnd_ok hg]
  exact hp
theorem eL_run {p : List D → M D} {f : Ro → M (List D)} {ρ : Ro} {μ : Mu} {l : List D} {c : D} (hf : f ρ = M.ret l) (hp : p l μ = some (.ok c μ)) : eL p f ρ μ = some (.ok c μ) := by
  rw [eL_ap, hf, M.ret_bnd]
  exact hp
theorem aCons_run {f : Ro → M D} {g : Ro → M (List D)} {ρ : Ro} {a : D} {l : List D} (hf : f ρ = M.ret a) (hg : g ρ = M.ret l) : aCons f g ρ = M.ret (a :: l) := by
  rw [aCons_ap, hf, M.ret_bnd, hg, M.ret_bnd]
theorem eTup_run {f : Ro → M (List D)} {ρ : Ro} {l : List D} (hf : f ρ = M.ret l) (hl : l.length ≤ 1000000) : eTup f ρ = M.ret (.tup l) := by
  rw [eTup_ap, hf, M.ret_bnd, if_pos (small_of hl)]
theorem e2_ret {p : D → D → M D} {f g : Ro → M D} {ρ : Ro} {a b c : D} (hf : f ρ = M.ret a) (hg : g ρ = M.ret b) (hp : p a b = M.ret c) : e2 p f g ρ = M.ret c := by
  rw [e2_ap, hf, M.ret_bnd, hg, M.ret_bnd, hp]
theorem low_t {ρ : Ro} {x y u : Nat} {μ : Mu} {P : Bool → Mu → Prop} (e10 : eVar 10 ρ = M.ret (.int (x : Int))) (e11 : eVar 11 ρ = M.ret (.int (y : Int))) (e12 : eVar 12 ρ = M.ret (.int (u : Int))) (hx : x ≤ 900) (hy : 1 ≤ y) (hy2 : y ≤ 900) (ht : 1 ≤ u) (ht2 : u ≤ 10000000000) (p : P false μ) :
    wM (tOr' (tV (e2 pNe (eL G_lowest (aCons (eTup (aCons (eVar 10) (aCons (eVar 11) (aNil)))) (aNil))) (eL G__law_lowest (aCons (eVar 10) (aCons (eVar 11) (aNil)))))) (tV (e2 pNe (eL G_lowest (aCons (eTup (aCons (e2 pMulA (eVar 10) (eVar 12)) (aCons (e2 pMulA (eVar 11) (eVar 12)) (aNil)))) (aNil))) (eL G__law_lowest (aCons (eVar 10) (aCons (eVar 11) (aNil)))))) ρ) μ P := by
  obtain ⟨r, r1, r2, r3, r4⟩ := low_all x y u hx hy hy2 ht ht2
  have m1 : pMulA (.int (x : Int)) (.int (u : Int)) = M.ret (.int ((x : Int) * (u : Int))) := pMulA_int (.inl (by omega))
  have m2 : pMulA (.int (y : Int)) (.int (u : Int)) = M.ret (.int ((y : Int) * (u : Int))) := pMulA_int (.inl (by omega))
  have tl := eL_run (μ := μ) (aCons_run e10 (aCons_run e11 aNil_ap)) (r2 μ)
  have t1 := e2_run (eL_run (aCons_run (eTup_run (aCons_run e10 (aCons_run e11 aNil_ap)) (by simp)) aNil_ap) (r1 μ)) tl (r4 μ)
  have t2 := e2_run (eL_run (aCons_run (eTup_run (aCons_run (e2_ret e10 e12 m1) (aCons_run (e2_ret e11 e12 m2) aNil_ap)) (by simp)) aNil_ap) (r3 μ)) tl (r4 μ)
  rw [tOr_ap]
  refine wM_bnd.mpr ?_
  rw [tV_ap]
  refine wM_bnd.mpr (wM_of t1 ?_)
  rw [asB_bl]
  refine wM_ret.mpr ?_
  rw [if_neg (by decide), tV_ap]
  refine wM_bnd.mpr (wM_of t2 ?_)
  rw [asB_bl]
  exact wM_ret.mpr p
end K00
namespace K00
open PySem PySem.Spec L2 Dn
open PyProof.Rows hiding St
theorem many_12 (n : Nat) (hn : n ≤ 1000) : pMulA (.tup [.tup [.int 1, .int 2]]) (.int (n : Int)) = M.ret (dishD (List.replicate n (1, 2))) := by
  rw [pMulA_tup (by omega) (by omega) (by simp), rep_one]
  unfold dishD
  rw [List.map_replicate]
  rfl
theorem ok_31 : OkDish (List.replicate 31 ((1 : Int), (2 : Int))) := ⟨fun p hp => by
  rw [List.eq_of_mem_replicate hp]
  exact ⟨by decide, by decide, by decide⟩, by rw [List.length_replicate]; omega, by rw [List.length_replicate]; omega⟩
theorem no_32 : ¬ OkDish (List.replicate 32 ((1 : Int), (2 : Int))) := fun h => by
  have := h.hi
  rw [List.length_replicate] at this
  omega
theorem end_w {ρ : Ro} {μ : Mu} {P : D → Mu → Prop} (p : P (.bl true) μ) : wM (vAnd (e2 pIs (eL G_is_dish (aCons (e2 pMulA (eTup (aCons (eTup (aCons (eC (.int 1)) (aCons (eC (.int 2)) (aNil)))) (aNil))) (eC (.int 31))) (aNil))) (eC (.bl true))) (e2 pIs (eL G_is_dish (aCons (e2 pMulA (eTup (aCons (eTup (aCons (eC (.int 1)) (aCons (eC (.int 2)) (aNil)))) (aNil))) (eC (.int 32))) (aNil))) (eC (.bl false))) ρ) μ P := by
  have tt : eTup (aCons (eTup (aCons (eC (.int 1)) (aCons (eC (.int 2)) (aNil)))) (aNil)) ρ = M.ret (.tup [.tup [.int 1, .int 2]]) := eTup_run (aCons_run (eTup_run (aCons_run rfl (aCons_run rfl aNil_ap)) (by simp)) aNil_ap) (by simp)
  have t1 := e2_run (p := pIs) (eL_run (μ := μ) (aCons_run (e2_ret (g := eC (.int 31)) tt rfl (many_12 31 (by omega))) aNil_ap) (is_dish_D ok_31 μ)) (g := eC (.bl true)) (b := .bl true) (c := .bl true) rfl rfl
  have t2 := e2_run (p := pIs) (eL_run (μ := μ) (aCons_run (e2_ret (g := eC (.int 32)) tt rfl (many_12 32 (by omega))) aNil_ap) (dish_no no_32 (by rw [List.length_replicate]; omega) μ)) (g := eC (.bl false)) (b := .bl false) (c := .bl true) rfl rfl
  rw [vAnd_ap]
  refine wM_bnd.mpr (wM_of t1 ?_)
  rw [asB_bl]
  refine wM_bnd.mpr (wM_ret.mpr ?_)
  rw [if_pos rfl]
  exact wM_of t2 p
end K00

set_option Elab.async false
set_option linter.all false
set_option maxRecDepth 100000
set_option maxHeartbeats 4000000
/-! k00: the law. -/
namespace K00
open PySem PySem.Spec L2 Dn
open PyProof.Rows hiding St

theorem bag_w {d : D} {ns : List Int} {μ : Mu} (hd : d = .lst (ns.map D.int) ∨ d = .fls (ns.map D.int)) (hn : ns.length ≤ 63) : wM (G__law_bag [d]) μ fun r μ' => ∃ cells : List Int, cells.length ≤ 1000 ∧ r = .loc μ.length ∧ μ' = μ ++ [bagO 0 1234567891 0 cells] := by
  refine runR_w rfl ?_
  unfold B__law_bag
  simp only [wS_ret]
  obtain ⟨l', e, hl⟩ := cut_int ns none (some 63)
  refine wM_new ?_
  simp [-eComp_ap]
  refine wM_mapm (l := l') (hD := D.int) (fun i => .int (if i < 0 then -i else i)) ?_ (by omega) (fun i _ => ⟨_, rfl, by simp⟩) ?_
  · rcases hd with rfl | rfl
    · simp [e]
    · simp [e]
  · simp
    exact ⟨l'.map fun i => if i < 0 then -i else i, by simp; omega, by simp [List.map_map]⟩
theorem law_w {Pt : Str → Addr} {cs : Cells} {d : D} {ns : List Int} (hd : d = .lst (ns.map D.int) ∨ d = .fls (ns.map D.int)) (hn : ns.length ≤ 63) : wM (runF 1 19 (B_law Pt cs) [d]) [.tab (Pt "law") "law.<locals>.<lambda>"] fun r μ' => r = .bl true ∧ μ' = [.tab (Pt "law") "law.<locals>.<lambda>"] := by
  refine runF_wC rfl ?_
  unfold B_law
  refine wS_seq.mpr ?_
  simp only [wS_set]
  simp [-wS_seq]
  refine wM_mono (bag_w hd hn) fun r μ1 ⟨cells, hl, er, em⟩ => ?_
  subst er em
  have hk : Ok ([MO.tab (Pt "law") "law.<locals>.<lambda>"] ++ [bagO 0 1234567891 0 cells]) (Pt "law") cells := ⟨rfl, ⟨_, _, _, rfl⟩, fun o ho k => by
    simp at ho
    rcases ho with rfl | rfl
    · exact clo_tab
    · exact clo_bag⟩
  generalize hm : ([MO.tab (Pt "law") "law.<locals>.<lambda>"] ++ [bagO 0 1234567891 0 cells] : Mu) = μ at hk ⊢
  refine wS_seq.mpr ?_
  simp only [wS_if]
  simp [-wS_seq]
  refine wM_mono (forms_told fun o ho => hk.clo o ho _) fun r μ2 ⟨er, em⟩ => ?_
  subst er em
  simp [-wS_seq]
  refine wS_seq.mpr ?_
  refine wS_for (fun l ρ μ' => Ok μ' (Pt "law") cells ∧ ∃ z2 z3 z4 z5 z6 z7 z8 z9 z10 z11 z12 z13 z14 z15 z16 z17 z18, ρ = [some d, some (.loc 1), z2, z3, z4, z5, z6, z7, z8, z9, z10, z11, z12, z13, z14, z15, z16, z17, z18]) ?_ ?_ ?_
  · refine wM_src1 (n := 4) ?_ (by omega) (by omega)
    exact wM_of rfl ⟨rfl, rfl, hk, none, none, none, none, none, none, none, none, none, none, none, none, none, none, none, none, none, rfl⟩
  · clear hk hm
    rintro dd ds ρ μ ⟨hk, z2, z3, z4, z5, z6, z7, z8, z9, z10, z11, z12, z13, z14, z15, z16, z17, z18, rfl⟩
    refine ⟨_, rfl, ?_⟩
    refine wS_seq.mpr ?_
    simp only [wS_set]
    simp [-wS_seq]
    refine some_k hk hl (by simp) (by simp) fun m μ hm hk => ?_
    obtain ⟨t, rfl, t1, t2⟩ : ∃ t : Int, m = .int t ∧ 1 ≤ t ∧ t ≤ 31 := by
      simp at hm
      rcases hm with rfl | rfl | rfl
      · exact ⟨3, rfl, by omega, by omega⟩
      · exact ⟨9, rfl, by omega, by omega⟩
      · exact ⟨31, rfl, by omega, by omega⟩
    refine dish_k hk hl t1 t2 fun l μ hd hk => ?_
    have hlo := hd.lo
    have hhi := hd.hi
    refine wS_seq.mpr ?_
    simp only [wS_set]
    simp [-wS_seq]
    -- many
    refine wM_of (a := .int l.length) (μ' := μ) (by simp [dishD]) ?_
    refine wS_seq.mpr ?_
    simp only [wS_if]
    simp [-wS_seq, -eComp_ap, wM_eq (is_dish_D hd _)]
    refine (wM_eq (plain_D hd _)).mpr ?_
    refine wM_filt (l := l) (hD := pcD) (fun p => !decide (p.1 = p.2)) pcD (by simp [dishD]) (by omega) (fun p _ => ⟨_, rfl, by simp [pcD], fun _ => by simp⟩) ?_
    rw [wM_eq (pEq_pcs_nil _ _), filter_all_iff]
    simp [-wS_seq, -eComp_ap]
    -- the lows, the highs
    refine wS_seq.mpr ?_
    simp only [wS_if]
    simp [-wS_seq, -eComp_ap, wM_eq (lows_D hd _)]
    refine wM_mapm (l := l) (hD := pcD) (fun p => .int p.1) (by simp [dishD]) (by omega) (fun p _ => ⟨_, rfl, by simp [pcD]⟩) ?_
    have el : (l.map fun p : Pc => D.int p.1) = (l.map fun p => p.1).map D.int := by rw [List.map_map] <;> rfl
    have eh : (l.map fun p : Pc => D.int p.2) = (l.map fun p => p.2).map D.int := by rw [List.map_map] <;> rfl
    rw [el, wM_eq (pNe_ints _ _)]
    simp [-wS_seq, -eComp_ap, wM_eq (highs_D hd _)]
    refine wM_mapm (l := l) (hD := pcD) (fun p => .int p.2) (by simp [dishD]) (by omega) (fun p _ => ⟨_, rfl, by simp [pcD]⟩) ?_
    rw [eh, wM_eq (pNe_ints _ _)]
    simp [-wS_seq, -eComp_ap]
    -- by
    refine wS_seq.mpr ?_
    simp only [wS_set]
    simp [-wS_seq]
    refine take_k hk hl (by omega) (by omega) fun v μ v0 v1 hk => ?_
    simp [-wS_seq]
    generalize v - 35 = b
    refine wS_seq.mpr ?_
    simp only [wS_set]
    have rng : ∀ (f : Ro → M D) (ρ : Ro) (μ : Mu), f ρ μ = some (.ok (.int l.length) μ) → srcR1 f ρ μ = some (.ok ((List.range l.length).map fun i : Nat => D.int (i : Nat), none) μ) := fun f ρ μ h => by
      rw [← rangeD_map]
      exact (srcR1_int (μ' := μ) h (by omega) (by omega)).trans (by simp)
    refine wM_mapm (l := List.range l.length) (hD := fun i : Nat => D.int (i : Nat)) (fun i => pcD (l.getD (((i : Int) - b) % (l.length : Int)).toNat (0, 0))) (rng _ _ _ (by simp)) (by simp; omega) (fun i hi => ⟨_, rfl, by simp [dishD, pMod_int (show (0 : Int) < l.length by omega), at_pick hd]⟩) ?_
    have ep : ((List.range l.length).map fun i : Nat => pcD (l.getD (((i : Int) - b) % (l.length : Int)).toNat (0, 0))) = (pick l fun i => i - b).map pcD := by
      unfold pick
      rw [List.map_map] <;> rfl
    rw [ep]
    simp [-wS_seq]
    have od : ∀ (l : List Pc) (μ : Mu), pList [dishD l] μ = some (.ok (.lst (l.map pcD)) μ) := fun l μ => rfl
    refine wS_seq.mpr ?_
    simp only [wS_if]
    simp [-wS_seq, wM_eq (turned_D hd _ _), wM_eq (od _ _), wM_eq (pNe_pcs _ _), wM_eq (turned_D (pick_ok hd _) _ _), turn_back2 hd, wM_eq (pNe_dish _ _)]
    -- mirrored
    refine wS_seq.mpr ?_
    simp only [wS_if]
    simp [-wS_seq, -eComp_ap, wM_eq (mirrored_D hd _), wM_eq (od _ _)]
    refine wM_mapm (l := List.range l.length) (hD := fun i : Nat => D.int (i : Nat)) (fun i => pcD (l.getD ((-(i : Int)) % (l.length : Int)).toNat (0, 0))) (rng _ _ _ (by simp)) (by simp; omega) (fun i hi => ⟨_, rfl, by simp [dishD, pMod_int (show (0 : Int) < l.length by omega), at_pick hd]⟩) ?_
    have ep2 : ((List.range l.length).map fun i : Nat => pcD (l.getD ((-(i : Int)) % (l.length : Int)).toNat (0, 0))) = (pick l fun i => -i).map pcD := by
      unfold pick
      rw [List.map_map] <;> rfl
    rw [ep2, wM_eq (pNe_pcs _ _)]
    simp [-wS_seq, wM_eq (mirrored_D hd _), wM_eq (mirrored_D (pick_ok hd _) _), mirror_back hd, wM_eq (pNe_dish _ _)]
    refine wS_seq.mpr ?_
    simp only [wS_if]
    simp [-wS_seq, wM_eq (turned_D hd _ _), wM_eq (mirrored_D hd _), wM_eq (mirrored_D (pick_ok hd _) _), wM_eq (turned_D (pick_ok hd _) _ _), mirror_turn2 hd, wM_eq (pNe_dish _ _)]
    -- plain dishes
    refine wS_seq.mpr ?_
    simp only [wS_set]
    simp [-wS_seq, wM_eq (lows_D hd _)]
    rw [el]
    have ow := worths_ok hd
    refine wS_seq.mpr ?_
    simp only [wS_if]
    simp [-wS_seq, -eComp_ap, wM_eq (plain_ok ow _), -List.map_map]
    refine wM_mapm (l := l.map fun p => p.1) (hD := D.int) (fun w => pcD (w, w)) (by simp) (by simp; omega) (fun w _ => ⟨_, rfl, by simp [pcD]⟩) ?_
    have ew : (.tup ((l.map fun p => p.1).map fun w => pcD (w, w)) : D) = dishD ((l.map fun p => p.1).map fun w => (w, w)) := by
      unfold dishD
      rw [List.map_map (g := pcD)] <;> rfl
    simp [-wS_seq, -List.map_map]
    rw [ew, wM_eq (pNe_dish _ _)]
    simp [-wS_seq, -List.map_map, wM_eq (plain_ok ow _), wM_eq (plain_D ow _)]
    -- what is no dish
    refine wS_seq.mpr ?_
    simp only [wS_set]
    refine wM_of (a := .lst (bents l)) (μ' := μ) ?_ ?_
    · have e1 : pMulA (dishD l) (.int 32) = M.ret (dishD (List.replicate 32 l).flatten) := by
        unfold dishD
        rw [pMulA_tup (by omega) (by omega) (by simp; omega), rep_pcs]
      have e2 : pSl (dishD l) none (some (-1)) = M.ret (.tup ((l.take (l.length - 1)).map pcD)) := by
        unfold dishD
        rw [pSl_tup, cut_pcs hlo]
      have e3 : ∀ (a : List Pc) (d : D), a.length ≤ 31 → pAdd (.tup (a.map pcD)) (.tup [d]) = M.ret (.tup (a.map pcD ++ [d])) := fun a d ha => by
        rw [pAdd_tup, if_pos (small_of (by simp; omega))]
      have e4 : pList [dishD l] = M.ret (.lst (l.map pcD)) := rfl
      have e5 : pAdd (dishD l) (.tup [.tup [.int 1, .int 0]]) = M.ret (dishD (l ++ [(1, 0)])) := by
        unfold dishD
        rw [e3 l _ hhi]
        simp [pcD]
      have e6 : pAdd (.tup ((l.take (l.length - 1)).map pcD)) (.tup [.tup [.int 0, .int 10000]]) = M.ret (dishD (l.take (l.length - 1) ++ [(0, 10000)])) := by
        unfold dishD
        rw [e3 _ _ (by simp; omega)]
        simp [pcD]
      have e7 := e3 (l.take (l.length - 1)) .non (by simp; omega)
      have e8 : (.tup [] : D) = dishD [] := rfl
      simp [e1, e2, e4, e5, e6, e7, show l.length ≤ 1000000 by omega, bents, e8]
      simp [dishD, pcD]
    refine wS_seq.mpr ?_
    simp only [wS_if]
    simp [-wS_seq, -eComp_ap]
    refine wM_filt (l := bents l) (hD := id) (fun _ => false) id (by simp) (by simp [bents]) (fun x hx => ⟨_, rfl, by simp [M.bnd_bnd, bnd_ok (bents_no hd hx μ)], by simp⟩) ?_
    rw [filter_none]
    simp [-wS_seq]
    rw [wM_eq pNe_nil]
    simp [-wS_seq]
    -- lowest terms
    have ec : List.map (D.int ∘ fun p : Pc => p.1) l = (l.map fun p => p.1).map D.int := by rw [List.map_map]
    rw [ec]
    refine wS_seq.mpr ?_
    simp only [wS_par3]
    try simp [-wS_seq, -List.map_map]
    refine take_k hk hl (by omega) (by omega) fun v μ v0 v1 hk => ?_
    try simp [-wS_seq, -List.map_map]
    refine take_k hk hl (by omega) (by omega) fun v2 μ v20 v21 hk => ?_
    try simp [-wS_seq, -List.map_map]
    refine wM_pow (n := 9) (by decide) (by decide) ?_
    refine take_k hk hl (by decide) (by decide) fun v3 μ v30 v31 hk => ?_
    try simp [-wS_seq, -List.map_map]
    refine ⟨_, _, _, ⟨rfl, rfl, rfl⟩, ?_⟩
    obtain ⟨x, rfl⟩ : ∃ x : Nat, v = x := ⟨v.toNat, by omega⟩
    obtain ⟨y, hy⟩ : ∃ y : Nat, 1 + v2 = y := ⟨(1 + v2).toNat, by omega⟩
    obtain ⟨u, hu⟩ : ∃ u : Nat, 1 + v3 = u := ⟨(1 + v3).toNat, by omega⟩
    rw [hy, hu]
    have v31 : v3 < 1000000000 := v31
    refine wS_seq.mpr ?_
    simp only [wS_if]
    refine low_t rfl rfl rfl (x := x) (y := y) (u := u) (by omega) (by omega) (by omega) (by omega) (by omega) ?_
    rw [if_neg (by decide)]
    simp only [wS_next]
    -- what is refused
    have tb := hk.tab
    have hlt0 : 0 < μ.length := (List.getElem?_eq_some_iff.mp tb).1
    have tb' : ∀ o : MO, (μ ++ [o])[0]? = some (.tab (Pt "law") "law.<locals>.<lambda>") := fun o => by rw [get_app hlt0]; exact tb
    refine wS_seq.mpr ?_
    simp only [wS_set]
    refine wM_new ?_
    simp only [aCons_ap, aNil_ap, M.ret_bnd, wM_bnd, wM_ret]
    refine wM_lam tb ?_
    try simp [-wS_seq, -List.map_map, -eComp_ap]
    have put_ : ∀ o o' : MO, (μ ++ [o]).set μ.length o' = μ ++ [o'] := fun o o' => set_last
    iterate 7
      refine wS_seq.mpr ?_
      simp only [wS_expr]
      try simp [-wS_seq, -List.map_map, -eComp_ap]
      refine wM_chk get_last ?_
      refine wM_lam (tb' _) ?_
      refine wM_append get_last (by simp) ?_
      rw [put_]
      try simp only [List.cons_append, List.nil_append]
    have oa := clo_acts cs
    have ea : ([cl cs 0 syn_law_0, cl cs 1 syn_law_1, cl cs 2 syn_law_2, cl cs 3 syn_law_3, cl cs 4 syn_law_4, cl cs 5 syn_law_5, cl cs 6 syn_law_6, cl cs 7 syn_law_7] : List D) = actsL cs := rfl
    have hA := get_last (μ := μ) (o := MO.lst (actsL cs))
    show wM _ (μ ++ [MO.lst (actsL cs)]) _
    refine wM_filtH (l := actsL cs) (hD := id) (lk := some μ.length) (fun _ => false) id ?_ ?_ (by simp [actsL]) (fun x hx => ⟨_, rfl, ?_, by simp⟩) ?_
    · rw [srcI_ap]
      simp only [eVar_s, eVar_0, M.of_some, M.ret_bnd, List.map_id]
      exact itemsM_loc hA
    · rw [List.map_id]
      exact hA
    · rw [tNot_ap]
      refine (bnd_ok (act_no hd hx (fun x => rfl) (fun x => rfl) (fun x => rfl))).trans rfl
    · rw [filter_none]
      simp
      rw [wM_eq pNe_nil]
      simp
      refine ⟨tb' _, ?_, fun o ho k => ?_⟩
      · obtain ⟨a, b, c, hb⟩ := hk.bag
        have h1 : 1 < μ.length := (List.getElem?_eq_some_iff.mp hb).1
        exact ⟨a, b, c, by rw [get_app h1]; exact hb⟩
      · rcases List.mem_append.mp ho with ho | ho
        · exact hk.clo o ho k
        · simp at ho
          rw [ho]
          exact oa k
  · clear hk hm
    rintro ρ μ ⟨hk, z2, z3, z4, z5, z6, z7, z8, z9, z10, z11, z12, z13, z14, z15, z16, z17, z18, rfl⟩
    simp only [wS_ret]
    refine end_w ?_
    have htab := hk.tab
    obtain ⟨a, b, c, hb⟩ := hk.bag
    have h1 : 1 < μ.length := (List.getElem?_eq_some_iff.mp hb).1
    have hcut : cut 1 μ = some [.tab (Pt "law") "law.<locals>.<lambda>"] := by
      unfold cut
      cases μ with
      | nil => simp at h1
      | cons o r =>
        simp at htab
        subst htab
        simp [mapO, fzO]
    exact ⟨.bl true, fz_bl, _, hcut, by omega, rfl, rfl⟩
theorem plain (K : PySem.W.Frag) (ns : List Int) (hn : ns.length ≤ 63) : ∃ μ, G_law (tabA K) [.lst (ns.map D.int)] (tabMu K tf) = some (.ok (.bl true) μ) ∧ ∃ μ2, G_law (tabA K) [.fls (ns.map D.int)] (tabMu K tf) = some (.ok (.bl true) μ2) := by
  have e : tabMu K tf = [.tab (tabA K "law") "law.<locals>.<lambda>"] := rfl
  rw [e]
  have go : ∀ d : D, (d = .lst (ns.map D.int) ∨ d = .fls (ns.map D.int)) → G_law (tabA K) [d] [.tab (tabA K "law") "law.<locals>.<lambda>"] = some (.ok (.bl true) [.tab (tabA K "law") "law.<locals>.<lambda>"]) := fun d hd => by
    unfold G_law
    refine allC_of fun cs => ?_
    exact eq_of_w (law_w (Pt := tabA K) (cs := cs) hd hn)
  exact ⟨_, go _ (.inl rfl), _, go _ (.inr rfl)⟩
end K00

set_option Elab.async false
set_option linter.all false
set_option maxRecDepth 100000
set_option maxHeartbeats 0
/-! fourninths_k00_whole_dishes_manners_and: the head, printed by gen.py -/
namespace K00
open PySem PySem.Spec L2 Dn
open PyProof.Rows hiding St
def dd (x nm : Str) (i : Nat) : He.DefD := ⟨(x, none), nm, nm, defArgs (topS i), defBody (topS i), defScope (topS i), [], []⟩
def fa : List He.Fa := ([.glo "_law_bag", .glo "is_sized", .glo "is_integer", .glo "is_between", .glo "is_piece", .glo "is_manner", .glo "is_share", .glo "_law_are_forms_told", .glo "_law_take", .glo "_law_some", .glo "_law_dish", .glo "is_tuple_of", .glo "is_dish", .glo "check_dish", .glo "is_plain", .glo "lows_of", .glo "highs_of", .glo "turned_by", .glo "mirrored", .glo "plain_dish", .glo "is_count", .glo "lowest", .glo "_law_lowest", .glo "law", .free "abs", .free "all", .free "bool", .free "int", .free "isinstance", .free "len"] : List He.Fa) ++ ([.free "list", .free "range", .free "tuple", .glo "Nothing", .exc "Nothing", .glo "_law_is_nothing", .exm "Nothing" "Nothing" true, .int "MOST_WORTH" 9999, .int "MOST_JUMPS" 2, .int "MOST_PIECES" 31] : List He.Fa)
def fn : List He.DefD := ([dd "_law_bag" "_law_bag" 27, dd "is_sized" "is_sized" 8, dd "is_integer" "is_integer" 5, dd "is_between" "is_between" 7, dd "is_piece" "is_piece" 14, dd "is_manner" "is_manner" 17, dd "is_share" "is_share" 18, dd "_law_are_forms_told" "_law_are_forms_told" 33, dd "_law_take" "_law_take" 28, dd "_law_some" "_law_some" 29, dd "_law_dish" "_law_dish" 31, dd "is_tuple_of" "is_tuple_of" 9, dd "is_dish" "is_dish" 15, dd "check_dish" "check_dish" 16, dd "is_plain" "is_plain" 19, dd "lows_of" "lows_of" 21, dd "highs_of" "highs_of" 22, dd "turned_by" "turned_by" 23, dd "mirrored" "mirrored" 24, dd "plain_dish" "plain_dish" 20, dd "is_count" "is_count" 6, dd "lowest" "lowest" 25, dd "_law_lowest" "_law_lowest" 32, dd "law" "law" 34, dd "_law_is_nothing" "_law_is_nothing" 30] : List He.DefD)
def exL (K : PySem.W.Frag) : List Bool := [decide (tf.map fun p => tabA K p.1).Nodup]
def exF (K : PySem.W.Frag) : Bool := (exL K).all id
abbrev tfD : List He.Defn := tf.map fun p => (p.1, none)
abbrev RR : PySem.W.OpenRow := PySem.W.OpenLaw.row PySem.Challenge.rw_fourninths_k00_whole_dishes_manners_and
abbrev hk : PySem.W.Hook := He.hookX 5 fa fn [] tfD exF
def ob (s : PySem.W.SharedT) : He.AlX := He.obsX 5 fa fn [] tfD exF (HandSHeadRun.getT s)
theorem ob_eq (s : PySem.W.SharedT) : ob s = hk.obs s.abs := He.obsX_eq (HandSHeadRun.getT_eq s)
def loose : List Str := (["_wall", "DishError", "Nothing", "is_integer", "is_count", "is_between", "is_sized", "is_tuple_of", "MOST_PIECES", "MOST_WORTH", "MOST_JUMPS", "is_piece", "is_dish", "check_dish", "is_manner", "is_share", "is_plain", "plain_dish", "lows_of", "highs_of", "turned_by", "mirrored", "lowest", "_law_bag", "_law_take", "_law_some", "_law_is_nothing", "_law_dish", "_law_lowest", "_law_are_forms_told"] : List Str)
theorem run (w : World) : HandSHeadRun.RunEq RR (PySem.W.view RR.prog [34]) hk ob 3000 loose w := by
  intro os
  kernel_rfl
theorem exAt {K : PySem.W.Frag} {h : Heap} {w : World} (c : He.SaysX fa fn [] tfD exF w h K) (i : Nat) {b : Bool} (e : (exL K)[i]? = some b) : b = true := by
  have := List.all_eq_true.mp c.more b (List.mem_of_getElem? e)
  exact this
theorem txt {K : PySem.W.Frag} {h base : Heap} {mg : Str → Option Value} {w : World} (X : K.In h) (G : h.Ns mainGlobals mg) (c : He.SaysX fa fn [] tfD exF w h K) (hT : ∀ p ∈ tf, LamX.TabB base mg (codA K p.1) (tabA K p.1)) : Txt K mg base where
  g__law_bag := He.glo_ok X G (c.t.d.fact 0 rfl)
  d__law_bag := c.t.d.def_ 0 (d := dd "_law_bag" "_law_bag" 27) rfl
  g_is_sized := He.glo_ok X G (c.t.d.fact 1 rfl)
  d_is_sized := c.t.d.def_ 1 (d := dd "is_sized" "is_sized" 8) rfl
  g_is_integer := He.glo_ok X G (c.t.d.fact 2 rfl)
  d_is_integer := c.t.d.def_ 2 (d := dd "is_integer" "is_integer" 5) rfl
  g_is_between := He.glo_ok X G (c.t.d.fact 3 rfl)
  d_is_between := c.t.d.def_ 3 (d := dd "is_between" "is_between" 7) rfl
  g_is_piece := He.glo_ok X G (c.t.d.fact 4 rfl)
  d_is_piece := c.t.d.def_ 4 (d := dd "is_piece" "is_piece" 14) rfl
  g_is_manner := He.glo_ok X G (c.t.d.fact 5 rfl)
  d_is_manner := c.t.d.def_ 5 (d := dd "is_manner" "is_manner" 17) rfl
  g_is_share := He.glo_ok X G (c.t.d.fact 6 rfl)
  d_is_share := c.t.d.def_ 6 (d := dd "is_share" "is_share" 18) rfl
  g__law_are_forms_told := He.glo_ok X G (c.t.d.fact 7 rfl)
  d__law_are_forms_told := c.t.d.def_ 7 (d := dd "_law_are_forms_told" "_law_are_forms_told" 33) rfl
  g__law_take := He.glo_ok X G (c.t.d.fact 8 rfl)
  d__law_take := c.t.d.def_ 8 (d := dd "_law_take" "_law_take" 28) rfl
  g__law_some := He.glo_ok X G (c.t.d.fact 9 rfl)
  d__law_some := c.t.d.def_ 9 (d := dd "_law_some" "_law_some" 29) rfl
  g__law_dish := He.glo_ok X G (c.t.d.fact 10 rfl)
  d__law_dish := c.t.d.def_ 10 (d := dd "_law_dish" "_law_dish" 31) rfl
  g_is_tuple_of := He.glo_ok X G (c.t.d.fact 11 rfl)
  d_is_tuple_of := c.t.d.def_ 11 (d := dd "is_tuple_of" "is_tuple_of" 9) rfl
  g_is_dish := He.glo_ok X G (c.t.d.fact 12 rfl)
  d_is_dish := c.t.d.def_ 12 (d := dd "is_dish" "is_dish" 15) rfl
  g_check_dish := He.glo_ok X G (c.t.d.fact 13 rfl)
  d_check_dish := c.t.d.def_ 13 (d := dd "check_dish" "check_dish" 16) rfl
  g_is_plain := He.glo_ok X G (c.t.d.fact 14 rfl)
  d_is_plain := c.t.d.def_ 14 (d := dd "is_plain" "is_plain" 19) rfl
  g_lows_of := He.glo_ok X G (c.t.d.fact 15 rfl)
  d_lows_of := c.t.d.def_ 15 (d := dd "lows_of" "lows_of" 21) rfl
  g_highs_of := He.glo_ok X G (c.t.d.fact 16 rfl)
  d_highs_of := c.t.d.def_ 16 (d := dd "highs_of" "highs_of" 22) rfl
  g_turned_by := He.glo_ok X G (c.t.d.fact 17 rfl)
  d_turned_by := c.t.d.def_ 17 (d := dd "turned_by" "turned_by" 23) rfl
  g_mirrored := He.glo_ok X G (c.t.d.fact 18 rfl)
  d_mirrored := c.t.d.def_ 18 (d := dd "mirrored" "mirrored" 24) rfl
  g_plain_dish := He.glo_ok X G (c.t.d.fact 19 rfl)
  d_plain_dish := c.t.d.def_ 19 (d := dd "plain_dish" "plain_dish" 20) rfl
  g_is_count := He.glo_ok X G (c.t.d.fact 20 rfl)
  d_is_count := c.t.d.def_ 20 (d := dd "is_count" "is_count" 6) rfl
  g_lowest := He.glo_ok X G (c.t.d.fact 21 rfl)
  d_lowest := c.t.d.def_ 21 (d := dd "lowest" "lowest" 25) rfl
  g__law_lowest := He.glo_ok X G (c.t.d.fact 22 rfl)
  d__law_lowest := c.t.d.def_ 22 (d := dd "_law_lowest" "_law_lowest" 32) rfl
  g_law := He.glo_ok X G (c.t.d.fact 23 rfl)
  b_abs := He.free_ok X G (c.t.d.fact 24 rfl)
  b_all := He.free_ok X G (c.t.d.fact 25 rfl)
  b_bool := He.free_ok X G (c.t.d.fact 26 rfl)
  b_int := He.free_ok X G (c.t.d.fact 27 rfl)
  b_isinstance := He.free_ok X G (c.t.d.fact 28 rfl)
  b_len := He.free_ok X G (c.t.d.fact 29 rfl)
  b_list := He.free_ok X G (c.t.d.fact 30 rfl)
  b_range := He.free_ok X G (c.t.d.fact 31 rfl)
  b_tuple := He.free_ok X G (c.t.d.fact 32 rfl)
  x_Nothing := exc_c X G (c.t.d.fact 33 rfl) (c.t.d.fact 34 rfl)
  isn__law_is_nothing := isn_d (nm := "_law_is_nothing") (qual := "_law_is_nothing") (pg := defArgs (topS 30)) (bg := defBody (topS 30)) (sg := defScope (topS 30)) X G (c.t.d.def_ 24 (d := dd "_law_is_nothing" "_law_is_nothing" 30) rfl) (c.t.d.fact 35 rfl) (c.t.d.fact 33 rfl) (c.t.d.fact 36 rfl) ⟨rfl, rfl, rfl, by decide +kernel, rfl, by decide +kernel, by decide +kernel⟩ (fun _ _ _ _ _ _ us hl => match us, hl with | [_], _ => rfl) ⟨_, _, _, _, _, _, _, _, _, _, _, _, rfl⟩ (Or.inl rfl) rfl (by decide) (by decide) (by decide) (by decide)
  c_MOST_WORTH := He.int_ok X G (c.t.d.fact 37 rfl)
  c_MOST_JUMPS := He.int_ok X G (c.t.d.fact 38 rfl)
  c_MOST_PIECES := He.int_ok X G (c.t.d.fact 39 rfl)
  t_law := hT ("law", "law.<locals>.<lambda>") (by simp [tf])
theorem lawAt {w : World} {mg : Str → Option Value} {fad : Addr} {h : Heap} {K : PySem.W.Frag} (KX : K.In h) (G : h.Ns mainGlobals mg) (c : He.SaysX fa fn [] tfD exF w h K) (hm : mg "law" = some (.ref fad)) : LamX.LawAtS PySem.Challenge.rw_fourninths_k00_whole_dishes_manners_and w K (L2.CX (PySem.Challenge.rw_fourninths_k00_whole_dishes_manners_and).prog w) 10 63 "script" mg fad h := by
  obtain ⟨fd, F⟩ := c.t.d.def_ 23 (d := dd "law" "law" 34) rfl
  have b := FunD.bindsA (ps := ["script"]) F fun _ _ _ _ _ _ us hl => match us, hl with | [_], _ => rfl
  exact law_at KX G c hm (He.glo_ok KX G (c.t.d.fact 23 rfl)) (fun s v => b s [v] rfl) (of_decide_eq_true (exAt c 0 rfl)) (fun base hk hns hT => fn_law (txt KX G c hT) F) (fun ns hn => plain K ns hn)
end K00
open PySem PySem.W PySem.Calls PyProof.Rows
theorem PySem.Challenge.cw_fourninths_k00_whole_dishes_manners_and_holds : PySem.Challenge.rw_fourninths_k00_whole_dishes_manners_and.Holds := by
  w_on; o_law
  refine HandSHeadRun.head_any (r := OpenLaw.row PySem.Challenge.rw_fourninths_k00_whole_dishes_manners_and) (q := view (OpenLaw.row PySem.Challenge.rw_fourninths_k00_whole_dishes_manners_and).prog [34]) (H := K00.hk) (ob := K00.ob) (M := 3000) (loose := K00.loose) (d := HandSHeadRun.topDef (OpenLaw.row PySem.Challenge.rw_fourninths_k00_whole_dishes_manners_and).prog 34) (kwd := []) K00.ob_eq
    (by kernel_rfl) (fun s => by kernel_rfl) K00.run (by kernel_rfl) (by kernel_rfl) (by kernel_rfl) (by rfl) (by first | assumption | decide +kernel) (by decide +kernel) ⟨rfl, rfl, rfl, rfl, rfl, by decide +kernel⟩ ?hw ?hc
  case hw => w_witness2
  case hc =>
    refine LamX.walk_ofTsE (l := PySem.Challenge.rw_fourninths_k00_whole_dishes_manners_and) (n := 63) (k := 10) (x := "script") (CX := fun w => L2.CX (PySem.Challenge.rw_fourninths_k00_whole_dishes_manners_and).prog w) rfl (by decide) (by kernel_rfl) ⟨rfl, by decide, by decide⟩ ?F (fun _ _ _ _ _ z => Dn.cx_none z)
    intro w mg fa h Y G hmg0
    obtain ⟨K, KX, c⟩ := Y
    have hmg : mg ("law" : PySem.Str) = some (.ref fa) := by
      have e : (HandSHeadRun.topDef (OpenLaw.row PySem.Challenge.rw_fourninths_k00_whole_dishes_manners_and).prog 34).name = ("law" : PySem.Str) := by kernel_rfl
      rw [← e]
      exact hmg0
    exact ⟨K, KX, K00.lawAt KX G c hmg⟩

