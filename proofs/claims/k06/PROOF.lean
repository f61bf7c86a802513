import PyProof.Rows.All
import Wide.All
import OpenK.AllK
import Wide.FinOn
import HandS.Base
import HandS.Call
import HandS.List
import HandS.Comp
import HandS.Ends
import HandS.Wide
import HandS.Dict
import HandS.Iter
import HandS.Text
import HandS.Words
import HandS.WordsList
import HandS.Exc
import HandS.ExcOwn
import HandS.TryOnly
import HandS.Deep
import HandS.IsInst
import HandS.TupAny
import HandS.Style
import HandS.Zip
import HandS.WordsExc
import HandS.Conv
import HandS.SortOrd
import HandS.TupSets
import HandS.ForMost
import HandS.SetFor
import HandS.Strs
import HandS.TupLe
import HandS.Zip0
import KE.GoesZip
import PyProof.TupleOfSeq
import KE.SortData
import KE.KExcIs
import HandS.ExcInit
import HandS.ExcValue
import HandS.Flow
import HandS.RaiseMore
import PyProof.ReprLen
import PyProof.Rows.FactsT3
import HandS.Set
import PyProof.SetRoads
import HandS.Walk
import HandS.WordsDict
import HandS.DictTup
import HandS.DictEq
import HandS.Sort
import KE.KDictWalk
import KE.KEqDict
import KE.KDictPairs
import KE.KDictCopyH
import KE.KDictKeyed
import HandS.More
import HandS.Replace
import HandS.HeadHook3
import HandS.Head0
import HandS.Head1
import HandS.Head2
import HandS.HeadHook1
import HandS.HeadHook2
import HandS.HeadEnd
import PySem.Challenge.RW_lotjoin_k06_refusals_apart
set_option Elab.async false
set_option linter.all false
set_option maxRecDepth 100000
noncomputable section
namespace EV
open PySem PySem.Spec PyProof.Rows L2

inductive D where
  | non | bl (b : Bool) | int (i : Int) | str (x : Str)
  | lst (xs : List D) | tup (xs : List D) | ob (n : Nat)
  | ow (xs : List D) | bo (xs : List D)
  | od (kvs : List (Key × D))
  | ot (kvs : List (List Key × D))
  | exn (c : Str) (p : Option Int)
  | fk (kvs : List (Key × D)) | ft (kvs : List (List Key × D)) | tk (ks : List Key)
deriving Inhabited
inductive WO where
  | lst (xs : List D)
  | ins (c : Str) (fs : List (Str × D))
  | dct (kvs : List (Key × D))
abbrev World := List WO
abbrev Env := List (Option D)
structure Ex where
  cls : Str
  arg : Option D
inductive Res (α : Type) where
  | ok (a : α) (W : World)
  | exc (x : Ex) (W : World)
  | stuck
def Res.bind {α β : Type} (r : Res α) (k : α → World → Res β) : Res β :=
  match r with
  | .ok a W => k a W
  | .exc x W => .exc x W
  | .stuck => .stuck
@[simp] theorem Res.bind_ok {α β : Type} (a : α) (W : World) (k : α → World → Res β) : (Res.ok a W).bind k = k a W := rfl
@[simp] theorem Res.bind_exc {α β : Type} (x : Ex) (W : World) (k : α → World → Res β) : (Res.exc x W).bind k = .exc x W := rfl
@[simp] theorem Res.bind_stuck {α β : Type} (k : α → World → Res β) : (Res.stuck : Res α).bind k = .stuck := rfl
def Res.ofO {α : Type} (o : Option α) (W : World) : Res α := match o with
  | some a => .ok a W
  | none => .stuck
@[simp] theorem Res.ofO_some {α : Type} (a : α) (W : World) : Res.ofO (some a) W = .ok a W := rfl
@[simp] theorem Res.ofO_none {α : Type} (W : World) : (Res.ofO none W : Res α) = .stuck := rfl
abbrev EF := Env → World → Res D
/-- a worth that the kernel never unfolds -/
def lock {α : Sort _} (a : α) : α := Classical.choose (⟨a, rfl⟩ : ∃ b : α, b = a)
theorem lock_eq {α : Sort _} (a : α) : lock a = a := Classical.choose_spec (⟨a, rfl⟩ : ∃ b : α, b = a)
def LINE : Nat := lock 16777216
theorem LINE_v : LINE = 16777216 := lock_eq _
theorem LINE_eq : LINE = sizeLine := LINE_v.trans sizeLine_eq.symm

/-- an exception's object, of the class cls, its dict at d -/
def ExT (cls : Value) (d : Option Addr) (a : Addr) : HO := .ext fun h => ∃ (oe : Obj) (vs : Array Value), h.get? a = some oe ∧ Zc cls d oe ∧ oe.data = .fields vs
def CIs (K : PySem.W.Frag) (x : Str) (C : Addr) : Prop := PySem.W.nsIn K mainGlobals x = some (some (.ref C))
def XdIs (G : Hp) (dd : Option Addr) : Option Int → Prop
  | none => dd = none
  | some i => ∃ dp, dd = some dp ∧ G dp = some (.xd [("place", .int i)])
theorem XdIs.mono {G G' : Hp} {dd : Option Addr} {p : Option Int} (s : Same G G') (h : XdIs G dd p) : XdIs G' dd p := by
  cases p with
  | none => exact h
  | some i => obtain ⟨dp, e, q⟩ := h; exact ⟨dp, e, s _ _ q⟩
section
variable (K : PySem.W.Frag) (A : List Addr) (G : Hp)
mutual
inductive Is : V → D → Prop
  | non : Is .non .non
  | bl (b : Bool) : Is (.bl b) (.bl b)
  | int (i : Int) : Is (.int i) (.int i)
  | str (x : Str) : Is (.str x) (.str x)
  | lst {a : Addr} {vs : List V} {ds : List D} : G a = some (.lst vs) → ds.length ≤ LINE → IsAll vs ds → Is (.ref a) (.lst ds)
  | tup {a : Addr} {vs : List V} {ds : List D} : SqT K G a vs → ds.length ≤ LINE → IsAll vs ds → Is (.ref a) (.tup ds)
  | ob {n : Nat} {a : Addr} : A[n]? = some a → Is (.ref a) (.ob n)
  | exn {a C : Addr} {c : Str} {p : Option Int} {dd : Option Addr} : CIs K c C → G a = some (ExT (.ref C) dd a) → XdIs G dd p → Is (.ref a) (.exn c p)
  | fk {a : Addr} {o : Obj} {hk : List (Key × V)} {kvs : List (Key × D)} : G a = some (.frz o (.dK hk)) → kvs.length ≤ LINE → hk.map (·.1) = kvs.map (·.1) → IsAll (hk.map (·.2)) (kvs.map (·.2)) → Is (.ref a) (.fk kvs)
  | ft {a : Addr} {o : Obj} {hk : List (List Key × V)} {kvs : List (List Key × D)} : G a = some (.frz o (.dT hk)) → kvs.length ≤ LINE → hk.map (·.1) = kvs.map (·.1) → IsAll (hk.map (·.2)) (kvs.map (·.2)) → Is (.ref a) (.ft kvs)
  | tk {a : Addr} {ks : List Key} : G a = some (.tup (ks.map kV)) → ks.length ≤ LINE → Is (.ref a) (.tk ks)
inductive IsAll : List V → List D → Prop
  | nil : IsAll [] []
  | cons {v : V} {vs : List V} {d : D} {ds : List D} : Is v d → IsAll vs ds → IsAll (v :: vs) (d :: ds)
end
end
section
variable {K : PySem.W.Frag} {A A' : List Addr} {G G' H H' H0 : Hp} {v u : V} {d e : D}
theorem sqT_mono {a : Addr} {xs : List V} (g : Same G G') (h : SqT K G a xs) : SqT K G' a xs := by
  rcases h with (h | ⟨o, h⟩) | h
  · exact .inl (.inl (g _ _ h))
  · exact .inl (.inr ⟨o, g _ _ h⟩)
  · exact .inr h
theorem pre_get {n : Nat} {a : Addr} (p : A <+: A') (h : A[n]? = some a) : A'[n]? = some a := by
  obtain ⟨t, rfl⟩ := p
  have hl : n < A.length := (List.getElem?_eq_some_iff.mp h).1
  rw [List.getElem?_append_left hl]
  exact h
mutual
theorem Is.mono (p : A <+: A') (g : Same G G') : ∀ {v : V} {d : D}, Is K A G v d → Is K A' G' v d
  | _, _, .non => .non
  | _, _, .bl b => .bl b
  | _, _, .int i => .int i
  | _, _, .str x => .str x
  | _, _, .lst h l s => .lst (g _ _ h) l (IsAll.mono p g s)
  | _, _, .tup h l s => .tup (sqT_mono g h) l (IsAll.mono p g s)
  | _, _, .ob h => .ob (pre_get p h)
  | _, _, .exn h e x => .exn h (g _ _ e) (x.mono g)
  | _, _, .fk h l e s => .fk (g _ _ h) l e (IsAll.mono p g s)
  | _, _, .ft h l e s => .ft (g _ _ h) l e (IsAll.mono p g s)
  | _, _, .tk h l => .tk (g _ _ h) l
theorem IsAll.mono (p : A <+: A') (g : Same G G') : ∀ {vs : List V} {ds : List D}, IsAll K A G vs ds → IsAll K A' G' vs ds
  | _, _, .nil => .nil
  | _, _, .cons h t => .cons (Is.mono p g h) (IsAll.mono p g t)
end
theorem IsAll.length : ∀ {vs : List V} {ds : List D}, IsAll K A G vs ds → vs.length = ds.length
  | _, _, .nil => rfl
  | _, _, .cons _ t => by rw [List.length_cons, List.length_cons, IsAll.length t]
theorem IsAll.get : ∀ {vs : List V} {ds : List D} {i : Nat} {d : D}, IsAll K A G vs ds → ds[i]? = some d → ∃ v, vs[i]? = some v ∧ Is K A G v d
  | _, _, _, _, .nil, e => by simp at e
  | _, _, 0, _, .cons h _, e => by simp at e; subst e; exact ⟨_, rfl, h⟩
  | _, _, i + 1, d, .cons _ t, e => by
    obtain ⟨v, h1, h2⟩ := IsAll.get (i := i) (d := d) t (by simpa using e)
    exact ⟨v, by simpa using h1, h2⟩
theorem IsAll.get' : ∀ {vs : List V} {ds : List D} {i : Nat} {v : V}, IsAll K A G vs ds → vs[i]? = some v → ∃ d, ds[i]? = some d ∧ Is K A G v d
  | _, _, _, _, .nil, e => by simp at e
  | _, _, 0, _, .cons h _, e => by simp at e; subst e; exact ⟨_, rfl, h⟩
  | _, _, i + 1, v, .cons _ t, e => by
    obtain ⟨d, h1, h2⟩ := IsAll.get' (i := i) (v := v) t (by simpa using e)
    exact ⟨d, by simpa using h1, h2⟩
theorem IsAll.append : ∀ {vs us : List V} {ds es : List D}, IsAll K A G vs ds → IsAll K A G us es → IsAll K A G (vs ++ us) (ds ++ es)
  | _, _, _, _, .nil, s => s
  | _, _, _, _, .cons h t, s => .cons h (IsAll.append t s)
theorem IsAll.set (h : Is K A G v d) : ∀ {vs : List V} {ds : List D} (i : Nat), IsAll K A G vs ds → IsAll K A G (vs.set i v) (ds.set i d)
  | _, _, _, .nil => .nil
  | _, _, 0, .cons _ t => .cons h t
  | _, _, i + 1, .cons q t => .cons q (IsAll.set h i t)
theorem IsAll.take : ∀ {vs : List V} {ds : List D} (n : Nat), IsAll K A G vs ds → IsAll K A G (vs.take n) (ds.take n)
  | _, _, 0, _ => .nil
  | _, _, _ + 1, .nil => .nil
  | _, _, n + 1, .cons r t => .cons r (IsAll.take n t)
theorem IsAll.drop : ∀ {vs : List V} {ds : List D} (n : Nat), IsAll K A G vs ds → IsAll K A G (vs.drop n) (ds.drop n)
  | _, _, 0, r => r
  | _, _, _ + 1, .nil => .nil
  | _, _, n + 1, .cons _ t => IsAll.drop n t
theorem IsAll.eraseIdx : ∀ {vs : List V} {ds : List D} (n : Nat), IsAll K A G vs ds → IsAll K A G (vs.eraseIdx n) (ds.eraseIdx n)
  | _, _, _, .nil => .nil
  | _, _, 0, .cons _ t => t
  | _, _, n + 1, .cons r t => .cons r (IsAll.eraseIdx n t)

/-- the pairs of a dict -/
abbrev KAll {κ : Type} (K : PySem.W.Frag) (A : List Addr) (G : Hp) : List (κ × V) → List (κ × D) → Prop := Paired fun (p : κ × V) (q : κ × D) => p.1 = q.1 ∧ Is K A G p.2 q.2
theorem KAll.mono {κ : Type} (p : A <+: A') (g : Same G G') {hk : List (κ × V)} {kvs : List (κ × D)} (h : KAll K A G hk kvs) : KAll K A' G' hk kvs := Paired.mapP h fun _ _ z => ⟨z.1, z.2.mono p g⟩

/-- a list of the written part -/
def KLst (K : PySem.W.Frag) (a : Addr) (xs : List V) : Prop := ∃ (o : Obj) (its : Array Value) (n : Nat), K.lookup a = some o ∧ o.cls = .type "list" ∧ o.dict = none ∧ o.data = .seq its n ∧ its.size ≤ sizeLine ∧ Vals xs its.toList
/-- what stands in a slot, or comes out of an expression -/
def SIs (K : PySem.W.Frag) (H0 : Hp) (A : List Addr) (G H : Hp) (v : V) (d : D) : Prop :=
  match d with
  | .ow xs => ∃ p vs, v = .ref p ∧ H p = some (.lst vs) ∧ xs.length ≤ LINE ∧ IsAll K A G vs xs ∧ p ∉ A ∧ G p = none ∧ H0 p = none
  | .bo xs => ∃ p vs, v = .ref p ∧ xs.length ≤ LINE ∧ IsAll K A G vs xs ∧ ((p ∉ A ∧ Rd H p (.lst vs) ∧ Rd H0 p (.lst vs)) ∨ KLst K p vs)
  | .od kvs => ∃ p hk, v = .ref p ∧ H p = some (.dK hk) ∧ kvs.length ≤ LINE ∧ KAll K A G hk kvs ∧ p ∉ A ∧ G p = none ∧ H0 p = none
  | .ot kvs => ∃ p hk, v = .ref p ∧ H p = some (.dT hk) ∧ kvs.length ≤ LINE ∧ KAll K A G hk kvs ∧ p ∉ A ∧ G p = none ∧ H0 p = none
  | d => Is K A G v d
def isOwn : D → Bool
  | .ow _ => true
  | .od _ => true
  | .ot _ => true
  | _ => false
def isTree : D → Bool
  | .ow _ => false
  | .od _ => false
  | .ot _ => false
  | .bo _ => false
  | _ => true
theorem Is.tree (h : Is K A G v d) : isTree d = true := by
  cases h <;> rfl
theorem SIs.of (h : Is K A G v d) : SIs K H0 A G H v d := by
  cases h with
  | non => exact .non
  | bl b => exact .bl b
  | int i => exact .int i
  | str x => exact .str x
  | lst h l s => exact .lst h l s
  | tup h l s => exact .tup h l s
  | ob h => exact .ob h
  | exn h e x => exact .exn h e x
  | fk h l e s => exact .fk h l e s
  | ft h l e s => exact .ft h l e s
  | tk h l => exact .tk h l
theorem SIs.is (h : SIs K H0 A G H v d) (t : isTree d = true) : Is K A G v d := by
  cases d with
  | ow _ => cases t
  | bo _ => cases t
  | od _ => cases t
  | ot _ => cases t
  | _ => exact h

/-- not yet there, or a tuple -/
def Fre (A : List Addr) (H : Hp) (a : Addr) : Prop := H a = none ∨ ((∃ vs, H a = some (.tup vs)) ∧ a ∉ A)
theorem Fre.no {A : List Addr} {H : Hp} {a : Addr} {o : HO} (h : Fre A H a) (e : H a = some o) (nt : ∀ vs, o ≠ .tup vs) : False := by
  rcases h with z | ⟨⟨vs, z⟩, _⟩
  · rw [e] at z; cases z
  · rw [e] at z; exact nt vs (Option.some.inj z)
structure Ext (A : List Addr) (G H : Hp) (A' : List Addr) (G' H' : Hp) : Prop where
  pre : A <+: A'
  gs : Same G G'
  keep : ∀ a o, H a = some o → a ∉ A → H' a = some o
  newG : ∀ a o, G' a = some o → G a = some o ∨ Fre A H a
  newA : ∀ a, a ∈ A' → a ∈ A ∨ H a = none
  there : ∀ a, H' a = none → H a = none
theorem Ext.refl (A : List Addr) (G H : Hp) : Ext A G H A G H := ⟨List.prefix_refl _, Same.refl _, fun _ _ h _ => h, fun _ _ h => .inl h, fun _ h => .inl h, fun _ h => h⟩
theorem Ext.trans {A A1 A2 : List Addr} {G G1 G2 H H1 H2 : Hp} (x : Ext A G H A1 G1 H1) (y : Ext A1 G1 H1 A2 G2 H2) : Ext A G H A2 G2 H2 where
  pre := x.pre.trans y.pre
  gs := x.gs.trans y.gs
  keep := fun a o h n => y.keep a o (x.keep a o h n) fun m => by
    rcases x.newA a m with z | z
    · exact n z
    · rw [h] at z; cases z
  newG := fun a o h => by
    rcases y.newG a o h with z | z | ⟨⟨vs, z⟩, n⟩
    · exact x.newG a o z
    · exact .inr (.inl (x.there a z))
    · have na : a ∉ A := fun m => n (x.pre.subset m)
      cases q : H a with
      | none => exact .inr (.inl q)
      | some o' =>
        have := x.keep a o' q na
        rw [z] at this
        cases this
        exact .inr (.inr ⟨⟨vs, q⟩, na⟩)
  newA := fun a h => by
    rcases y.newA a h with z | z
    · exact x.newA a z
    · exact .inr (x.there a z)
  there := fun a h => x.there a (y.there a h)

theorem SIs.ext (h : SIs K H0 A G H v d) (x : Ext A G H A' G' H') : SIs K H0 A' G' H' v d := by
  have nA : ∀ {p : Addr} {o : HO}, H p = some o → p ∉ A → p ∉ A' := fun {p o} e n m => by
    rcases x.newA p m with z | z
    · exact n z
    · rw [e] at z; cases z
  have nG0 : ∀ {p : Addr} {o : HO}, H p = some o → (∀ vs, o ≠ .tup vs) → G p = none → G' p = none := fun {p o} e nt n => by
    cases q : G' p with
    | none => rfl
    | some o' =>
      rcases x.newG p o' q with z | z
      · rw [n] at z; cases z
      · exact (z.no e nt).elim
  cases d with
  | ow xs =>
    obtain ⟨p, vs, e, hp, l, s, a, g, h0⟩ := h
    exact ⟨p, vs, e, x.keep p _ hp a, l, s.mono x.pre x.gs, nA hp a, nG0 hp (fun _ h => by cases h) g, h0⟩
  | bo xs =>
    obtain ⟨p, vs, e, l, s, hp⟩ := h
    refine ⟨p, vs, e, l, s.mono x.pre x.gs, ?_⟩
    rcases hp with ⟨a, hp, h0⟩ | hp
    · refine .inl ⟨?_, ?_, h0⟩
      · rcases hp with hp | ⟨o, hp⟩
        · exact nA hp a
        · exact nA hp a
      · rcases hp with hp | ⟨o, hp⟩
        · exact .inl (x.keep p _ hp a)
        · exact .inr ⟨o, x.keep p _ hp a⟩
    · exact .inr hp
  | od xs =>
    obtain ⟨p, vs, e, hp, l, s, a, g, h0⟩ := h
    exact ⟨p, vs, e, x.keep p _ hp a, l, KAll.mono x.pre x.gs s, nA hp a, nG0 hp (fun _ h => by cases h) g, h0⟩
  | ot xs =>
    obtain ⟨p, vs, e, hp, l, s, a, g, h0⟩ := h
    exact ⟨p, vs, e, x.keep p _ hp a, l, KAll.mono x.pre x.gs s, nA hp a, nG0 hp (fun _ h => by cases h) g, h0⟩
  | _ => exact (SIs.is h rfl).mono x.pre x.gs

/-- a changing object -/
def WIs (K : PySem.W.Frag) (A : List Addr) (G H : Hp) (a : Addr) : WO → Prop
  | .lst xs => ∃ vs, H a = some (.lst vs) ∧ xs.length ≤ LINE ∧ IsAll K A G vs xs
  | .ins c fs => ∃ C dx vs, CIs K c C ∧ H a = some (.ins C dx vs) ∧ Paired (fun (p : Str × V) (q : Str × D) => p.1 = q.1 ∧ Is K A G p.2 q.2) vs fs
  | .dct kvs => ∃ hk, H a = some (.dK hk) ∧ kvs.length ≤ LINE ∧ KAll K A G hk kvs
theorem WIs.to {a : Addr} {o : WO} (w : WIs K A G H a o) (p : A <+: A') (g : Same G G') (k : ∀ o, H a = some o → H' a = some o) : WIs K A' G' H' a o := by
  cases o with
  | lst xs => obtain ⟨vs, e, l, s⟩ := w; exact ⟨vs, k _ e, l, s.mono p g⟩
  | ins c fs => obtain ⟨C, dx, vs, h, e, s⟩ := w; exact ⟨C, dx, vs, h, k _ e, Paired.mapP s fun _ _ z => ⟨z.1, z.2.mono p g⟩⟩
  | dct kvs => obtain ⟨hk, e, l, s⟩ := w; exact ⟨hk, k _ e, l, KAll.mono p g s⟩
theorem WIs.there {a : Addr} {o : WO} (h : WIs K A G H a o) : H a ≠ none := by
  cases o with
  | lst xs => obtain ⟨vs, e, _⟩ := h; rw [e]; simp
  | ins c fs => obtain ⟨C, dx, vs, _, e, _⟩ := h; rw [e]; simp
  | dct kvs => obtain ⟨hk, e, _⟩ := h; rw [e]; simp

structure GS (K : PySem.W.Frag) (A : List Addr) (G H : Hp) (W : World) : Prop where
  sub : Same G H
  nd : A.Nodup
  out : ∀ a, a ∈ A → G a = none
  len : A.length = W.length
  obj : ∀ (n : Nat) a o, A[n]? = some a → W[n]? = some o → WIs K A G H a o
theorem GS.at {W : World} {a : Addr} (g : GS K A G H W) (h : a ∈ A) : H a ≠ none := by
  obtain ⟨n, hn, e⟩ := List.getElem_of_mem h
  have h2 : A[n]? = some a := by rw [List.getElem?_eq_getElem hn, e]
  have hw : n < W.length := by rw [← g.len]; exact hn
  exact (g.obj n a W[n] h2 (List.getElem?_eq_getElem hw)).there
theorem GS.new {W : World} {a : Addr} (g : GS K A G H W) (h : H a = none) : a ∉ A := fun m => g.at m h
theorem GS.newG {W : World} {a : Addr} (g : GS K A G H W) (h : H a = none) : G a = none := by
  cases q : G a with
  | none => rfl
  | some o => rw [g.sub a o q] at h; cases h

structure Rel (K : PySem.W.Frag) (H0 : Hp) (A : List Addr) (G : Hp) (env : Env) (σ : L2.St) (H : Hp) : Prop where
  len : σ.length = env.length
  slot : ∀ (i : Nat) d, env[i]? = some (some d) → ∃ v, σ[i]? = some (some v) ∧ SIs K H0 A G H v d
  own : ∀ (i j : Nat) d e v, i ≠ j → env[i]? = some (some d) → env[j]? = some (some e) → isOwn d = true → isOwn e = true → σ[i]? = some (some v) → σ[j]? = some (some v) → False
theorem Rel.ext {env : Env} {σ : L2.St} (r : Rel K H0 A G env σ H) (x : Ext A G H A' G' H') : Rel K H0 A' G' env σ H' :=
  ⟨r.len, fun i d e => let ⟨v, h1, h2⟩ := r.slot i d e; ⟨v, h1, h2.ext x⟩, r.own⟩

/-- how a worth lies behind an expression: fr = 0: as a slot's; fr ≥ 1: a list is new and nobody's (not frozen), its items as ever; fr = 2: its items that are lists did not stand ahead (at H) either -/
def OIs (K : PySem.W.Frag) (H0 H : Hp) (A : List Addr) (G H' : Hp) (fr : Nat) (v : V) (d : D) : Prop :=
  match fr, d with
  | 0, d => SIs K H0 A G H' v d
  | n + 1, .lst ds => ∃ p vs, v = .ref p ∧ H' p = some (.lst vs) ∧ ds.length ≤ LINE ∧ IsAll K A G vs ds ∧ p ∉ A ∧ G p = none ∧ H p = none ∧
      (1 ≤ n → ∀ (i : Nat) es q, ds[i]? = some (.lst es) → vs[i]? = some (.ref q) → H q = none)
  | _ + 1, d => SIs K H0 A G H' v d
def noL : D → Bool
  | .lst _ => false
  | _ => true
theorem OIs.ofS {fr : Nat} (h : SIs K H0 A G H' v d) (n : noL d = true) : OIs K H0 H A G H' fr v d := by
  cases fr with
  | zero => exact h
  | succ n' => cases d with
    | lst _ => cases n
    | _ => exact h
theorem OIs.toS {fr : Nat} (h : OIs K H0 H A G H' fr v d) (n : noL d = true) : SIs K H0 A G H' v d := by
  cases fr with
  | zero => exact h
  | succ n' => cases d with
    | lst _ => cases n
    | _ => exact h
theorem OIs.back {fr : Nat} {H1 : Hp} (h : OIs K H0 H1 A G H' fr v d) (t : ∀ a, H1 a = none → H a = none) : OIs K H0 H A G H' fr v d := by
  cases fr with
  | zero => exact h
  | succ n => cases d with
    | lst ds =>
      obtain ⟨p, vs, e, hp, l, s, a, g, h1, h2⟩ := h
      exact ⟨p, vs, e, hp, l, s, a, g, t p h1, fun z i es q x y => t q (h2 z i es q x y)⟩
    | _ => exact h
theorem Ext.noG {A1 : List Addr} {G1 H1 : Hp} {p : Addr} {o : HO} (x : Ext A G H A1 G1 H1) (hp : H p = some o) (hG : G p = none) (nt : ∀ vs, o ≠ .tup vs := by intro vs h; cases h) : G1 p = none := by
  cases q : G1 p with
  | none => rfl
  | some o' =>
    rcases x.newG p o' q with z | z
    · rw [hG] at z; cases z
    · exact (z.no hp nt).elim
theorem Ext.noA {A1 : List Addr} {G1 H1 : Hp} {p : Addr} {o : HO} (x : Ext A G H A1 G1 H1) (hp : H p = some o) (hA : p ∉ A) : p ∉ A1 := fun m => by
  rcases x.newA p m with z | z
  · exact hA z
  · rw [hp] at z; cases z
/-- an object of ours is frozen as it stands -/
theorem Ext.freeze {A1 : List Addr} {G1 H1 : Hp} {p : Addr} {o : HO} (x : Ext A G H A1 G1 H1) (hp : H p = none) (hG : G1 p = none) : Ext A G H A1 (upd G1 p o) H1 where
  pre := x.pre
  gs := fun a o' h => by rw [upd_ne (ne_of_none (x.gs a o' h) hG)]; exact x.gs a o' h
  keep := x.keep
  newG := fun a o' h => by
    by_cases e : a = p
    · exact .inr (.inl (by rw [e]; exact hp))
    · rw [upd_ne e] at h; exact x.newG a o' h
  newA := x.newA
  there := x.there
theorem GS.freeze {W : World} {p : Addr} {o : HO} (g : GS K A G H W) (hH : H p = some o) (hG : G p = none) (hA : p ∉ A) : GS K A (upd G p o) H W where
  sub := fun a o' h => by
    by_cases e : a = p
    · subst e; rw [upd_same] at h; cases h; exact hH
    · rw [upd_ne e] at h; exact g.sub a o' h
  nd := g.nd
  out := fun a m => by rw [upd_ne (fun e => hA (by rw [← e]; exact m))]; exact g.out a m
  len := g.len
  obj := fun n a o' h1 h2 => by
    have w := g.obj n a o' h1 h2
    exact w.to (List.prefix_refl _) (fun b u q => by rw [upd_ne (ne_of_none q hG)]; exact q) fun _ e => e
/-- frozen, whatever it is -/
theorem OIs.frozen {fr : Nat} {A1 : List Addr} {G1 H1 : Hp} {W : World} (h : OIs K H0 H A1 G1 H1 fr v d) (x : Ext A G H A1 G1 H1) (g : GS K A1 G1 H1 W) :
    ∃ G2, Same G1 G2 ∧ Ext A G H A1 G2 H1 ∧ GS K A1 G2 H1 W ∧ SIs K H0 A1 G2 H1 v d ∧ (1 ≤ fr → ∀ es q, d = .lst es → v = .ref q → H q = none) := by
  cases fr with
  | zero => exact ⟨G1, Same.refl _, x, g, h, fun z => absurd z (by decide)⟩
  | succ n => cases d with
    | lst ds =>
      obtain ⟨p, vs, rfl, hp, l, s, a, hg, h1, h2⟩ := h
      have sm : Same G1 (upd G1 p (.lst vs)) := fun b u q => by rw [upd_ne (ne_of_none q hg)]; exact q
      refine ⟨upd G1 p (.lst vs), sm, x.freeze h1 hg, g.freeze hp hg a, .of (.lst upd_same l (s.mono (List.prefix_refl _) sm)), fun _ es q _ e => ?_⟩
      cases e
      exact h1
    | _ => exact ⟨G1, Same.refl _, x, g, h, fun _ es q e => by cases e⟩

def ExIs (K : PySem.W.Frag) (mg : Str → Option Value) (A : List Addr) (G H : Hp) (cls : Value) (dd : Option Addr) (x : Ex) : Prop :=
  (∃ C, cls = .ref C ∧ CIs K x.cls C) ∧ match x.arg with
    | none => dd = none
    | some d => ∃ dp v, dd = some dp ∧ G dp = some (.xd [("place", v)]) ∧ Is K A G v d

def Pst (K : PySem.W.Frag) (H0 : Hp) (A : List Addr) (G H : Hp) (fr : Nat) (d : D) (W : World) (Q : VK) : Prop :=
  ∀ v A' G' H', GS K A' G' H' W → Ext A G H A' G' H' → OIs K H0 H A' G' H' fr v d → Q v H'
def Pex (K : PySem.W.Frag) (mg : Str → Option Value) (A : List Addr) (G H : Hp) (x : Ex) (W : World) (Z : XK) : Prop :=
  ∀ cls dd A' G' H', GS K A' G' H' W → Ext A G H A' G' H' → ExIs K mg A' G' H' cls dd x → Z cls dd H'
def Out {α : Type} (K : PySem.W.Frag) (mg : Str → Option Value) (Z : XK) (A : List Addr) (G H : Hp) (P : α → World → Prop) (r : Res α) : Prop :=
  match r with
  | .ok d W => P d W
  | .exc x W => Pex K mg A G H x W Z
  | .stuck => False
theorem Pex.step {mg : Str → Option Value} {x : Ex} {W : World} {Z : XK} (h : Pex K mg A G H x W Z) (e : Ext A G H A' G' H') : Pex K mg A' G' H' x W Z :=
  fun cls dd A2 G2 H2 g x2 i => h cls dd A2 G2 H2 g (e.trans x2) i
theorem Pst.step {fr : Nat} {W : World} {Q : VK} (h : Pst K H0 A G H fr d W Q) (e : Ext A G H A' G' H') : Pst K H0 A' G' H' fr d W Q :=
  fun v A2 G2 H2 g x2 i => h v A2 G2 H2 g (e.trans x2) (i.back e.there)

/-- the reading of an expression whose worth is f -/
def tD (K : PySem.W.Frag) (mg : Str → Option Value) (Z : XK) (fr : Nat) (f : EF) : TE := fun σ H Q =>
  ∃ H0 A G env W, GS K A G H W ∧ Rel K H0 A G env σ H ∧ Out K mg Z A G H (fun d W' => Pst K H0 A G H fr d W' Q) (f env W)
/-- from the base (A, G, H), where the whole's end is wanted, at (A1, G1, H1): the first part's reading -/
theorem tD_of {α : Type} {mg : Str → Option Value} {Z : XK} {fra : Nat} {env : Env} {W : World} {σ : L2.St} {fa : EF} {P : α → World → Prop} {k : D → World → Res α} {T : VK} {A1 : List Addr} {G1 H1 : Hp} (x : Ext A G H A1 G1 H1) (g : GS K A1 G1 H1 W) (R : Rel K H0 A1 G1 env σ H1) (h : Out K mg Z A G H P ((fa env W).bind k))
    (step : ∀ d W2 v A2 G2 H2, GS K A2 G2 H2 W2 → Ext A1 G1 H1 A2 G2 H2 → Ext A G H A2 G2 H2 → Rel K H0 A2 G2 env σ H2 → OIs K H0 H1 A2 G2 H2 fra v d → Out K mg Z A G H P (k d W2) → T v H2) : tD K mg Z fra fa σ H1 T := by
  refine ⟨H0, A1, G1, env, W, g, R, ?_⟩
  cases q : fa env W with
  | ok d W1 =>
    rw [q] at h
    exact fun v A2 G2 H2 g2 x2 s => step d W1 v A2 G2 H2 g2 x2 (x.trans x2) (R.ext x2) s h
  | exc x' W1 =>
    rw [q] at h
    exact Pex.step h x
  | stuck => rw [q] at h; exact h
theorem tD_of0 {α : Type} {mg : Str → Option Value} {Z : XK} {env : Env} {W : World} {σ : L2.St} {fa : EF} {P : α → World → Prop} {k : D → World → Res α} {T : VK} {A1 : List Addr} {G1 H1 : Hp} (x : Ext A G H A1 G1 H1) (g : GS K A1 G1 H1 W) (R : Rel K H0 A1 G1 env σ H1) (h : Out K mg Z A G H P ((fa env W).bind k))
    (step : ∀ d W2 v A2 G2 H2, GS K A2 G2 H2 W2 → Ext A1 G1 H1 A2 G2 H2 → Ext A G H A2 G2 H2 → Rel K H0 A2 G2 env σ H2 → SIs K H0 A2 G2 H2 v d → Out K mg Z A G H P (k d W2) → T v H2) : tD K mg Z 0 fa σ H1 T :=
  tD_of (fra := 0) x g R h step
end

section
variable {X : Cx}
theorem PE.imp {e : Expr} {t t' : TE} (h : PE X e t) (w : ∀ σ H Q, t' σ H Q → t σ H Q) : PE X e t' := ⟨fun pins s σ H Q I q => h.run pins s σ H Q I (w σ H Q q)⟩
theorem PT.imp {e : Expr} {t t' : TT} (h : PT X e t) (w : ∀ σ H Q, t' σ H Q → t σ H Q) : PT X e t' := ⟨fun pins s σ H Q I q => h.run pins s σ H Q I (w σ H Q q)⟩
theorem PS.imp {e : Stmt} {t t' : TS} (h : PS X e t) (w : ∀ Dn σ H, t' Dn σ H → t Dn σ H) : PS X e t' := ⟨fun pins s σ H Q I q => h.run pins s σ H Q I (w Q σ H q)⟩
theorem PSs.imp {e : List Stmt} {t t' : TS} (h : PSs X e t) (w : ∀ Dn σ H, t' Dn σ H → t Dn σ H) : PSs X e t' := ⟨fun pins s σ H Q I q => h.run pins s σ H Q I (w Q σ H q)⟩
theorem PA.imp {e : List Expr} {t t' : TA} (h : PA X e t) (w : ∀ σ H Q, t' σ H Q → t σ H Q) : PA X e t' := ⟨fun pos pins s σ H Q I q => h.run pos pins s σ H Q I (w σ H Q q)⟩
/-- an expression's worth -/
abbrev DE (X : Cx) (Z : XK) (fr : Nat) (e : Expr) (f : EF) : Prop := PE X e (tD X.K X.mg Z fr f)
theorem OIs.mono {a b : Nat} {K : PySem.W.Frag} {A A1 : List Addr} {G G1 H H1 H0 : Hp} {W : World} {v : V} {d : D} (h : OIs K H0 H A1 G1 H1 b v d) (l : a ≤ b) (x : Ext A G H A1 G1 H1) (g : GS K A1 G1 H1 W) :
    ∃ G2, Same G1 G2 ∧ Ext A G H A1 G2 H1 ∧ GS K A1 G2 H1 W ∧ OIs K H0 H A1 G2 H1 a v d := by
  cases a with
  | zero =>
    obtain ⟨G2, h1, h2, h3, h4, _⟩ := h.frozen x g
    exact ⟨G2, h1, h2, h3, h4⟩
  | succ a =>
    cases b with
    | zero => exact absurd l (by omega)
    | succ b =>
      refine ⟨G1, Same.refl _, x, g, ?_⟩
      cases d with
      | lst ds =>
        obtain ⟨p, vs, e, hp, l', s, a', hg, h1, h2⟩ := h
        exact ⟨p, vs, e, hp, l', s, a', hg, h1, fun z => h2 (by omega)⟩
      | _ => exact h
theorem DE.mono {Z : XK} {a b : Nat} {e : Expr} {f : EF} (h : DE X Z b e f) (l : a ≤ b) : DE X Z a e f := PE.imp h fun σ H Q ⟨H0, A, G, env, W, g, R, o⟩ => by
  refine ⟨H0, A, G, env, W, g, R, ?_⟩
  cases q : f env W with
  | ok d W' =>
    rw [q] at o
    intro v A' G' H' g' x i
    obtain ⟨G2, _, x2, g2, i2⟩ := i.mono l x g'
    exact o v A' G2 H' g2 x2 i2
  | exc x W' => rw [q] at o; exact o
  | stuck => rw [q] at o; exact o
end
end EV

set_option maxRecDepth 100000
noncomputable section
namespace EV
open PySem PySem.Spec PyProof.Rows L2
section
variable {K : PySem.W.Frag} {A A1 A2 A' : List Addr} {G G1 G2 G' H H1 H2 H' H0 : Hp} {v u : V} {d e : D} {W : World} {Q : VK} {fr n : Nat}
theorem Pst.any (h : Pst K H0 A G H 0 d W Q) (x : Ext A G H A1 G1 H1) (g : GS K A1 G1 H1 W) (i : SIs K H0 A1 G1 H1 v d) : Q v H1 := h v A1 G1 H1 g x i
theorem Pst.flat (h : Pst K H0 A G H fr d W Q) (x : Ext A G H A1 G1 H1) (g : GS K A1 G1 H1 W) (i : Is K A1 G1 v d) (nf : noL d = true) : Q v H1 := h v A1 G1 H1 g x (.ofS (.of i) nf)
theorem Pst.int {i : Int} (h : Pst K H0 A G H fr (.int i) W Q) (x : Ext A G H A1 G1 H1) (g : GS K A1 G1 H1 W) : Q (.int i) H1 := h.flat x g (.int i) rfl
theorem Pst.bl {i : Bool} (h : Pst K H0 A G H fr (.bl i) W Q) (x : Ext A G H A1 G1 H1) (g : GS K A1 G1 H1 W) : Q (.bl i) H1 := h.flat x g (.bl i) rfl
theorem Pst.str {i : Str} (h : Pst K H0 A G H fr (.str i) W Q) (x : Ext A G H A1 G1 H1) (g : GS K A1 G1 H1 W) : Q (.str i) H1 := h.flat x g (.str i) rfl
theorem Pst.non (h : Pst K H0 A G H fr .non W Q) (x : Ext A G H A1 G1 H1) (g : GS K A1 G1 H1 W) : Q .non H1 := h.flat x g .non rfl
/-- a new frozen object -/
theorem Ext.alloc {p : Addr} {o : HO} (g : GS K A G H W) (hp : H p = none) : Ext A G H A (upd G p o) (upd H p o) where
  pre := List.prefix_refl _
  gs := fun a o' h => by rw [upd_ne (ne_of_none (g.sub a o' h) hp)]; exact h
  keep := fun a o' h _ => by rw [upd_ne (ne_of_none h hp)]; exact h
  newG := fun a o' h => by
    by_cases e : a = p
    · exact .inr (.inl (by rw [e]; exact hp))
    · rw [upd_ne e] at h; exact .inl h
  newA := fun a h => .inl h
  there := fun a h => by
    by_cases e : a = p
    · rw [e]; exact hp
    · rw [upd_ne e] at h; exact h
theorem GS.alloc {p : Addr} {o : HO} (g : GS K A G H W) (hp : H p = none) : GS K A (upd G p o) (upd H p o) W where
  sub := fun a o' h => by
    by_cases e : a = p
    · subst e; rw [upd_same] at h ⊢; exact h
    · rw [upd_ne e] at h ⊢; exact g.sub a o' h
  nd := g.nd
  out := fun a m => by rw [upd_ne (fun e => g.new hp (by rw [← e]; exact m))]; exact g.out a m
  len := g.len
  obj := fun n a o' h1 h2 => by
    have w := g.obj n a o' h1 h2
    have ne : a ≠ p := fun e => g.new hp (by rw [← e]; exact List.mem_of_getElem? h1)
    exact w.to (List.prefix_refl _) (Ext.alloc g hp).gs fun _ e => by rw [upd_ne ne]; exact e
/-- a new object that may change -/
theorem Ext.allocH {p : Addr} {o : HO} (g : GS K A G H W) (hp : H p = none) : Ext A G H A G (upd H p o) where
  pre := List.prefix_refl _
  gs := Same.refl _
  keep := fun a o' h _ => by rw [upd_ne (ne_of_none h hp)]; exact h
  newG := fun a o' h => .inl h
  newA := fun a h => .inl h
  there := fun a h => by
    by_cases e : a = p
    · rw [e]; exact hp
    · rw [upd_ne e] at h; exact h
theorem GS.allocH {p : Addr} {o : HO} (g : GS K A G H W) (hp : H p = none) : GS K A G (upd H p o) W where
  sub := fun a o' h => by rw [upd_ne (ne_of_none (g.sub a o' h) hp)]; exact g.sub a o' h
  nd := g.nd
  out := g.out
  len := g.len
  obj := fun n a o' h1 h2 => by
    have w := g.obj n a o' h1 h2
    have ne : a ≠ p := fun e => g.new hp (by rw [← e]; exact List.mem_of_getElem? h1)
    exact w.to (List.prefix_refl _) (Same.refl _) fun _ e => by rw [upd_ne ne]; exact e
theorem Pst.new_lst {p : Addr} {vs : List V} {ds : List D} (h : Pst K H0 A G H fr (.lst ds) W Q) (x : Ext A G H A1 G1 H1) (g : GS K A1 G1 H1 W) (hp : H1 p = none) (l : ds.length ≤ LINE) (s : IsAll K A1 G1 vs ds)
    (f2 : 2 ≤ fr → ∀ (i : Nat) es q, ds[i]? = some (.lst es) → vs[i]? = some (.ref q) → H q = none) : Q (.ref p) (upd H1 p (.lst vs)) := by
  cases fr with
  | zero =>
    have x1 : Ext A1 G1 H1 A1 (upd G1 p (.lst vs)) (upd H1 p (.lst vs)) := Ext.alloc g hp
    exact h _ _ _ _ (g.alloc hp) (x.trans x1) (show OIs K H0 H A1 (upd G1 p (.lst vs)) (upd H1 p (.lst vs)) 0 (.ref p) (.lst ds) from (SIs.of (Is.lst upd_same l (s.mono x1.pre x1.gs)) : SIs K H0 A1 (upd G1 p (.lst vs)) (upd H1 p (.lst vs)) (.ref p) (.lst ds)))
  | succ n =>
    exact h _ _ _ _ (g.allocH hp) (x.trans (Ext.allocH g hp)) ⟨p, vs, rfl, upd_same, l, s, g.new hp, g.newG hp, x.there p hp, fun z => f2 (by omega)⟩
theorem Pst.new_tup {p : Addr} {vs : List V} {ds : List D} (h : Pst K H0 A G H fr (.tup ds) W Q) (x : Ext A G H A1 G1 H1) (g : GS K A1 G1 H1 W) (hp : H1 p = none) (l : ds.length ≤ LINE) (s : IsAll K A1 G1 vs ds) : Q (.ref p) (upd H1 p (.tup vs)) := by
  have x1 : Ext A1 G1 H1 A1 (upd G1 p (.tup vs)) (upd H1 p (.tup vs)) := Ext.alloc g hp
  exact h _ _ _ _ (g.alloc hp) (x.trans x1) (.ofS (.of (.tup (.inl (.inl upd_same)) l (s.mono x1.pre x1.gs))) rfl)

def seqL (W : World) : D → Option (List D)
  | .lst xs => some xs
  | .ow xs => some xs
  | .bo xs => some xs
  | .ob n => match W[n]? with
    | some (.lst xs) => some xs
    | _ => none
  | _ => none
def tupL : D → Option (List D)
  | .tup xs => some xs
  | _ => none
theorem SIs.seq {xs : List D} (h : SIs K H0 A G H v d) (g : GS K A G H W) (e : seqL W d = some xs) : ∃ p vs, v = .ref p ∧ SqL K H p vs ∧ xs.length ≤ LINE ∧ IsAll K A G vs xs := by
  cases d with
  | lst ys =>
    cases e
    cases (SIs.is h rfl) with
    | lst h1 l s => exact ⟨_, _, rfl, .inl (.inl (g.sub _ _ h1)), l, s⟩
  | ow ys =>
    cases e
    obtain ⟨p, vs, rfl, hp, l, s, _⟩ := h
    exact ⟨p, vs, rfl, .inl (.inl hp), l, s⟩
  | bo ys =>
    cases e
    obtain ⟨p, vs, rfl, l, s, hp⟩ := h
    refine ⟨p, vs, rfl, ?_, l, s⟩
    rcases hp with ⟨_, hp, _⟩ | hp
    · exact .inl hp
    · exact .inr hp
  | ob n =>
    simp only [seqL] at e
    cases (SIs.is h rfl) with
    | ob ha =>
      cases q : W[n]? with
      | none => rw [q] at e; cases e
      | some o =>
        rw [q] at e
        have w := g.obj n _ o ha q
        cases o with
        | lst ys =>
          cases e
          obtain ⟨vs, hp, l, s⟩ := w
          exact ⟨_, vs, rfl, .inl (.inl hp), l, s⟩
        | ins c fs => cases e
        | dct _ => cases e
  | _ => cases e
theorem SIs.tupl {xs : List D} (h : SIs K H0 A G H v d) (g : GS K A G H W) (e : tupL d = some xs) : ∃ p vs, v = .ref p ∧ SqT K H p vs ∧ SqT K G p vs ∧ xs.length ≤ LINE ∧ IsAll K A G vs xs := by
  cases d with
  | tup ys =>
    cases e
    cases (SIs.is h rfl) with
    | tup h1 l s => exact ⟨_, _, rfl, sqT_mono g.sub h1, h1, l, s⟩
  | _ => cases e
/-- a list that stands tracked -/
def lstT (W : World) : D → Option (List D)
  | .lst xs => some xs
  | .ow xs => some xs
  | .ob n => match W[n]? with
    | some (.lst xs) => some xs
    | _ => none
  | _ => none
theorem SIs.lstt {xs : List D} (h : SIs K H0 A G H v d) (g : GS K A G H W) (e : lstT W d = some xs) : ∃ p vs, v = .ref p ∧ H p = some (.lst vs) ∧ xs.length ≤ LINE ∧ IsAll K A G vs xs := by
  cases d with
  | lst ys =>
    cases e
    cases (SIs.is h rfl) with
    | lst h1 l s => exact ⟨_, _, rfl, g.sub _ _ h1, l, s⟩
  | ow ys =>
    cases e
    obtain ⟨p, vs, rfl, hp, l, s, _⟩ := h
    exact ⟨p, vs, rfl, hp, l, s⟩
  | ob n =>
    simp only [lstT] at e
    cases (SIs.is h rfl) with
    | ob ha =>
      cases q : W[n]? with
      | none => rw [q] at e; cases e
      | some o =>
        rw [q] at e
        have w := g.obj n _ o ha q
        cases o with
        | lst ys =>
          cases e
          obtain ⟨vs, hp, l, s⟩ := w
          exact ⟨_, vs, rfl, hp, l, s⟩
        | ins c fs => cases e
        | dct _ => cases e
  | _ => cases e
end

def eVar (i : Nat) : EF := fun env W => match env[i]? with
  | some (some d) => .ok d W
  | _ => .stuck
def eC (d : D) : EF := fun _ W => .ok d W
section
variable {X : Cx} {Z : XK} {fr : Nat} {pos : Pos}
theorem d_var (i : Nat) {x : Str} (hN : X.N[i]? = some x := by rfl) (hv : Vis X.env.scope x := by first | exact Or.inl rfl | exact Or.inr (Or.inl rfl) | exact Or.inr (Or.inr rfl)) (hd : (x == ("__debug__" : Str)) = false := by decide)
    (hcd : (x == ("__classdict__" : Str)) = false := by decide) : DE X Z 0 (.Name x pos) (eVar i) := PE.imp (pe_var hN hv hd hcd) fun σ H Q h => by
  obtain ⟨H0, A, G, env, W, g, R, o⟩ := h
  unfold eVar at o
  cases q : env[i]? with
  | none => rw [q] at o; exact o.elim
  | some od =>
    rw [q] at o
    cases od with
    | none => exact o.elim
    | some d =>
      obtain ⟨v, h1, h2⟩ := R.slot i d q
      exact ⟨v, h1, Pst.any o (Ext.refl _ _ _) g h2⟩
theorem d_const {e : Expr} {v : V} {d : D} (h : PE X e (tC v)) (i : ∀ A G, Is X.K A G v d) (nf : noL d = true) : DE X Z fr e (eC d) := PE.imp h fun σ H Q ⟨H0, A, G, env, W, g, R, o⟩ => Pst.flat o (Ext.refl _ _ _) g (i A G) nf
theorem d_int {i : Int} {j} : DE X Z fr (.Constant (.int i) j pos) (eC (.int i)) := d_const pe_int (fun _ _ => .int i) rfl
theorem d_bl {i : Bool} {j} : DE X Z fr (.Constant (.bool i) j pos) (eC (.bl i)) := d_const pe_bl (fun _ _ => .bl i) rfl
theorem d_non {j} : DE X Z fr (.Constant .none j pos) (eC .non) := d_const pe_non (fun _ _ => .non) rfl
theorem d_str {x : Str} {j} : DE X Z fr (.Constant (.str x) j pos) (eC (.str x)) := d_const pe_str (fun _ _ => .str x) rfl
abbrev O2 := World → D → D → Option D
def eBin (o2 : O2) (fa fb : EF) : EF := fun env W => (fa env W).bind fun x W1 => (fb env W1).bind fun y W2 => Res.ofO (o2 W2 x y) W2
def Sem2 (X : Cx) (fr : Nat) (o2 : O2) (r : R2) : Prop := ∀ (H0 : Hp) (A : List Addr) (G H : Hp) (A1 : List Addr) (G1 H1 : Hp) (W : World) (v u : V) (x y z : D) (Q : VK), GS X.K A1 G1 H1 W → Ext A G H A1 G1 H1 → SIs X.K H0 A1 G1 H1 v x → SIs X.K H0 A1 G1 H1 u y →
  o2 W x y = some z → Pst X.K H0 A G H fr z W Q → r v u H1 Q
theorem Sem2.or {r r' : R2} {o2 : O2} (h : ∀ (H0 : Hp) (A : List Addr) (G H : Hp) (A1 : List Addr) (G1 H1 : Hp) (W : World) (v u : V) (x y z : D) (Q : VK), GS X.K A1 G1 H1 W → Ext A G H A1 G1 H1 → SIs X.K H0 A1 G1 H1 v x → SIs X.K H0 A1 G1 H1 u y →
  o2 W x y = some z → Pst X.K H0 A G H fr z W Q → r v u H1 Q ∨ r' v u H1 Q) : Sem2 X fr o2 (fun x y H Q => r x y H Q ∨ r' x y H Q) := h
theorem sem2_use {o2 : O2} {r : R2} {a b : Expr} {fa fb : EF} (hr : Sem2 X fr o2 r) {σ : L2.St} {H : Hp} {Q : VK} (h : tD X.K X.mg Z fr (eBin o2 fa fb) σ H Q) : tOp r (tD X.K X.mg Z 0 fa) (tD X.K X.mg Z 0 fb) σ H Q := by
  obtain ⟨H0, A, G, env, W, g, R, o⟩ := h
  refine tD_of0 (Ext.refl _ _ _) g R o fun x W1 v A1 G1 H1 g1 _ x1 R1 s1 o1 => ?_
  refine tD_of0 x1 g1 R1 o1 fun y W2 u A2 G2 H2 g2 x12 x2 R2 s2 o2' => ?_
  cases q : o2 W2 x y with
  | none => rw [q] at o2'; exact o2'.elim
  | some z =>
    rw [q] at o2'
    exact hr H0 A G H A2 G2 H2 W2 v u x y z Q g2 x2 (s1.ext x12) s2 q o2'
variable {a b : Expr} {fa fb : EF}
theorem d_bin {op : Operator} {r : R2} {o2 : O2} (ho : OpR X (binaryOp op) r) (hr : Sem2 X fr o2 r) (ha : DE X Z 0 a fa) (hb : DE X Z 0 b fb) : DE X Z fr (.BinOp a op b pos) (eBin o2 fa fb) :=
  PE.imp (pe_op ho ha hb) fun _ _ _ h => sem2_use (a := a) (b := b) hr h
theorem d_cmp {op : CmpOp} {r : R2} {o2 : O2} (ho : OpR X (compareOp op) r) (hr : Sem2 X fr o2 r) (hm : behindInMarks op b = false) (ha : DE X Z 0 a fa) (hb : DE X Z 0 b fb) : DE X Z fr (.Compare a [op] [b] pos) (eBin o2 fa fb) :=
  PE.imp (pe_cmpR ho ha hb hm) fun _ _ _ h => sem2_use (a := a) (b := b) hr h
end

def i2 (g : Int → Int → D) (c : Int → Int → Bool) : O2 := fun _ x y => match x, y with
  | .int i, .int j => if c i j then some (g i j) else none
  | _, _ => none
section
variable {X : Cx} {fr : Nat} {pos : Pos}
theorem sIs_int {K : PySem.W.Frag} {H0 G H : Hp} {A : List Addr} {v : V} {i : Int} (h : SIs K H0 A G H v (.int i)) : v = .int i := by
  cases SIs.is h rfl; rfl
theorem sIs_str {K : PySem.W.Frag} {H0 G H : Hp} {A : List Addr} {v : V} {i : Str} (h : SIs K H0 A G H v (.str i)) : v = .str i := by
  cases SIs.is h rfl; rfl
theorem sIs_bl {K : PySem.W.Frag} {H0 G H : Hp} {A : List Addr} {v : V} {i : Bool} (h : SIs K H0 A G H v (.bl i)) : v = .bl i := by
  cases SIs.is h rfl; rfl
theorem sIs_non {K : PySem.W.Frag} {H0 G H : Hp} {A : List Addr} {v : V} (h : SIs K H0 A G H v .non) : v = .non := by
  cases SIs.is h rfl; rfl
theorem sem_i2 {C : Int → Int → Prop} {c : Int → Int → Bool} {g : Int → Int → V} {gd : Int → Int → D} (hC : ∀ i j, c i j = true → C i j) (hg : ∀ i j A G, Is X.K A G (g i j) (gd i j)) (nf : ∀ i j, noL (gd i j) = true) : Sem2 X fr (i2 gd c) (rI C g) := by
  intro H0 A G H A1 G1 H1 W v u x y z Q g1 x1 s1 s2 e q
  unfold i2 at e
  cases x with
  | int i =>
    cases y with
    | int j =>
      simp only at e
      by_cases hc : c i j = true
      · rw [if_pos hc] at e
        cases e
        rw [sIs_int s1, sIs_int s2]
        exact ⟨i, j, rfl, rfl, hC i j hc, Pst.flat q x1 g1 (hg i j A1 G1) (nf i j)⟩
      · rw [if_neg hc] at e; cases e
    | _ => cases e
  | _ => cases e
theorem sem_i20 {g : Int → Int → V} {gd : Int → Int → D} (hg : ∀ i j A G, Is X.K A G (g i j) (gd i j)) (nf : ∀ i j, noL (gd i j) = true) : Sem2 X fr (i2 gd fun _ _ => true) (rI0 g) := by
  intro H0 A G H A1 G1 H1 W v u x y z Q g1 x1 s1 s2 e q
  obtain ⟨i, j, h1, h2, _, h3⟩ := sem_i2 (X := X) (fr := fr) (C := fun _ _ => True) (c := fun _ _ => true) (fun _ _ _ => trivial) hg nf H0 A G H A1 G1 H1 W v u x y z Q g1 x1 s1 s2 e q
  exact ⟨i, j, h1, h2, h3⟩
/-- x + y: ints, texts, lists, tuples -/
def addD : O2 := fun W x y => match x, y with
  | .int i, .int j => some (.int (i + j))
  | .str s, .str t => if s.length + t.length ≤ LINE then some (.str (s ++ t)) else none
  | .tup s, .tup t => if s.length + t.length ≤ LINE then some (.tup (s ++ t)) else none
  | x, y => match lstT W x, lstT W y with
    | some s, some t => if s.length + t.length ≤ LINE then some (.lst (s ++ t)) else none
    | _, _ => none
theorem sem_add : Sem2 X 1 addD (fun x y H Q => (∃ i j, x = .int i ∧ y = .int j ∧ Q (.int (i + j)) H) ∨ (∃ i j, x = .str i ∧ y = .str j ∧ i.length + j.length ≤ sizeLine ∧ Q (.str (i ++ j)) H) ∨ rCatA X.K x y H Q ∨ rCat x y H Q) := by
  intro H0 A G H A1 G1 H1 W v u x y z Q g1 x1 s1 s2 e q
  have lists : ∀ s t, lstT W x = some s → lstT W y = some t → (if s.length + t.length ≤ LINE then some (D.lst (s ++ t)) else none) = some z → rCat v u H1 Q := by
    intro s t e1 e2 e
    obtain ⟨p, vs, rfl, hp, l1, i1⟩ := s1.lstt g1 e1
    obtain ⟨p', us, rfl, hp', l2, i2'⟩ := s2.lstt g1 e2
    by_cases hl : s.length + t.length ≤ LINE
    · rw [if_pos hl] at e
      cases e
      refine ⟨p, p', vs, us, rfl, rfl, hp, hp', by rw [i1.length, i2'.length, ← LINE_eq]; exact hl, fun c hc => ?_⟩
      exact q.new_lst x1 g1 hc (by rw [List.length_append]; exact hl) (i1.append i2') (fun h => absurd h (by decide))
    · rw [if_neg hl] at e; cases e
  unfold addD at e
  split at e
  · cases e
    rw [sIs_int s1, sIs_int s2]
    exact .inl ⟨_, _, rfl, rfl, q.int x1 g1⟩
  · rename_i s t
    by_cases hl : s.length + t.length ≤ LINE
    · rw [if_pos hl] at e
      cases e
      rw [sIs_str s1, sIs_str s2]
      exact .inr (.inl ⟨_, _, rfl, rfl, by rw [← LINE_eq]; exact hl, q.str x1 g1⟩)
    · rw [if_neg hl] at e; cases e
  · rename_i s t
    by_cases hl : s.length + t.length ≤ LINE
    · rw [if_pos hl] at e
      cases e
      obtain ⟨p, vs, rfl, hp, hpg, l1, i1⟩ := s1.tupl g1 (show tupL (.tup s) = some s from rfl)
      obtain ⟨p', us, rfl, hp', hpg', l2, i2'⟩ := s2.tupl g1 (show tupL (.tup t) = some t from rfl)
      refine .inr (.inr (.inl ⟨p, p', vs, us, rfl, rfl, hp, hp', by rw [i1.length, i2'.length, ← LINE_eq]; exact hl, fun e => ?_, fun e e2 => ?_, fun e e2 c hc => ?_⟩))
      · have e0 : s = [] := List.eq_nil_of_length_eq_zero (by rw [← i1.length, e]; rfl)
        subst e0
        exact q.flat x1 g1 (.tup hpg' l2 i2') rfl
      · have e0 : t = [] := List.eq_nil_of_length_eq_zero (by rw [← i2'.length, e2]; rfl)
        subst e0
        rw [List.append_nil] at q
        exact q.flat x1 g1 (.tup hpg l1 i1) rfl
      · exact q.new_tup x1 g1 hc (by rw [List.length_append]; exact hl) (i1.append i2')
    · rw [if_neg hl] at e; cases e
  · split at e
    · rename_i s t e1 e2
      exact .inr (.inr (.inr (lists s t e1 e2 e)))
    · cases e
end
end EV

set_option maxRecDepth 100000
noncomputable section
namespace EV
open PySem PySem.Spec PyProof.Rows L2
mutual
def toP : D → PyData
  | .non => .none
  | .bl b => .bool b
  | .int i => .int i
  | .str x => .str x
  | .lst xs => .list (toPs xs)
  | .tup xs => .tuple (toPs xs)
  | .ow xs => .list (toPs xs)
  | .bo xs => .list (toPs xs)
  | .ob _ => .dict []
  | .od _ => .dict []
  | .ot _ => .dict []
  | .exn _ _ => .dict []
  | .fk _ => .dict []
  | .ft _ => .dict []
  | .tk _ => .dict []
def toPs : List D → List PyData
  | [] => []
  | d :: ds => toP d :: toPs ds
end
theorem toPs_map : ∀ ds : List D, toPs ds = ds.map toP
  | [] => by simp [toPs]
  | d :: ds => by simp [toPs, toPs_map ds]
section
variable {K : PySem.W.Frag} {A A1 A2 A' : List Addr} {G G1 G2 G' H H1 H2 H' H0 : Hp} {v u : V} {d e : D} {W : World} {Q : VK} {fr n : Nat}
mutual
theorem Is.dp (g : Same G H) : ∀ {v : V} {d : D}, Is K A G v d → PyData.canLay0 (toP d) = true → Dp K H v (toP d)
  | _, _, .non, _ => by simp only [toP]; exact .non
  | _, _, .bl b, _ => by simp only [toP]; exact .bl b
  | _, _, .int b, _ => by simp only [toP]; exact .int b
  | _, _, .str b, _ => by simp only [toP]; exact .str b
  | _, _, .lst h l s, c => by
    simp only [toP, PyData.canLay0] at c ⊢
    exact .lst (.inl (.inl (g _ _ h))) (IsAll.dp g s c)
  | _, _, .tup h l s, c => by
    simp only [toP, PyData.canLay0] at c ⊢
    exact .tup (sqT_mono g h) (IsAll.dp g s c)
  | _, _, .ob _, c => by simp only [toP, PyData.canLay0] at c; cases c
  | _, _, .exn _ _ _, c => by simp only [toP, PyData.canLay0] at c; cases c
  | _, _, .fk _ _ _ _, c => by simp only [toP, PyData.canLay0] at c; cases c
  | _, _, .ft _ _ _ _, c => by simp only [toP, PyData.canLay0] at c; cases c
  | _, _, .tk _ _, c => by simp only [toP, PyData.canLay0] at c; cases c
theorem IsAll.dp (g : Same G H) : ∀ {vs : List V} {ds : List D}, IsAll K A G vs ds → PyData.canLayAll0 (toPs ds) = true → DpAll K H vs (toPs ds)
  | _, _, .nil, _ => by simp only [toPs]; exact .nil
  | _, _, .cons h t, c => by
    simp only [toPs, PyData.canLayAll0, Bool.and_eq_true] at c ⊢
    exact .cons (Is.dp g h c.1) (IsAll.dp g t c.2)
end
theorem SIs.dp (h : SIs K H0 A G H v d) (g : GS K A G H W) (c : PyData.canLay0 (toP d) = true) : Dp K H v (toP d) := by
  have main : ∀ xs, seqL W d = some xs → toP d = .list (toPs xs) → Dp K H v (toP d) := fun xs e1 e2 => by
    obtain ⟨p, vs, rfl, hp, l, s⟩ := h.seq g e1
    rw [e2] at c ⊢
    simp only [PyData.canLay0] at c
    exact .lst hp (s.dp g.sub c)
  cases d with
  | ow xs => exact main xs rfl (by simp only [toP])
  | bo xs => exact main xs rfl (by simp only [toP])
  | od _ => simp only [toP, PyData.canLay0] at c; cases c
  | ot _ => simp only [toP, PyData.canLay0] at c; cases c
  | _ => exact Is.dp g.sub (SIs.is h rfl) c
end
def eqD : O2 := fun _ x y => if SeqAt.shaped (toP x) && SeqAt.shaped (toP y) then some (.bl (PyData.eqv (toP x) (toP y))) else none
def neD : O2 := fun _ x y => if SeqAt.shaped (toP x) && SeqAt.shaped (toP y) then some (.bl (!PyData.eqv (toP x) (toP y))) else none
def isNon : D → Bool
  | .non => true
  | _ => false
def isND : O2 := fun _ x y => match y with
  | .non => some (.bl (isNon x))
  | _ => none
/-- x in ys: a list of any data, a tuple of flat things, a text in a text -/
def flatD : D → Bool
  | .non => true
  | .bl _ => true
  | .int _ => true
  | .str _ => true
  | _ => false
def inD : O2 := fun W x y => match x, y with
  | .str i, .str j => some (.bl (!(Builtin.Str.occurrences j i 0 j.length 1).isEmpty))
  | x, .tup ys => if flatD x && ys.all flatD then some (.bl (ys.any fun z => PyData.eqv (toP z) (toP x))) else none
  | x, y => match seqL W y with
    | some ys => if SeqAt.shaped (toP x) && SeqAt.shaped (.list (toPs ys)) then some (.bl (ys.any fun z => PyData.eqv (toP z) (toP x))) else none
    | none => none
section
variable {X : Cx} {fr : Nat} {pos : Pos}
theorem shaped_lay {d : PyData} (h : SeqAt.shaped d = true) : PyData.canLay0 d = true := SeqAt.canLay_of_shaped h
theorem sem_eq : Sem2 X fr eqD (rEqD X.K) := by
  intro H0 A G H A1 G1 H1 W v u x y z Q g1 x1 s1 s2 e q
  unfold eqD at e
  split at e
  · rename_i h
    rw [Bool.and_eq_true] at h
    cases e
    exact ⟨toP x, toP y, s1.dp g1 (shaped_lay h.1), s2.dp g1 (shaped_lay h.2), h.1, h.2, q.bl x1 g1⟩
  · cases e
theorem sem_ne : Sem2 X fr neD (rNeD X.K) := by
  intro H0 A G H A1 G1 H1 W v u x y z Q g1 x1 s1 s2 e q
  unfold neD at e
  split at e
  · rename_i h
    rw [Bool.and_eq_true] at h
    cases e
    exact ⟨toP x, toP y, s1.dp g1 (shaped_lay h.1), s2.dp g1 (shaped_lay h.2), h.1, h.2, q.bl x1 g1⟩
  · cases e
theorem sIs_isN {K : PySem.W.Frag} {H0 G H : Hp} {A : List Addr} {v : V} {d : D} (h : SIs K H0 A G H v d) : decide (v = V.non) = isNon d := by
  cases d with
  | non => rw [sIs_non h]; rfl
  | bl b => rw [sIs_bl h]; rfl
  | int b => rw [sIs_int h]; rfl
  | str b => rw [sIs_str h]; rfl
  | lst _ => cases (SIs.is h rfl); rfl
  | tup _ => cases (SIs.is h rfl); rfl
  | ob _ => cases (SIs.is h rfl); rfl
  | exn _ _ => cases (SIs.is h rfl); rfl
  | fk _ => cases (SIs.is h rfl); rfl
  | ft _ => cases (SIs.is h rfl); rfl
  | tk _ => cases (SIs.is h rfl); rfl
  | ow _ => obtain ⟨p, vs, rfl, _⟩ := h; rfl
  | bo _ => obtain ⟨p, vs, rfl, _⟩ := h; rfl
  | od _ => obtain ⟨p, vs, rfl, _⟩ := h; rfl
  | ot _ => obtain ⟨p, vs, rfl, _⟩ := h; rfl
theorem sem_isN : Sem2 X fr isND (fun x y H Q => y = .non ∧ Q (.bl (decide (x = .non))) H) := by
  intro H0 A G H A1 G1 H1 W v u x y z Q g1 x1 s1 s2 e q
  unfold isND at e
  split at e
  · cases e
    refine ⟨sIs_non s2, ?_⟩
    rw [sIs_isN s1]
    exact q.bl x1 g1
  · cases e
theorem Is.flat {K : PySem.W.Frag} {A : List Addr} {G : Hp} {v : V} {d : D} (h : Is K A G v d) (f : flatD d = true) : flatV v = true := by
  cases h with
  | lst _ _ _ => cases f
  | tup _ _ _ => cases f
  | ob _ => cases f
  | exn _ _ _ => cases f
  | fk _ _ _ _ => cases f
  | ft _ _ _ _ => cases f
  | tk _ _ => cases f
  | _ => rfl
theorem eqV_toP {K : PySem.W.Frag} {A : List Addr} {G : Hp} {v u : V} {d e : D} (h : Is K A G v d) (h' : Is K A G u e) (f : flatD d = true) (f' : flatD e = true) : eqV v u = PyData.eqv (toP d) (toP e) := by
  cases h with
  | lst _ _ _ => cases f
  | tup _ _ _ => cases f
  | ob _ => cases f
  | exn _ _ _ => cases f
  | fk _ _ _ _ => cases f
  | ft _ _ _ _ => cases f
  | tk _ _ => cases f
  | non => cases h' with
    | lst _ _ _ => cases f'
    | tup _ _ _ => cases f'
    | ob _ => cases f'
    | exn _ _ _ => cases f'
    | fk _ _ _ _ => cases f'
    | ft _ _ _ _ => cases f'
    | tk _ _ => cases f'
    | _ => simp [toP, PyData.eqv, eqV]
  | bl b => cases h' with
    | lst _ _ _ => cases f'
    | tup _ _ _ => cases f'
    | ob _ => cases f'
    | exn _ _ _ => cases f'
    | fk _ _ _ _ => cases f'
    | ft _ _ _ _ => cases f'
    | tk _ _ => cases f'
    | _ => simp [toP, PyData.eqv, eqV]
  | int b => cases h' with
    | lst _ _ _ => cases f'
    | tup _ _ _ => cases f'
    | ob _ => cases f'
    | exn _ _ _ => cases f'
    | fk _ _ _ _ => cases f'
    | ft _ _ _ _ => cases f'
    | tk _ _ => cases f'
    | _ => simp [toP, PyData.eqv, eqV]
  | str b => cases h' with
    | lst _ _ _ => cases f'
    | tup _ _ _ => cases f'
    | ob _ => cases f'
    | exn _ _ _ => cases f'
    | fk _ _ _ _ => cases f'
    | ft _ _ _ _ => cases f'
    | tk _ _ => cases f'
    | _ => simp [toP, PyData.eqv, eqV]
theorem inV_toP {K : PySem.W.Frag} {A : List Addr} {G : Hp} {v : V} {d : D} (h : Is K A G v d) (f : flatD d = true) : ∀ {vs : List V} {ds : List D}, IsAll K A G vs ds → ds.all flatD = true →
    inV v vs = (ds.any fun z => PyData.eqv (toP z) (toP d)) ∧ vs.all flatV = true
  | _, _, .nil, _ => ⟨rfl, rfl⟩
  | _, _, .cons h1 t, c => by
    rw [List.all_cons, Bool.and_eq_true] at c
    obtain ⟨e1, e2⟩ := inV_toP h f t c.2
    unfold inV at e1 ⊢
    rw [List.any_cons, List.any_cons, e1, eqV_toP h1 h c.1 f, List.all_cons, e2, h1.flat c.1]
    exact ⟨rfl, rfl⟩
theorem any_toPs (ds : List D) (d : PyData) : ((toPs ds).any fun z => PyData.eqv z d) = ds.any fun z => PyData.eqv (toP z) d := by
  rw [toPs_map, List.any_map]
  rfl
theorem sem_in0 (neg : Bool) : Sem2 X fr (fun W x y => match inD W x y with | some (.bl b) => some (.bl (if neg then !b else b)) | _ => none)
    (fun x y H Q => (∃ i j, x = .str i ∧ y = .str j ∧ Q (.bl (if neg then !(!(Builtin.Str.occurrences j i 0 j.length 1).isEmpty) else (!(Builtin.Str.occurrences j i 0 j.length 1).isEmpty))) H) ∨ (rIn X.K neg x y H Q) ∨ (∃ d ds, Dp X.K H x d ∧ Dp X.K H y (.list ds) ∧ SeqAt.shaped d = true ∧ SeqAt.shaped (.list ds) = true ∧ Q (.bl (if neg then !(ds.any fun z => PyData.eqv z d) else (ds.any fun z => PyData.eqv z d))) H)) := by
  intro H0 A G H A1 G1 H1 W v u x y z Q g1 x1 s1 s2 e q
  have lists : ∀ ys, seqL W y = some ys → SeqAt.shaped (toP x) = true → SeqAt.shaped (.list (toPs ys)) = true → z = .bl (if neg then !(ys.any fun z => PyData.eqv (toP z) (toP x)) else (ys.any fun z => PyData.eqv (toP z) (toP x))) → (∃ d ds, Dp X.K H1 v d ∧ Dp X.K H1 u (.list ds) ∧ SeqAt.shaped d = true ∧ SeqAt.shaped (.list ds) = true ∧ Q (.bl (if neg then !(ds.any fun z => PyData.eqv z d) else (ds.any fun z => PyData.eqv z d))) H1) := by
    intro ys e1 h1 h2 ez
    subst ez
    obtain ⟨p, vs, rfl, hp, l, i⟩ := s2.seq g1 e1
    refine ⟨toP x, toPs ys, s1.dp g1 (shaped_lay h1), .lst hp (i.dp g1.sub (by simpa [PyData.canLay0] using shaped_lay h2)), h1, h2, ?_⟩
    rw [any_toPs]
    exact q.bl x1 g1
  simp only at e
  cases w : inD W x y with
  | none => rw [w] at e; cases e
  | some r =>
    rw [w] at e
    cases r with
    | bl b =>
      cases e
      unfold inD at w
      split at w
      · cases w
        exact .inl ⟨_, _, sIs_str s1, sIs_str s2, q.bl x1 g1⟩
      · rename_i ys
        split at w
        · rename_i h
          rw [Bool.and_eq_true] at h
          cases w
          obtain ⟨p, vs, rfl, hp, hpg, l, i⟩ := s2.tupl g1 (show tupL (.tup ys) = some ys from rfl)
          have tr : isTree x = true := by
            cases x <;> first | rfl | exact absurd h.1 Bool.false_ne_true
          obtain ⟨e1, e2⟩ := inV_toP (SIs.is s1 tr) h.1 i h.2
          refine .inr (.inl ⟨p, vs, rfl, .inr hp, (SIs.is s1 tr).flat h.1, e2, ?_⟩)
          rw [e1]
          exact q.bl x1 g1
        · cases w
      · split at w
        · rename_i ys e1
          split at w
          · rename_i h
            rw [Bool.and_eq_true] at h
            cases w
            exact .inr (.inr (lists ys e1 h.1 h.2 rfl))
          · cases w
        · cases w
    | _ => cases e
end
end EV

set_option maxRecDepth 100000
noncomputable section
namespace EV
open PySem PySem.Spec PyProof.Rows L2
abbrev BF := Env → World → Res Bool
def tT (K : PySem.W.Frag) (mg : Str → Option Value) (Z : XK) (f : BF) : TT := fun σ H Q =>
  ∃ H0 A G env W, GS K A G H W ∧ Rel K H0 A G env σ H ∧ Out K mg Z A G H (fun b W' => ∀ A' G' H', GS K A' G' H' W' → Ext A G H A' G' H' → Q b H') (f env W)
abbrev DT (X : Cx) (Z : XK) (e : Expr) (f : BF) : Prop := PT X e (tT X.K X.mg Z f)
abbrev DW (X : Cx) (Z : XK) (e : Expr) (f : BF) : Prop := PW X e (tT X.K X.mg Z f)
def bV (f : EF) : BF := fun env W => (f env W).bind fun d W1 => match d with
  | .bl b => .ok b W1
  | _ => .stuck
section
variable {K : PySem.W.Frag} {A A1 A2 A' : List Addr} {G G1 G2 G' H H1 H2 H' H0 : Hp} {v u : V} {d e : D} {W : World} {fr n : Nat}
/-- as tD_of, the first part a test -/
theorem tT_of {α : Type} {mg : Str → Option Value} {Z : XK} {env : Env} {W : World} {σ : L2.St} {fa : BF} {P : α → World → Prop} {k : Bool → World → Res α} {T : Bool → Hp → Prop} {A1 : List Addr} {G1 H1 : Hp} (x : Ext A G H A1 G1 H1) (g : GS K A1 G1 H1 W) (R : Rel K H0 A1 G1 env σ H1) (h : Out K mg Z A G H P ((fa env W).bind k))
    (step : ∀ b W2 A2 G2 H2, GS K A2 G2 H2 W2 → Ext A1 G1 H1 A2 G2 H2 → Ext A G H A2 G2 H2 → Rel K H0 A2 G2 env σ H2 → Out K mg Z A G H P (k b W2) → T b H2) : tT K mg Z fa σ H1 T := by
  refine ⟨H0, A1, G1, env, W, g, R, ?_⟩
  cases q : fa env W with
  | ok d W1 =>
    rw [q] at h
    exact fun A2 G2 H2 g2 x2 => step d W1 A2 G2 H2 g2 x2 (x.trans x2) (R.ext x2) h
  | exc x' W1 =>
    rw [q] at h
    exact Pex.step h x
  | stuck => rw [q] at h; exact h
theorem Out.again {α : Type} {mg : Str → Option Value} {Z : XK} {P P' : α → World → Prop} {r : Res α} (h : Out K mg Z A G H P r) (x : Ext A G H A1 G1 H1) (w : ∀ a W, P a W → P' a W) : Out K mg Z A1 G1 H1 P' r := by
  cases r with
  | ok a W => exact w a W h
  | exc x' W => exact Pex.step h x
  | stuck => exact h
/-- an expression's reading, wanted as a test's -/
theorem tD_bV {fr : Nat} {mg : Str → Option Value} {Z : XK} {f : EF} {σ : L2.St} {Q : Bool → Hp → Prop} (h : tT K mg Z (bV f) σ H Q) : tD K mg Z fr f σ H (fun x H1 => ∃ k, x = .bl k ∧ Q k H1) := by
  obtain ⟨H0, A, G, env, W, g, R, o⟩ := h
  refine tD_of (Ext.refl _ _ _) g R o fun d W1 v A1 G1 H1 g1 _ x1 R1 s1 o1 => ?_
  cases d with
  | bl b => exact ⟨b, sIs_bl (s1.toS rfl), o1 A1 G1 H1 g1 x1⟩
  | _ => exact o1.elim
end
section
variable {X : Cx} {Z : XK} {fr : Nat} {pos : Pos} {a b c : Expr} {fa fb fc : EF} {ba bb : BF} {rest : List Expr}
theorem dt_val (h : DE X Z fr a fa) (he : ∀ whole, isTrue a X.env whole = (do let v ← whole; standAt a.pos; holding [v] (truthy v)) := by intro _; rfl) : DT X Z a (bV fa) :=
  PT.imp (pt_val h he) fun _ _ _ q => tD_bV q
theorem dt_cmp {op : CmpOp} {r : R2} {o2 : O2} (ho : OpR X (compareOp op) r) (hr : Sem2 X 0 o2 r) (hm : behindInMarks op b = false) (ha : DE X Z 0 a fa) (hb : DE X Z 0 b fb) : DT X Z (.Compare a [op] [b] pos) (bV (eBin o2 fa fb)) :=
  PT.imp (pt_cmpR ho ha hb hm) fun _ _ _ h => sem2_use (a := a) (b := b) hr (tD_bV h)
def bOr (f g : BF) : BF := fun env W => (f env W).bind fun b W1 => if b then .ok true W1 else g env W1
def bNot (f : BF) : BF := fun env W => (f env W).bind fun b W1 => .ok (!b) W1
theorem dw_or1 (h : DT X Z a ba) : DW X Z (.BoolOp .Or [a] pos) ba := pw_or1 h
theorem PW.imp {e : Expr} {t t' : TT} (h : PW X e t) (w : ∀ σ H Q, t' σ H Q → t σ H Q) : PW X e t' := ⟨fun wh pins s σ H Q I q => h.run wh pins s σ H Q I (w σ H Q q)⟩
theorem out_test {K : PySem.W.Frag} {mg : Str → Option Value} {A A1 : List Addr} {G G1 H H1 H0 : Hp} {env : Env} {σ : L2.St} {W : World} {f : BF} {Q : Bool → Hp → Prop} (x : Ext A G H A1 G1 H1) (g : GS K A1 G1 H1 W) (R : Rel K H0 A1 G1 env σ H1)
    (o : Out K mg Z A G H (fun b W' => ∀ A' G' H', GS K A' G' H' W' → Ext A G H A' G' H' → Q b H') (f env W)) : tT K mg Z f σ H1 Q :=
  ⟨H0, A1, G1, env, W, g, R, o.again x fun b W' q A' G' H' g' x' => q A' G' H' g' (x.trans x')⟩
theorem dw_or (ha : DT X Z a ba) (hb : DW X Z (.BoolOp .Or (b :: rest) pos) bb) : DW X Z (.BoolOp .Or (a :: b :: rest) pos) (bOr ba bb) := PW.imp (pw_or ha hb) fun σ H Q h => by
  obtain ⟨H0, A, G, env, W, g, R, o⟩ := h
  refine tT_of (Ext.refl _ _ _) g R o fun c W1 A1 G1 H1 g1 _ x1 R1 o1 => ?_
  cases c with
  | true => exact iteT (o1 A1 G1 H1 g1 x1)
  | false => exact iteF (out_test x1 g1 R1 o1)
theorem dt_w (h : DW X Z a ba) : DT X Z a ba := h.pt
theorem dt_not (h : DT X Z a ba) : DT X Z (.UnaryOp .Not a pos) (bNot ba) := PT.imp (pt_not h) fun σ H Q h => by
  obtain ⟨H0, A, G, env, W, g, R, o⟩ := h
  exact tT_of (Ext.refl _ _ _) g R o fun c W1 A1 G1 H1 g1 _ x1 R1 o1 => o1 A1 G1 H1 g1 x1
def eAnd (fa fb : EF) : EF := fun env W => (fa env W).bind fun d W1 => match d with
  | .bl true => fb env W1
  | .bl false => .ok (.bl false) W1
  | _ => .stuck
def eOr (fa fb : EF) : EF := fun env W => (fa env W).bind fun d W1 => match d with
  | .bl true => .ok (.bl true) W1
  | .bl false => fb env W1
  | _ => .stuck
theorem d_one {op} (h : DE X Z fr a fa) : DE X Z fr (.BoolOp op [a] pos) fa := pe_one h
theorem out_expr {K : PySem.W.Frag} {mg : Str → Option Value} {A A1 : List Addr} {G G1 H H1 H0 : Hp} {env : Env} {σ : L2.St} {W : World} {f : EF} {Q : VK} (x : Ext A G H A1 G1 H1) (g : GS K A1 G1 H1 W) (R : Rel K H0 A1 G1 env σ H1)
    (o : Out K mg Z A G H (fun d W' => Pst K H0 A G H fr d W' Q) (f env W)) : tD K mg Z fr f σ H1 Q :=
  ⟨H0, A1, G1, env, W, g, R, o.again x fun _ _ q => q.step x⟩
theorem d_and (ha : DE X Z 0 a fa) (hb : DE X Z fr (.BoolOp .And (b :: rest) pos) fb) : DE X Z fr (.BoolOp .And (a :: b :: rest) pos) (eAnd fa fb) := PE.imp (pe_and ha hb) fun σ H Q h => by
  obtain ⟨H0, A, G, env, W, g, R, o⟩ := h
  refine tD_of0 (Ext.refl _ _ _) g R o fun d W1 v A1 G1 H1 g1 _ x1 R1 s1 o1 => ?_
  cases d with
  | bl k =>
    refine ⟨k, sIs_bl s1, ?_⟩
    cases k with
    | true => exact iteT (out_expr x1 g1 R1 o1)
    | false => exact iteF (Pst.bl o1 x1 g1)
  | _ => exact o1.elim
def eIf (bt : BF) (fa fb : EF) : EF := fun env W => (bt env W).bind fun c W1 => if c then fa env W1 else fb env W1
theorem d_if (ht : DT X Z c ba) (ha : DE X Z fr a fa) (hb : DE X Z fr b fb) : DE X Z fr (.IfExp c a b pos) (eIf ba fa fb) := PE.imp (pe_ifExp ht ha hb) fun σ H Q h => by
  obtain ⟨H0, A, G, env, W, g, R, o⟩ := h
  refine tT_of (Ext.refl _ _ _) g R o fun c W1 A1 G1 H1 g1 _ x1 R1 o1 => ?_
  cases c with
  | true => exact iteT (out_expr x1 g1 R1 o1)
  | false => exact iteF (out_expr x1 g1 R1 o1)

def eArgs : List EF → Env → World → Res (List D)
  | [], _, W => .ok [] W
  | f :: fs, env, W => (f env W).bind fun d W1 => (eArgs fs env W1).bind fun ds W2 => .ok (d :: ds) W2
abbrev SAll (K : PySem.W.Frag) (H0 : Hp) (A : List Addr) (G H : Hp) : List V → List D → Prop := Paired (SIs K H0 A G H)
theorem SAll.ext {K : PySem.W.Frag} {A A1 : List Addr} {G G1 H H1 H0 : Hp} {vs : List V} {ds : List D} (h : SAll K H0 A G H vs ds) (x : Ext A G H A1 G1 H1) : SAll K H0 A1 G1 H1 vs ds := Paired.mapP h fun _ _ s => s.ext x
def tDs (K : PySem.W.Frag) (mg : Str → Option Value) (Z : XK) (fr : Nat) (fs : List EF) : TA := fun σ H Q =>
  ∃ H0 A G env W, GS K A G H W ∧ Rel K H0 A G env σ H ∧ Out K mg Z A G H (fun ds W' => ∀ vs A' G' H', GS K A' G' H' W' → Ext A G H A' G' H' → SAll K H0 A' G' H' vs ds → (1 ≤ fr → ∀ (i : Nat) es q, ds[i]? = some (.lst es) → vs[i]? = some (.ref q) → H q = none) → Q vs H') (eArgs fs env W)
abbrev DA (X : Cx) (Z : XK) (fr : Nat) (es : List Expr) (fs : List EF) : Prop := PA X es (tDs X.K X.mg Z fr fs)
theorem da_nil : DA X Z fr [] [] := PA.imp pa_nil fun σ H Q h => by
  obtain ⟨H0, A, G, env, W, g, R, o⟩ := h
  exact o [] A G H g (Ext.refl _ _ _) .nil fun _ i es q e => by simp at e
theorem da_cons {es : List Expr} {fs : List EF} (ha : DE X Z fr a fa) (hr : DA X Z fr es fs) (hs : starEach (a :: es) X.env = (false, eval a X.env) :: starEach es X.env := by rfl) : DA X Z fr (a :: es) (fa :: fs) := PA.imp (pa_cons ha hr hs) fun σ H Q h => by
  obtain ⟨H0, A, G, env, W, g, R, o⟩ := h
  refine ⟨H0, A, G, env, W, g, R, ?_⟩
  unfold eArgs at o
  cases qa : fa env W with
  | exc x' W1 => rw [qa] at o; exact o
  | stuck => rw [qa] at o; exact o
  | ok d W1 =>
    rw [qa] at o
    simp only [Res.bind_ok] at o
    intro v A1 G1 H1 g1 x1 s1
    obtain ⟨G1', sm, x1', g1', s1', f1⟩ := s1.frozen x1 g1
    refine ⟨H0, A1, G1', env, W1, g1', R.ext x1', ?_⟩
    cases q : eArgs fs env W1 with
    | ok ds W2 =>
      rw [q] at o
      refine fun vs A2 G2 H2 g2 x2 s2 fr2 => o (v :: vs) A2 G2 H2 g2 (x1'.trans x2) (.cons (s1'.ext x2) s2) fun l i es' p e1 e2 => ?_
      cases i with
      | zero =>
        cases (Option.some.inj e2)
        exact f1 l _ p (Option.some.inj e1) rfl
      | succ i => exact x1'.there p (fr2 l i es' p e1 e2)
    | exc x' W2 =>
      rw [q] at o
      exact Pex.step o x1'
    | stuck => rw [q] at o; exact o
end
end EV

set_option maxRecDepth 100000
noncomputable section
namespace EV
open PySem PySem.Spec PyProof.Rows L2
section
variable {K : PySem.W.Frag} {A A1 A2 A' : List Addr} {G G1 G2 G' H H1 H2 H' H0 : Hp} {v u : V} {d e : D} {W : World} {Q : VK} {fr n : Nat}
theorem SAll.is : ∀ {vs : List V} {ds : List D}, SAll K H0 A G H vs ds → ds.all isTree = true → IsAll K A G vs ds
  | _, _, .nil, _ => .nil
  | _, _, .cons h t, c => by
    rw [List.all_cons, Bool.and_eq_true] at c
    exact .cons (SIs.is h c.1) (SAll.is t c.2)
theorem SAll.one {vs : List V} {d : D} (h : SAll K H0 A G H vs [d]) : ∃ v, vs = [v] ∧ SIs K H0 A G H v d := by
  cases h with
  | cons h t => cases t; exact ⟨_, rfl, h⟩
theorem SAll.two {vs : List V} {d e : D} (h : SAll K H0 A G H vs [d, e]) : ∃ v u, vs = [v, u] ∧ SIs K H0 A G H v d ∧ SIs K H0 A G H u e := by
  cases h with
  | cons h t => cases t with
    | cons h2 t => cases t; exact ⟨_, _, rfl, h, h2⟩
end
theorem eArgs_len : ∀ {fs : List EF} {env : Env} {W W' : World} {ds : List D}, eArgs fs env W = .ok ds W' → ds.length = fs.length
  | [], _, _, _, _, h => by cases h; rfl
  | f :: fs, env, W, W', ds, h => by
    unfold eArgs at h
    cases q : f env W with
    | ok d W1 =>
      rw [q] at h
      simp only [Res.bind_ok] at h
      cases q2 : eArgs fs env W1 with
      | ok es W2 =>
        rw [q2] at h
        cases h
        rw [List.length_cons, List.length_cons, eArgs_len q2]
      | exc _ _ => rw [q2] at h; cases h
      | stuck => rw [q2] at h; cases h
    | exc _ _ => rw [q] at h; cases h
    | stuck => rw [q] at h; cases h
def eLst (fs : List EF) : EF := fun env W => (eArgs fs env W).bind fun ds W1 => if ds.all isTree then .ok (.lst ds) W1 else .stuck
/-- a call of the built-in kind, by the arguments' worths -/
abbrev ON := World → List D → Option D
def eFn (o : ON) (fs : List EF) : EF := fun env W => (eArgs fs env W).bind fun ds W1 => Res.ofO (o W1 ds) W1
def SemN (X : Cx) (fr : Nat) (o : ON) (r : List V → Hp → VK → Prop) : Prop := ∀ (H0 : Hp) (A : List Addr) (G H : Hp) (A1 : List Addr) (G1 H1 : Hp) (W : World) (vs : List V) (ds : List D) (z : D) (Q : VK), GS X.K A1 G1 H1 W → Ext A G H A1 G1 H1 → SAll X.K H0 A1 G1 H1 vs ds →
  o W ds = some z → Pst X.K H0 A G H fr z W Q → r vs H1 Q
section
variable {X : Cx} {Z : XK} {fr frm : Nat} {pos : Pos} {a b c : Expr} {fa fb fc : EF} {ba bb : BF} {rest : List Expr} {es : List Expr} {fs : List EF}
/-- the arguments' reading from the whole's -/
theorem tDs_of {α : Type} {K : PySem.W.Frag} {mg : Str → Option Value} {H0 : Hp} {env : Env} {W : World} {σ : L2.St} {P : α → World → Prop} {k : List D → World → Res α} {T : List V → Hp → Prop} {A A1 : List Addr} {G G1 H H1 : Hp} (x : Ext A G H A1 G1 H1) (g : GS K A1 G1 H1 W) (R : Rel K H0 A1 G1 env σ H1) (h : Out K mg Z A G H P ((eArgs fs env W).bind k))
    (step : ∀ ds W2 vs A2 G2 H2, ds.length = fs.length → GS K A2 G2 H2 W2 → Ext A1 G1 H1 A2 G2 H2 → Ext A G H A2 G2 H2 → Rel K H0 A2 G2 env σ H2 → SAll K H0 A2 G2 H2 vs ds → (1 ≤ fr → ∀ (i : Nat) es q, ds[i]? = some (.lst es) → vs[i]? = some (.ref q) → H1 q = none) → Out K mg Z A G H P (k ds W2) → T vs H2) : tDs K mg Z fr fs σ H1 T := by
  refine ⟨H0, A1, G1, env, W, g, R, ?_⟩
  cases q : eArgs fs env W with
  | ok ds W1 =>
    rw [q] at h
    exact fun vs A2 G2 H2 g2 x2 s f => step ds W1 vs A2 G2 H2 (eArgs_len q) g2 x2 (x.trans x2) (R.ext x2) s f h
  | exc x' W1 =>
    rw [q] at h
    exact Pex.step h x
  | stuck => rw [q] at h; exact h
theorem d_lst (ha : DA X Z frm es fs) (hl : fs.length ≤ LINE := by rw [LINE_v]; decide) : DE X Z (frm + 1) (.List es pos) (eLst fs) := PE.imp (pe_lst ha) fun σ H Q h => by
  obtain ⟨H0, A, G, env, W, g, R, o⟩ := h
  refine tDs_of (Ext.refl _ _ _) g R o fun ds W2 vs A2 G2 H2 le g2 _ x2 R2 s2 f2 o2 => ?_
  by_cases hc : ds.all isTree = true
  · rw [if_pos hc] at o2
    have i := s2.is hc
    have l : ds.length ≤ LINE := by rw [le]; exact hl
    exact ⟨by rw [i.length, ← LINE_eq]; exact l, fun p hp => Pst.new_lst o2 x2 g2 hp l i fun h2 => f2 (by omega)⟩
  · rw [if_neg hc] at o2; exact o2.elim
theorem fn_use {o : ON} {r : List V → Hp → VK → Prop} (hr : SemN X fr o r) {σ : L2.St} {H : Hp} {Q : VK} (h : tD X.K X.mg Z fr (eFn o fs) σ H Q) : tCB r (tDs X.K X.mg Z 0 fs) σ H Q := by
  obtain ⟨H0, A, G, env, W, g, R, o'⟩ := h
  refine tDs_of (Ext.refl _ _ _) g R o' fun ds W2 vs A2 G2 H2 le g2 _ x2 R2 s2 f2 o2 => ?_
  cases q : o W2 ds with
  | none => rw [q] at o2; exact o2.elim
  | some z =>
    rw [q] at o2
    exact hr H0 A G H A2 G2 H2 W2 vs ds z Q g2 x2 s2 q o2
theorem d_callB {x : Str} {p : Pos} {id : String} {o : ON} {r : List V → Hp → VK → Prop} (hc : CallR X (.builtin id) r) (hr : SemN X fr o r) (hg : Gl X x) (hm : X.mg x = none) (hv : bootBuiltins x = some (.builtin id)) (ha : DA X Z 0 (a :: es) fs) (hn : x ≠ "__name__" := by decide) (hdb : (x == ("__debug__" : Str)) = false := by decide)
    (he : starEach (a :: es) X.env = (false, eval a X.env) :: starEach es X.env := by rfl) (hpl : (backTo pos (starEach es X.env)).any (·.1) = false := by rfl) : DE X Z fr (.Call (.Name x p) (a :: es) [] pos) (eFn o fs) :=
  PE.imp (pe_callB hc hg hm hv ha hn hdb he hpl) fun _ _ _ h => fn_use hr h
theorem d_callTy {x : Str} {p : Pos} {T : String} {o : ON} {r : List V → Hp → VK → Prop} (hc : CallR X (.type T) r) (hr : SemN X fr o r) (hg : Gl X x) (hm : X.mg x = none) (hv : bootBuiltins x = some (.type T)) (ha : DA X Z 0 (a :: es) fs) (hn : x ≠ "__name__" := by decide) (hdb : (x == ("__debug__" : Str)) = false := by decide)
    (he : starEach (a :: es) X.env = (false, eval a X.env) :: starEach es X.env := by rfl) (hpl : (backTo pos (starEach es X.env)).any (·.1) = false := by rfl) : DE X Z fr (.Call (.Name x p) (a :: es) [] pos) (eFn o fs) :=
  PE.imp (pe_callTy hc hg hm hv ha hn hdb he hpl) fun _ _ _ h => fn_use hr h

def idxD : O2 := fun W x y => match y with
  | .int i => match x with
    | .tup xs => atI xs i
    | .str s => if s.length ≤ LINE then (atI s.cps.toList i).map fun c => .str ⟨#[c]⟩ else none
    | x => match seqL W x with
      | some xs => atI xs i
      | none => none
  | _ => none
theorem atI_is {K : PySem.W.Frag} {A : List Addr} {G : Hp} {vs : List V} {ds : List D} {i : Int} {d : D} (h : IsAll K A G vs ds) (e : atI ds i = some d) : ∃ v, atI vs i = some v ∧ Is K A G v d := by
  unfold atI at e ⊢
  rw [h.length]
  cases q : ixN ds.length i with
  | none => rw [q] at e; cases e
  | some j =>
    rw [q] at e
    exact h.get e
theorem sem_idx : Sem2 X 0 idxD (fun x y H Q => rIxL X.K x y H Q ∨ rIxT X.K x y H Q ∨ rIxS x y H Q) := by
  intro H0 A G H A1 G1 H1 W v u x y z Q g1 x1 s1 s2 e q
  unfold idxD at e
  split at e
  · rename_i i
    have hu := sIs_int s2
    subst hu
    split at e
    · rename_i xs
      obtain ⟨p, vs, rfl, hp, hpg, l, il⟩ := s1.tupl g1 (show tupL (.tup xs) = some xs from rfl)
      obtain ⟨w, e1, iw⟩ := atI_is il e
      exact .inr (.inl ⟨p, vs, i, w, rfl, rfl, hp, e1, q.any x1 g1 (.of iw)⟩)
    · rename_i s
      split at e
      · rename_i hl
        cases q' : atI s.cps.toList i with
        | none => rw [q'] at e; cases e
        | some c =>
          rw [q'] at e
          cases e
          rw [sIs_str s1]
          exact .inr (.inr ⟨s, i, c, rfl, rfl, by rw [← LINE_eq]; exact hl, q', q.str x1 g1⟩)
      · cases e
    · split at e
      · rename_i xs e1
        obtain ⟨p, vs, rfl, hp, l, il⟩ := s1.seq g1 e1
        obtain ⟨w, e2, iw⟩ := atI_is il e
        exact .inl ⟨p, vs, i, w, rfl, rfl, hp, e2, q.any x1 g1 (.of iw)⟩
      · cases e
  · cases e
theorem d_idx (ha : DE X Z 0 a fa) (hb : DE X Z 0 b fb) (hs : PlainIx b := by exact fun _ _ => rfl) : DE X Z 0 (.Subscript a b pos) (eBin idxD fa fb) :=
  PE.imp (pe_ix (X := X) (r := fun x y H Q => rIxL X.K x y H Q ∨ rIxT X.K x y H Q ∨ rIxS x y H Q) (ix_list.or (ix_tup.or ix_str)) ha hb hs) fun _ _ _ h => sem2_use (a := a) (b := b) sem_idx h

def cutL {α : Type} (xs : List α) (lo hi : Option Int) : List α := (xs.drop (HT.sIx xs.length 0 lo)).take (HT.sIx xs.length xs.length hi - HT.sIx xs.length 0 lo)
abbrev PF := Env → World → Res (Option Int)
def pNone : PF := fun _ W => .ok none W
def pSome (f : EF) : PF := fun env W => (f env W).bind fun d W1 => match d with
  | .int i => .ok (some i) W1
  | _ => .stuck
def slcD (W : World) (x : D) (lo hi : Option Int) : Option D := match x with
  | .tup xs => some (.tup (cutL xs lo hi))
  | x => match seqL W x with
    | some xs => some (.lst (cutL xs lo hi))
    | none => none
def eSlc (fx : EF) (lo hi : PF) : EF := fun env W => (fx env W).bind fun x W1 => (lo env W1).bind fun l W2 => (hi env W2).bind fun h W3 => Res.ofO (slcD W3 x l h) W3
def tP (K : PySem.W.Frag) (mg : Str → Option Value) (Z : XK) (f : PF) : L2.TO := fun σ H Q =>
  ∃ H0 A G env W, GS K A G H W ∧ Rel K H0 A G env σ H ∧ Out K mg Z A G H (fun b W' => ∀ A' G' H', GS K A' G' H' W' → Ext A G H A' G' H' → Q b H') (f env W)
abbrev DP (X : Cx) (Z : XK) (e : Option Expr) (f : PF) : Prop := PO X e (tP X.K X.mg Z f)
theorem tP_of {α : Type} {K : PySem.W.Frag} {A : List Addr} {G H H0 : Hp} {mg : Str → Option Value} {Z : XK} {env : Env} {W : World} {σ : L2.St} {fa : PF} {P : α → World → Prop} {k : Option Int → World → Res α} {T : Option Int → Hp → Prop} {A1 : List Addr} {G1 H1 : Hp} (x : Ext A G H A1 G1 H1) (g : GS K A1 G1 H1 W) (R : Rel K H0 A1 G1 env σ H1) (h : Out K mg Z A G H P ((fa env W).bind k))
    (step : ∀ b W2 A2 G2 H2, GS K A2 G2 H2 W2 → Ext A1 G1 H1 A2 G2 H2 → Ext A G H A2 G2 H2 → Rel K H0 A2 G2 env σ H2 → Out K mg Z A G H P (k b W2) → T b H2) : tP K mg Z fa σ H1 T := by
  refine ⟨H0, A1, G1, env, W, g, R, ?_⟩
  cases q : fa env W with
  | ok d W1 =>
    rw [q] at h
    exact fun A2 G2 H2 g2 x2 => step d W1 A2 G2 H2 g2 x2 (x.trans x2) (R.ext x2) h
  | exc x' W1 =>
    rw [q] at h
    exact Pex.step h x
  | stuck => rw [q] at h; exact h
theorem PO.imp {e : Option Expr} {t t' : L2.TO} (h : PO X e t) (w : ∀ σ H Q, t' σ H Q → t σ H Q) : PO X e t' := ⟨fun pins s σ H Q I q => h.run pins s σ H Q I (w σ H Q q)⟩
theorem dp_none : DP X Z none pNone := PO.imp po_none fun σ H Q h => by
  obtain ⟨H0, A, G, env, W, g, R, o⟩ := h
  exact o A G H g (Ext.refl _ _ _)
theorem dp_some (h : DE X Z 0 a fa) : DP X Z (some a) (pSome fa) := PO.imp (po_some h) fun σ H Q h => by
  obtain ⟨H0, A, G, env, W, g, R, o⟩ := h
  refine tD_of0 (Ext.refl _ _ _) g R o fun d W1 v A1 G1 H1 g1 _ x1 R1 s1 o1 => ?_
  cases d with
  | int i => exact ⟨i, sIs_int s1, o1 A1 G1 H1 g1 x1⟩
  | _ => exact o1.elim
theorem IsAll.cut {K : PySem.W.Frag} {A : List Addr} {G : Hp} {vs : List V} {ds : List D} (lo hi : Option Int) (h : IsAll K A G vs ds) : IsAll K A G (cutV vs lo hi) (cutL ds lo hi) := by
  unfold cutV cutL
  rw [h.length]
  exact (h.drop _).take _
theorem cutL_le {α : Type} (xs : List α) (lo hi : Option Int) : (cutL xs lo hi).length ≤ xs.length := by
  unfold cutL
  rw [List.length_take, List.length_drop]
  omega
theorem d_slc {lo hi : Option Expr} {fl fh : PF} {p2 : Pos} (ha : DE X Z 0 a fa) (hl : DP X Z lo fl) (hh : DP X Z hi fh) : DE X Z 1 (.Subscript a (.Slice lo hi none p2) pos) (eSlc fa fl fh) :=
  PE.imp (pe_slice (X := X) (r := fun x lo hi H Q => rSlL X.K x lo hi H Q ∨ rSlA X.K x lo hi H Q) (SlR.or sl_list sl_tupA) ha hl hh) fun σ H Q h => by
  obtain ⟨H0, A, G, env, W, g, R, o⟩ := h
  refine tD_of0 (Ext.refl _ _ _) g R o fun x W1 v A1 G1 H1 g1 _ x1 R1 s1 o1 => ?_
  refine tP_of x1 g1 R1 o1 fun l W2 A2 G2 H2 g2 x12 x2 R2 o2 => ?_
  refine tP_of x2 g2 R2 o2 fun r W3 A3 G3 H3 g3 x23 x3 R3 o3 => ?_
  have s3 := (s1.ext x12).ext x23
  cases q : slcD W3 x l r with
  | none => rw [q] at o3; exact o3.elim
  | some z =>
    rw [q] at o3
    unfold slcD at q
    split at q
    · rename_i xs
      cases q
      obtain ⟨p, vs, rfl, hp, hpg, ll, il⟩ := s3.tupl g3 (show tupL (.tup xs) = some xs from rfl)
      refine .inr ⟨p, vs, rfl, hp, fun hw => ?_, fun _ c hc => ?_⟩
      · have e : cutL xs l r = xs := by
          unfold cutL
          rw [il.length] at hw
          rw [hw.1, hw.2, List.drop_zero, Nat.sub_zero, List.take_length]
        rw [e] at o3
        exact Pst.flat o3 x3 g3 (.tup hpg ll il) rfl
      · exact Pst.new_tup o3 x3 g3 hc (Nat.le_trans (cutL_le _ _ _) ll) (il.cut l r)
    · split at q
      · rename_i xs e1
        cases q
        obtain ⟨p, vs, rfl, hp, ll, il⟩ := s3.seq g3 e1
        exact .inl ⟨p, vs, rfl, hp, fun c hc => Pst.new_lst o3 x3 g3 hc (Nat.le_trans (cutL_le _ _ _) ll) (il.cut l r) fun h => absurd h (by decide)⟩
      · cases q
end
end EV

set_option maxRecDepth 100000
noncomputable section
namespace EV
open PySem PySem.Spec PyProof.Rows L2
abbrev IF := Env → World → Res (List D)
/-- the iterator J yields ds, one by one, wherever S holds -/
def Wk (K : PySem.W.Frag) (J : It) (A : List Addr) (G : Hp) (S : Hp → Prop) (ds : List D) : Prop :=
  ∀ (i : Nat) (A2 : List Addr) (G2 H2 : Hp) (W2 : World), A <+: A2 → Same G G2 → GS K A2 G2 H2 W2 → S H2 →
    (ds.length ≤ i → J.stop i H2) ∧ ∀ d, ds[i]? = some d → J.go i H2 ∧ ∀ x H3, J.yld i H2 x H3 → ∃ G3, Ext A2 G2 H2 A2 G3 H3 ∧ GS K A2 G3 H3 W2 ∧ Is K A2 G3 x d
/-- kept by whatever keeps H off A -/
def StS (H : Hp) (A : List Addr) (S : Hp → Prop) : Prop := ∀ H2 : Hp, (∀ a o, H a = some o → a ∉ A → H2 a = some o) → S H2
/-- strong: S stands from the entry on (loops of statements); weak: from here on (comprehensions) -/
def tI (K : PySem.W.Frag) (mg : Str → Option Value) (Z : XK) (strong : Bool) (f : IF) : TI := fun σ H R =>
  ∃ H0 A G env W, GS K A G H W ∧ Rel K H0 A G env σ H ∧ Out K mg Z A G H (fun ds W' => ∀ A' G' H' J S, GS K A' G' H' W' → Ext A G H A' G' H' → ds.length ≤ LINE → Wk K J A' G' S ds → StS H' A' S → (strong = true → StS H0 A' S) → R J H') (f env W)
abbrev DI (X : Cx) (Z : XK) (strong : Bool) (tg e : Expr) (f : IF) : Prop := PI X tg e (tI X.K X.mg Z strong f)
theorem PI.imp {X : Cx} {tg e : Expr} {t t' : TI} (h : PI X tg e t) (w : ∀ σ H Q, t' σ H Q → t σ H Q) : PI X tg e t' := ⟨fun pins s σ H Q I q => h.run pins s σ H Q I (w σ H Q q)⟩
theorem PI.or {X : Cx} {tg e : Expr} {t t' : TI} (h : PI X tg e t) (h' : PI X tg e t') : PI X tg e (fun σ H R => t σ H R ∨ t' σ H R) := ⟨fun pins s σ H Q I q => q.elim (h.run pins s σ H Q I) (h'.run pins s σ H Q I)⟩
/-- a list or a tuple that is walked -/
def seqI (strong : Bool) : D → Option (List D)
  | .lst xs => some xs
  | .tup xs => some xs
  | .bo xs => some xs
  | .ow xs => if strong then none else some xs
  | _ => none
def iSeq (strong : Bool) (f : EF) : IF := fun env W => (f env W).bind fun d W1 => Res.ofO (seqI strong d) W1
section
variable {X : Cx} {Z : XK} {fr : Nat} {tg a : Expr} {fa : EF} {strong : Bool}
theorem wk_list {K : PySem.W.Frag} {A : List Addr} {G : Hp} {p : Addr} {vs : List V} {ds : List D} {S : Hp → Prop} (il : IsAll K A G vs ds) (hs : ∀ (A2 : List Addr) (G2 H2 : Hp) (W2 : World), A <+: A2 → Same G G2 → GS K A2 G2 H2 W2 → S H2 → SqL K H2 p vs) : Wk K (Itl K p) A G S ds := by
  intro i A2 G2 H2 W2 pa pg g sH
  have q := hs A2 G2 H2 W2 pa pg g sH
  refine ⟨fun hi => ⟨vs, q, by rw [il.length]; exact hi⟩, fun d hd => ?_⟩
  obtain ⟨v, hv, iv⟩ := il.get hd
  refine ⟨⟨vs, v, q, hv⟩, fun x H3 y => ?_⟩
  obtain ⟨e, y⟩ := y
  subst e
  have e := y vs q
  rw [hv] at e
  cases e
  exact ⟨G2, Ext.refl _ _ _, g, iv.mono pa pg⟩
theorem wk_tup {K : PySem.W.Frag} {A : List Addr} {G : Hp} {p : Addr} {vs : List V} {ds : List D} (il : IsAll K A G vs ds) (hp : SqT K G p vs) : Wk K (Itt K p) A G (fun _ => True) ds := by
  intro i A2 G2 H2 W2 pa pg g sH
  have q : SqT K H2 p vs := sqT_mono (pg.trans g.sub) hp
  refine ⟨fun hi => ⟨vs, q, by rw [il.length]; exact hi⟩, fun d hd => ?_⟩
  obtain ⟨v, hv, iv⟩ := il.get hd
  refine ⟨⟨vs, v, q, hv⟩, fun x H3 y => ?_⟩
  obtain ⟨e, y⟩ := y
  subst e
  have e := y vs q
  rw [hv] at e
  cases e
  exact ⟨G2, Ext.refl _ _ _, g, iv.mono pa pg⟩
theorem sts_true {H : Hp} {A : List Addr} : StS H A fun _ => True := fun _ _ => trivial
/-- of a list: where it stands, and how long -/
theorem seq_stands {K : PySem.W.Frag} {H0 : Hp} {A : List Addr} {G H : Hp} {W : World} {v : V} {d : D} {xs : List D} (s : SIs K H0 A G H v d) (g : GS K A G H W) (e : seqI strong d = some xs) (ht : ∀ ys, d ≠ .tup ys) :
    xs.length ≤ LINE ∧ ∃ p vs S, v = .ref p ∧ SqL K H p vs ∧ Wk K (Itl K p) A G S xs ∧ StS H A S ∧ (strong = true → StS H0 A S) ∧ (∀ (A2 : List Addr) (G2 H2 : Hp) (W2 : World), A <+: A2 → Same G G2 → GS K A2 G2 H2 W2 → S H2 → SqL K H2 p vs) ∧ IsAll K A G vs xs := by
  cases d with
  | lst ys =>
    cases e
    cases (SIs.is s rfl) with
    | lst h l i =>
      have z : ∀ (A2 : List Addr) (G2 H2 : Hp) (W2 : World), A <+: A2 → Same G G2 → GS K A2 G2 H2 W2 → (fun _ : Hp => True) H2 → SqL K H2 _ _ := fun A2 G2 H2 W2 _ pg g2 _ => .inl (.inl (g2.sub _ _ (pg _ _ h)))
      exact ⟨l, _, _, fun _ => True, rfl, .inl (.inl (g.sub _ _ h)), wk_list i z, sts_true, fun _ => sts_true, z, i⟩
  | tup ys => exact absurd rfl (ht ys)
  | bo ys =>
    cases e
    obtain ⟨p, vs, rfl, l, i, hp⟩ := s
    rcases hp with ⟨pA, hp, h0⟩ | hp
    · have z : ∀ (A2 : List Addr) (G2 H2 : Hp) (W2 : World), A <+: A2 → Same G G2 → GS K A2 G2 H2 W2 → Rd H2 p (.lst vs) → SqL K H2 p vs := fun A2 G2 H2 W2 _ pg g2 sH => .inl sH
      have st : ∀ {h : Hp}, Rd h p (.lst vs) → StS h A fun H2 => Rd H2 p (.lst vs) := fun {h} r H2 k => by
        rcases r with r | ⟨o, r⟩
        · exact .inl (k p _ r pA)
        · exact .inr ⟨o, k p _ r pA⟩
      exact ⟨l, p, vs, fun H2 => Rd H2 p (.lst vs), rfl, .inl hp, wk_list i z, st hp, fun _ => st h0, z, i⟩
    · have z : ∀ (A2 : List Addr) (G2 H2 : Hp) (W2 : World), A <+: A2 → Same G G2 → GS K A2 G2 H2 W2 → (fun _ : Hp => True) H2 → SqL K H2 p vs := fun A2 G2 H2 W2 _ pg g2 _ => .inr hp
      exact ⟨l, p, vs, fun _ => True, rfl, .inr hp, wk_list i z, sts_true, fun _ => sts_true, z, i⟩
  | ow ys =>
    unfold seqI at e
    cases strong with
    | true => cases e
    | false =>
      cases e
      obtain ⟨p, vs, rfl, hp, l, i, pA, _⟩ := s
      have z : ∀ (A2 : List Addr) (G2 H2 : Hp) (W2 : World), A <+: A2 → Same G G2 → GS K A2 G2 H2 W2 → H2 p = some (.lst vs) → SqL K H2 p vs := fun A2 G2 H2 W2 _ pg g2 sH => .inl (.inl sH)
      exact ⟨l, p, vs, fun H2 => H2 p = some (.lst vs), rfl, .inl (.inl hp), wk_list i z, fun H2 k => k p _ hp pA, fun h => absurd h (by decide), z, i⟩
  | _ => cases e
theorem di_seq (h : DE X Z 0 a fa) : DI X Z strong tg a (iSeq strong fa) := PI.imp (PI.or (pi_list h) (pi_tup h)) fun σ H R h => by
  obtain ⟨H0, A, G, env, W, g, rl, o⟩ := h
  unfold iSeq at o
  cases q : fa env W with
  | exc x' W1 =>
    rw [q] at o
    refine .inl ⟨H0, A, G, env, W, g, rl, ?_⟩
    rw [q]
    exact o
  | stuck => rw [q] at o; exact o.elim
  | ok d W1 =>
    rw [q] at o
    simp only [Res.bind_ok] at o
    cases q2 : seqI strong d with
    | none => rw [q2] at o; exact o.elim
    | some xs =>
      rw [q2] at o
      by_cases ht : ∃ ys, d = .tup ys
      · obtain ⟨ys, rfl⟩ := ht
        cases q2
        refine .inr ⟨H0, A, G, env, W, g, rl, ?_⟩
        rw [q]
        intro v A1 G1 H1 g1 x1 s1
        obtain ⟨p, vs, rfl, hp, hpg, l, il⟩ := (s1.toS rfl).tupl g1 (show tupL (.tup xs) = some xs from rfl)
        exact ⟨p, rfl, ⟨vs, hp⟩, o A1 G1 H1 _ _ g1 x1 l (wk_tup il hpg) sts_true fun _ => sts_true⟩
      · refine .inl ⟨H0, A, G, env, W, g, rl, ?_⟩
        rw [q]
        intro v A1 G1 H1 g1 x1 s1
        obtain ⟨l, p, vs, S, rfl, hp, wk, st, st0, _, _⟩ := seq_stands s1 g1 q2 (fun ys e => ht ⟨ys, e⟩)
        exact ⟨p, rfl, ⟨vs, hp⟩, o A1 G1 H1 _ S g1 x1 l wk st st0⟩
/-- range(n), range(a, b) -/
def rngD : Int → Int → Option (List D) := lock fun lo hi => if -(2 ^ 62) ≤ lo ∧ lo < 2 ^ 62 ∧ -(2 ^ 62) ≤ hi ∧ hi < 2 ^ 62 ∧ (hi - lo).toNat ≤ LINE then some ((List.range (hi - lo).toNat).map fun (k : Nat) => .int (lo + k)) else none
theorem rngD_def (lo hi : Int) : rngD lo hi = if -(2 ^ 62) ≤ lo ∧ lo < 2 ^ 62 ∧ -(2 ^ 62) ≤ hi ∧ hi < 2 ^ 62 ∧ (hi - lo).toNat ≤ LINE then some ((List.range (hi - lo).toNat).map fun (k : Nat) => .int (lo + k)) else none := by unfold rngD; rw [lock_eq]
theorem wk_range {K : PySem.W.Frag} {A : List Addr} {G : Hp} {lo : Int} {n : Nat} : Wk K (Itr lo n) A G (fun _ => True) ((List.range n).map fun (k : Nat) => .int (lo + k)) := by
  intro i A2 G2 H2 W2 pa pg g sH
  refine ⟨fun hi => show n ≤ i by simpa using hi, fun d hd => ?_⟩
  rw [List.getElem?_map] at hd
  by_cases hi : i < n
  · rw [List.getElem?_range hi] at hd
    cases hd
    refine ⟨hi, fun x H3 y => ?_⟩
    obtain ⟨e, y⟩ := y
    subst e y
    exact ⟨G2, Ext.refl _ _ _, g, .int _⟩
  · rw [List.getElem?_eq_none (by simpa using hi)] at hd
    cases hd
def iRng1' (f : EF) : IF := fun env W => (f env W).bind fun d W1 => match d with
  | .int n => Res.ofO (rngD 0 n) W1
  | _ => .stuck
theorem di_range1 {p pos : Pos} (hm : X.mg "range" = none) (ha : DE X Z 0 a fa) (hg : Gl X "range" := by rfl) (hs : starEach [a] X.env = [(false, eval a X.env)] := by rfl) : DI X Z strong tg (.Call (.Name "range" p) [a] [] pos) (iRng1' fa) :=
  PI.imp (pi_range1 hg hm (da_cons ha da_nil hs) hs) fun σ H R h => by
  obtain ⟨H0, A, G, env, W, g, rl, o⟩ := h
  have o' : Out X.K X.mg Z A G H (fun ds W' => ∀ A' G' H' J S, GS X.K A' G' H' W' → Ext A G H A' G' H' → ds.length ≤ LINE → Wk X.K J A' G' S ds → StS H' A' S → (strong = true → StS H0 A' S) → R J H') ((eArgs [fa] env W).bind fun ds W1 => match ds with | [.int n] => Res.ofO (rngD 0 n) W1 | _ => .stuck) := by
    unfold iRng1' at o
    unfold eArgs
    cases q : fa env W with
    | ok d W1 => rw [q] at o; simp only [Res.bind_ok, eArgs] at o ⊢; cases d <;> exact o
    | exc _ _ => rw [q] at o; exact o
    | stuck => rw [q] at o; exact o
  refine tDs_of (Ext.refl _ _ _) g rl o' fun ds W2 vs A2 G2 H2 le g2 _ x2 R2 s2 f2 o2 => ?_
  split at o2
  · rename_i n
    obtain ⟨v, rfl, s⟩ := s2.one
    rw [sIs_int s]
    rw [rngD_def] at o2
    split at o2
    · rename_i hc
      refine ⟨n, rfl, hc.2.2.1, hc.2.2.2.1, ?_⟩
      have e : (n - 0).toNat = n.toNat := by rw [Int.sub_zero]
      have w := o2 A2 G2 H2 (Itr 0 n.toNat) (fun _ => True) g2 x2 (by rw [List.length_map, List.length_range]; exact hc.2.2.2.2) (by rw [e]; exact wk_range) sts_true fun _ => sts_true
      exact w
    · exact o2.elim
  · exact o2.elim
end
end EV

set_option maxRecDepth 100000
noncomputable section
namespace EV
open PySem PySem.Spec PyProof.Rows L2
inductive Tg where
  | nm (i : Nat) | tup (is : List Nat)
def Tg.slots : Tg → List Nat
  | .nm i => [i]
  | .tup is => is
def setAll : List Nat → List D → Env → Option Env
  | [], [], env => some env
  | i :: is, d :: ds, env => if isTree d then setAll is ds (env.set i (some d)) else none
  | _, _, _ => none
def setT (W : World) : Tg → D → Env → Option Env
  | .nm i, d, env => if isTree d then some (env.set i (some d)) else none
  | .tup is, d, env => match d with
    | .tup ds => setAll is ds env
    | d => match seqL W d with
      | some ds => setAll is ds env
      | none => none
def tG (K : PySem.W.Frag) (t : Tg) : TG := fun v σ H Q => ∃ H0 A G env W d env', GS K A G H W ∧ Rel K H0 A G env σ H ∧ SIs K H0 A G H v d ∧ setT W t d env = some env' ∧
  ∀ σ', Rel K H0 A G env' σ' H → σ'.length = σ.length → (∀ j, j ∉ t.slots → σ'[j]? = σ[j]?) → Q σ' H
abbrev DG (X : Cx) (tg : Expr) (t : Tg) : Prop := PG X tg (tG X.K t)
section
variable {K : PySem.W.Frag} {A : List Addr} {G H H0 : Hp} {env env' : Env} {σ : L2.St}
theorem Rel.set {i : Nat} {v : V} {d : D} (R : Rel K H0 A G env σ H) (h : Is K A G v d) : Rel K H0 A G (env.set i (some d)) (σ.set i (some v)) H where
  len := by rw [List.length_set, List.length_set]; exact R.len
  slot := fun j e hj => by
    by_cases hij : i = j
    · subst hij
      by_cases hi : i < env.length
      · rw [List.getElem?_set_self hi] at hj
        cases hj
        exact ⟨v, List.getElem?_set_self (by rw [R.len]; exact hi), .of h⟩
      · rw [List.getElem?_eq_none (by rw [List.length_set]; omega)] at hj
        cases hj
    · rw [List.getElem?_set_ne hij] at hj ⊢
      exact R.slot j e hj
  own := fun j k e f u njk hj hk oj ok uj uk => by
    have ne : ∀ {j : Nat} {e : D}, (env.set i (some d))[j]? = some (some e) → isOwn e = true → i ≠ j := fun {j e} hj oj hij => by
      subst hij
      by_cases hi : i < env.length
      · rw [List.getElem?_set_self hi] at hj
        cases hj
        have := h.tree
        cases d <;> first | exact absurd this Bool.false_ne_true | exact absurd oj Bool.false_ne_true
      · rw [List.getElem?_eq_none (by rw [List.length_set]; omega)] at hj
        cases hj
    have nj := ne hj oj
    have nk := ne hk ok
    rw [List.getElem?_set_ne nj] at hj uj
    rw [List.getElem?_set_ne nk] at hk uk
    exact R.own j k e f u njk hj hk oj ok uj uk
/-- a slot forgotten -/
theorem Rel.drop {i : Nat} {w : Option V} (R : Rel K H0 A G env σ H) : Rel K H0 A G (env.set i none) (σ.set i w) H where
  len := by rw [List.length_set, List.length_set]; exact R.len
  slot := fun j e hj => by
    by_cases hij : i = j
    · subst hij
      by_cases hi : i < env.length
      · rw [List.getElem?_set_self hi] at hj
        cases hj
      · rw [List.getElem?_eq_none (by rw [List.length_set]; omega)] at hj
        cases hj
    · rw [List.getElem?_set_ne hij] at hj ⊢
      exact R.slot j e hj
  own := fun j k e f u njk hj hk oj ok uj uk => by
    have ne : ∀ {j : Nat} {e : D}, (env.set i none)[j]? = some (some e) → i ≠ j := fun {j e} hj hij => by
      subst hij
      by_cases hi : i < env.length
      · rw [List.getElem?_set_self hi] at hj
        cases hj
      · rw [List.getElem?_eq_none (by rw [List.length_set]; omega)] at hj
        cases hj
    have nj := ne hj
    have nk := ne hk
    rw [List.getElem?_set_ne nj] at hj uj
    rw [List.getElem?_set_ne nk] at hk uk
    exact R.own j k e f u njk hj hk oj ok uj uk
def wipeE (env : Env) : List Nat → Env
  | [] => env
  | v :: vs => (wipeE env vs).set v none
theorem Rel.wipe (R : Rel K H0 A G env σ H) : ∀ vs : List Nat, Rel K H0 A G (wipeE env vs) (L2.wipe σ vs) H
  | [] => R
  | v :: vs => by
    unfold wipeE L2.wipe
    exact (Rel.wipe R vs).drop
theorem wipe_len (σ : L2.St) : ∀ vs : List Nat, (L2.wipe σ vs).length = σ.length := L2.wipe_length σ
theorem wipe_get (σ : L2.St) (vs : List Nat) (j : Nat) : (L2.wipe σ vs)[j]? = if j ∈ vs then (if j < σ.length then some none else none) else σ[j]? := by
  induction vs generalizing j with
  | nil => simp [L2.wipe]
  | cons v vs ih =>
    unfold L2.wipe
    by_cases h : v = j
    · subst h
      by_cases hl : v < σ.length
      · rw [List.getElem?_set_self (by rw [wipe_len]; exact hl), if_pos (by simp), if_pos hl]
      · rw [List.getElem?_eq_none (by rw [List.length_set, wipe_len]; omega), if_pos (by simp), if_neg hl]
    · rw [List.getElem?_set_ne h, ih j]
      by_cases hm : j ∈ vs
      · rw [if_pos hm, if_pos (List.mem_cons_of_mem _ hm)]
      · rw [if_neg hm, if_neg (by rw [List.mem_cons]; intro z; rcases z with z | z; exact h z.symm; exact hm z)]
theorem wipe_eq {σ τ : L2.St} {vs : List Nat} (hl : τ.length = σ.length) (h : ∀ j, j ∉ vs → τ[j]? = σ[j]?) : L2.wipe τ vs = L2.wipe σ vs := by
  apply List.ext_getElem?
  intro j
  rw [wipe_get, wipe_get, hl]
  by_cases hm : j ∈ vs
  · rw [if_pos hm, if_pos hm]
  · rw [if_neg hm, if_neg hm, h j hm]
theorem wipe_of {σ τ : L2.St} {vs : List Nat} (hl : τ.length = (L2.wipe σ vs).length) (h : ∀ j, j ∉ vs → τ[j]? = (L2.wipe σ vs)[j]?) : L2.wipe τ vs = L2.wipe σ vs := by
  refine wipe_eq (by rw [hl, wipe_len]) fun j hj => ?_
  rw [h j hj, wipe_get, if_neg hj]
def gNames : List Nat → TGs
  | [] => gNil
  | i :: is => gCons (gName i) (gNames is)
theorem gNames_use : ∀ {is : List Nat} {vs : List V} {ds : List D} {env env' : Env} {σ : L2.St} {Q : L2.St → Hp → Prop}, IsAll K A G vs ds → Rel K H0 A G env σ H → setAll is ds env = some env' →
    (∀ σ', Rel K H0 A G env' σ' H → σ'.length = σ.length → (∀ j, j ∉ is → σ'[j]? = σ[j]?) → Q σ' H) → gNames is vs σ H Q
  | [], _, _, _, _, _, _, .nil, R, e, q => by
    cases e
    exact ⟨rfl, q _ R rfl fun _ _ => rfl⟩
  | [], _, _, _, _, _, _, .cons _ _, R, e, q => by cases e
  | i :: is, _, _, _, _, _, _, .nil, R, e, q => by cases e
  | i :: is, _, _, env, env', σ, Q, .cons (v := v) (d := d) h t, R, e, q => by
    unfold setAll at e
    rw [if_pos h.tree] at e
    refine ⟨_, _, rfl, ?_⟩
    show gNames is _ (σ.set i (some v)) H Q
    refine gNames_use t (R.set h) e fun σ' R' l k => q σ' R' (by rw [l, List.length_set]) fun j hj => ?_
    rw [List.mem_cons, not_or] at hj
    rw [k j hj.2, List.getElem?_set_ne (Ne.symm hj.1)]
end
section
variable {X : Cx} {pos : Pos}
theorem PG.imp {tg : Expr} {t t' : TG} (h : PG X tg t) (w : ∀ v σ H Q, t' v σ H Q → t v σ H Q) : PG X tg t' := ⟨fun pins s σ H v u Q I r q => h.run pins s σ H v u Q I r (w v σ H Q q)⟩
theorem PG.or {tg : Expr} {t t' : TG} (h : PG X tg t) (h' : PG X tg t') : PG X tg (fun v σ H Q => t v σ H Q ∨ t' v σ H Q) := ⟨fun pins s σ H v u Q I r q => q.elim (h.run pins s σ H v u Q I r) (h'.run pins s σ H v u Q I r)⟩
theorem dg_name {i : Nat} {x : Str} (hN : X.N.Nodup) (hi : X.N[i]? = some x := by rfl) (hx : Loc X.env.scope x := by first | exact Or.inl rfl | exact Or.inr rfl) (hf : X.fn x = true ∨ X.env.scope.names.lookup x = some .local := by first | exact .inl rfl | exact .inr rfl | assumption) : DG X (.Name x pos) (.nm i) :=
  PG.imp (pg_name hN hi hx hf) fun v σ H Q h => by
  obtain ⟨H0, A, G, env, W, d, env', g, R, s, e, q⟩ := h
  simp only [setT] at e
  by_cases ht : isTree d = true
  · rw [if_pos ht] at e
    cases e
    refine q _ (R.set (SIs.is s ht)) List.length_set fun j hj => ?_
    rw [List.getElem?_set_ne (by intro z; exact hj (by rw [z]; exact List.mem_singleton_self _))]
  · rw [if_neg ht] at e; cases e
theorem setAll_len {env' : Env} : ∀ {ds : List D} {env : Env} {is : List Nat}, setAll is ds env = some env' → ds.length = is.length
  | [], _, [], _ => rfl
  | [], _, _ :: _, e => by cases e
  | _ :: _, _, [], e => by cases e
  | d :: ds, env, i :: is, e => by
    unfold setAll at e
    split at e
    · rw [List.length_cons, List.length_cons, setAll_len e]
    · cases e
theorem dg_tup {is : List Nat} {es : List Expr} {k : Nat} (hc : X.calm = true) (h : PGs X es (gNames is)) (hl : es.length = is.length := by rfl)
    (hn : (assignEach es X.env).length = es.length := by rfl) (hst : (assignEach es X.env).findIdx? (·.1) = none := by rfl) : DG X (.Tuple es k pos) (.tup is) :=
  PG.imp (PG.or (pg_tup hc h hn hst) (pg_lst hc h hn hst)) fun v σ H Q hh => by
  obtain ⟨H0, A, G, env, W, d, env', g, R, s, e, q⟩ := hh
  simp only [setT] at e
  split at e
  · rename_i ds
    obtain ⟨p, vs, rfl, hp, hpg, l, il⟩ := s.tupl g (show tupL (.tup ds) = some ds from rfl)
    exact .inl ⟨p, vs, rfl, hp, by rw [il.length, setAll_len e, hl], gNames_use il R e q⟩
  · split at e
    · rename_i ds e1
      obtain ⟨p, vs, rfl, hp, l, il⟩ := s.seq g e1
      exact .inr ⟨p, vs, rfl, hp, by rw [il.length, setAll_len e, hl], gNames_use il R e q⟩
    · cases e
abbrev DTs (X : Cx) (Z : XK) (ifs : List Expr) (f : BF) : Prop := PTs X ifs (tT X.K X.mg Z f)
def bYes : BF := fun _ W => .ok true W
theorem PTs.imp {ifs : List Expr} {t t' : TT} (h : PTs X ifs t) (w : ∀ σ H Q, t' σ H Q → t σ H Q) : PTs X ifs t' := ⟨fun pins s σ H Q I q => h.run pins s σ H Q I (w σ H Q q)⟩
theorem dts_nil {Z : XK} : DTs X Z [] bYes := PTs.imp pts_nil fun σ H Q ⟨H0, A, G, env, W, g, R, o⟩ => o A G H g (Ext.refl _ _ _)
theorem dts_one {Z : XK} {c : Expr} {f : BF} (h : DT X Z c f) : DTs X Z [c] f := pts_one h
end

def Res.nx {α : Type} : Res α → Res α
  | .ok a W => .ok a W
  | _ => .stuck
@[simp] theorem Res.nx_ok {α : Type} (a : α) (W : World) : (Res.ok a W).nx = .ok a W := rfl
@[simp] theorem Res.nx_stuck {α : Type} : (Res.stuck : Res α).nx = .stuck := rfl
theorem Res.nx_bind {α β : Type} {r : Res α} {k : α → World → Res β} {b : β} {W : World} (h : r.nx.bind k = .ok b W) : ∃ a W1, r = .ok a W1 ∧ k a W1 = .ok b W := by
  cases r with
  | ok a W1 => exact ⟨a, W1, rfl, h⟩
  | exc _ _ => cases h
  | stuck => cases h
theorem Res.bind_inv {α β : Type} {r : Res α} {k : α → World → Res β} {b : β} {W : World} (h : r.bind k = .ok b W) : ∃ a W1, r = .ok a W1 ∧ k a W1 = .ok b W := by
  cases r with
  | ok a W1 => exact ⟨a, W1, rfl, h⟩
  | exc _ _ => cases h
  | stuck => cases h
/-- env: the block's start (its own names wiped) -/
def compGo (tg : Tg) (tst : BF) (elt : EF) (env : Env) : List D → World → Res (List D)
  | [], W => .ok [] W
  | d :: ds, W => match setT W tg d env with
    | none => .stuck
    | some env' => (tst env' W).nx.bind fun b W1 => if b then (elt env' W1).nx.bind fun r W2 => if isTree r then (compGo tg tst elt env ds W2).bind fun rs W3 => .ok (r :: rs) W3 else .stuck
      else compGo tg tst elt env ds W1
def eComp (it : IF) (own : List Nat) (tg : Tg) (tst : BF) (elt : EF) : EF := fun env W => (it env W).bind fun ds W1 => (compGo tg tst elt (wipeE env own) ds W1).nx.bind fun rs W2 => .ok (.lst rs) W2
section
variable {K : PySem.W.Frag} {A A1 A2 A' : List Addr} {G G1 G2 G' H H1 H2 H' H0 : Hp} {W : World}
/-- an object outside what is kept is changed -/
theorem GS.updO {p : Addr} {o : HO} (g : GS K A G H W) (hG : G p = none) (hA : p ∉ A) : GS K A G (upd H p o) W where
  sub := fun a o' h => by rw [upd_ne (ne_of_none h hG)]; exact g.sub a o' h
  nd := g.nd
  out := g.out
  len := g.len
  obj := fun n a o' h1 h2 => by
    have w := g.obj n a o' h1 h2
    have ne : a ≠ p := fun e => hA (by rw [← e]; exact List.mem_of_getElem? h1)
    exact w.to (List.prefix_refl _) (Same.refl _) fun _ e => by rw [upd_ne ne]; exact e
theorem Ext.updO {p : Addr} {o : HO} (x : Ext A G H A1 G1 H1) (hp : H p = none) : Ext A G H A1 G1 (upd H1 p o) where
  pre := x.pre
  gs := x.gs
  keep := fun a o' h n => by rw [upd_ne (ne_of_none h hp)]; exact x.keep a o' h n
  newG := x.newG
  newA := x.newA
  there := fun a h => by
    by_cases e : a = p
    · rw [e]; exact hp
    · rw [upd_ne e] at h; exact x.there a h
end
section
variable {X : Cx} {Z : XK} {pos : Pos}
theorem comp_use {own : List (Str × Nat)} {fi : IF} {t : Tg} {ft : BF} {fe : EF} {fre : Nat} {σ : L2.St} {H : Hp} {Q : VK} (ho : t.slots.all (fun j => (own.map (·.2)).contains j) = true) (h : tD X.K X.mg Z (fre + 1) (eComp fi (own.map (·.2)) t ft fe) σ H Q) :
    tLc (tI X.K X.mg Z false fi) (tG X.K t) (tT X.K X.mg E0 ft) (tD X.K X.mg E0 fre fe) (own.map (·.2)) σ H Q := by
  obtain ⟨H0, A, G, env, W, g, R, o⟩ := h
  unfold eComp at o
  cases q : fi env W with
  | exc x' W1 =>
    rw [q] at o
    refine ⟨H0, A, G, env, W, g, R, ?_⟩
    rw [q]
    exact o
  | stuck => rw [q] at o; exact o.elim
  | ok ds W1 =>
    rw [q] at o
    simp only [Res.bind_ok] at o
    cases qc : compGo t ft fe (wipeE env (own.map (·.2))) ds W1 with
    | exc _ _ => rw [qc] at o; exact o.elim
    | stuck => rw [qc] at o; exact o.elim
    | ok total Wf =>
      rw [qc] at o
      have o : Pst X.K H0 A G H (fre + 1) (.lst total) Wf Q := o
      refine ⟨H0, A, G, env, W, g, R, ?_⟩
      rw [q]
      intro A1 G1 H1 J S g1 x1 lds wk st st0 D hD
      have nD1 : G1 D = none := g1.newG hD
      have nDA : D ∉ A1 := g1.new hD
      -- the turns
      refine ⟨fun i m H' => m = ds.length - i ∧ i ≤ ds.length ∧ ∃ A2 G2 W2 acc accD rest, GS X.K A2 G2 H' W2 ∧ Ext A1 G1 H1 A2 G2 H' ∧ H' D = some (.lst acc) ∧ G2 D = none ∧ D ∉ A2 ∧ IsAll X.K A2 G2 acc accD ∧ accD.length ≤ i ∧
        (1 ≤ fre → ∀ (k : Nat) es p, accD[k]? = some (.lst es) → acc[k]? = some (.ref p) → H p = none) ∧ compGo t ft fe (wipeE env (own.map (·.2))) (ds.drop i) W2 = .ok rest Wf ∧ accD ++ rest = total,
        ⟨_, rfl, Nat.zero_le _, A1, G1, W1, [], [], total, g1.allocH hD, Ext.allocH g1 hD, upd_same, nD1, nDA, .nil, Nat.le_refl _, fun _ k es p e => by simp at e, by rw [List.drop_zero]; exact qc, rfl⟩, ?_⟩
      rintro i m H' ⟨rfl, hi, A2, G2, W2, acc, accD, rest, g2, x2, hHD, hGD, hAD, ia, la, fa, hgo, htot⟩
      have sH : S H' := st H' x2.keep
      obtain ⟨w1, w2⟩ := wk i A2 G2 H' W2 x2.pre x2.gs g2 sH
      by_cases hlt : i < ds.length
      · obtain ⟨d, hd⟩ : ∃ d, ds[i]? = some d := ⟨_, List.getElem?_eq_getElem hlt⟩
        obtain ⟨go, yld⟩ := w2 d hd
        have hdrop : ds.drop i = d :: ds.drop (i + 1) := by
          rw [List.drop_eq_getElem_cons hlt]
          rw [List.getElem?_eq_getElem hlt] at hd
          cases hd
          rfl
        rw [hdrop] at hgo
        unfold compGo at hgo
        refine .inr ⟨go, fun H'' => ∃ A2 G2 W2 acc accD rest, GS X.K A2 G2 H'' W2 ∧ Ext A1 G1 H1 A2 G2 H'' ∧ H'' D = some (.lst acc) ∧ G2 D = none ∧ D ∉ A2 ∧ IsAll X.K A2 G2 acc accD ∧ accD.length ≤ i + 1 ∧
          (1 ≤ fre → ∀ (k : Nat) es p, accD[k]? = some (.lst es) → acc[k]? = some (.ref p) → H p = none) ∧ compGo t ft fe (wipeE env (own.map (·.2))) (ds.drop (i + 1)) W2 = .ok rest Wf ∧ accD ++ rest = total,
          fun H'' z => ⟨_, by omega, rfl, hlt, z⟩, fun x H3 y => ?_⟩
        obtain ⟨G3, x23, g3, ix⟩ := yld x H3 y
        cases qs : setT W2 t d (wipeE env (own.map (·.2))) with
        | none => rw [qs] at hgo; cases hgo
        | some env' =>
          rw [qs] at hgo
          have x3 := x2.trans x23
          have R3 : Rel X.K H0 A2 G3 env σ H3 := ((R.ext x1).ext x3)
          refine ⟨H0, A2, G3, _, W2, d, env', g3, R3.wipe _, .of ix, qs, fun σ' R' lσ kσ => ⟨wipe_of lσ fun j hj => kσ j fun hm => ?_, ?_⟩⟩
          · have := List.all_eq_true.mp ho j hm
            exact hj (by simpa using this)
          · simp only at hgo
            obtain ⟨b, W3, qt, hgo⟩ := Res.nx_bind hgo
            refine ⟨H0, A2, G3, env', W2, g3, R', ?_⟩
            rw [qt]
            intro A4 G4 H4 g4 x34
            have x4 := x3.trans x34
            have hD4 : H4 D = some (.lst acc) := x34.keep D _ (x23.keep D _ hHD hAD) hAD
            have x24 : Ext A2 G2 H' A4 G4 H4 := x23.trans x34
            have hG4 : G4 D = none := x24.noG hHD hGD
            have hA4 : D ∉ A4 := x24.noA hHD hAD
            cases b with
            | false =>
              refine iteF ⟨A4, G4, W3, acc, accD, rest, g4, x4, hD4, hG4, hA4, ia.mono x24.pre x24.gs, by omega, fa, hgo, htot⟩
            | true =>
              simp only [if_true] at hgo
              obtain ⟨r, W4, qe, hgo⟩ := Res.nx_bind hgo
              by_cases hr : isTree r = true
              · rw [if_pos hr] at hgo
                obtain ⟨rs, W5, qr, hgo⟩ := Res.bind_inv hgo
                cases hgo
                refine iteT ⟨H0, A4, G4, env', W3, g4, R'.ext x34, ?_⟩
                rw [qe]
                intro y A5 G5o H5 g5o x45o s5o
                obtain ⟨G5, _, x45, g5, s5, f5⟩ := s5o.frozen x45o g5o
                have x25 := x24.trans x45
                have hD5 : H5 D = some (.lst acc) := x45.keep D _ hD4 hA4
                have hG5 : G5 D = none := x25.noG hHD hGD
                have hA5 : D ∉ A5 := x25.noA hHD hAD
                have iy : Is X.K A5 G5 y r := SIs.is s5 hr
                have la' := ia.length
                refine ⟨acc, hD5, by rw [← LINE_eq]; omega, A5, G5, W4, acc ++ [y], accD ++ [r], rs, g5.updO hG5 hA5, (x2.trans x25).updO hD, upd_same, hG5, hA5, (ia.mono x25.pre x25.gs).append (.cons iy .nil), by rw [List.length_append]; exact Nat.add_le_add_right la 1, fun hf k es p h1 h2 => ?_, qr, by rw [List.append_assoc]; exact htot⟩
                by_cases hk : k < accD.length
                · rw [List.getElem?_append_left hk] at h1
                  rw [List.getElem?_append_left (by rw [la']; exact hk)] at h2
                  exact fa hf k es p h1 h2
                · rw [List.getElem?_append_right (by omega)] at h1
                  rw [List.getElem?_append_right (by omega)] at h2
                  rw [la'] at h2
                  have hk0 : k - accD.length = 0 := by
                    cases hz : k - accD.length with
                    | zero => rfl
                    | succ m => rw [hz] at h1; simp at h1
                  rw [hk0] at h1 h2
                  cases h1
                  cases h2
                  exact ((x1.trans x2).trans (x24)).there p (f5 hf _ p rfl rfl)
              · rw [if_neg hr] at hgo; cases hgo
      · have ei : i = ds.length := by omega
        subst ei
        rw [List.drop_length] at hgo
        cases hgo
        rw [List.append_nil] at htot
        subst htot
        refine .inl ⟨w1 (Nat.le_refl _), ?_⟩
        exact o (.ref D) A2 G2 H' g2 (x1.trans x2) ⟨D, acc, rfl, hHD, by omega, ia, hAD, hGD, x1.there D hD, fun z => fa z⟩
theorem d_comp {elt tg iter : Expr} {ifs : List Expr} {scope : Scope} {own : List (Str × Nat)} {pos : Pos} {fi : IF} {t : Tg} {ft : BF} {fe : EF} {fre : Nat} (hc : X.calm = true) (hN : X.N.Nodup) (hi : DI X Z false tg iter fi) (ok : BlkOk X.N X.env.scope scope own)
    (ho : t.slots.all (fun j => (own.map (·.2)).contains j) = true)
    (hg : ∀ (s : Shared) (H : Hp) (C : Addr) (cl : List (Str × Addr)) (fp : List Addr), DG (X.blk s H scope (compEnvC scope cl C X.env) fp) tg t) (ht : ∀ (s : Shared) (H : Hp) (C : Addr) (cl : List (Str × Addr)) (fp : List Addr), DTs (X.blk s H scope (compEnvC scope cl C X.env) fp) E0 ifs ft)
    (he : ∀ (s : Shared) (H : Hp) (C : Addr) (cl : List (Str × Addr)) (fp : List Addr), DE (X.blk s H scope (compEnvC scope cl C X.env) fp) E0 fre elt fe) (hs : ∀ x, foldedSetIterable iter X.env x = pure x := by intro _; rfl) :
    DE X Z (fre + 1) (.ListComp elt [⟨tg, iter, ifs, 0⟩] scope pos) (eComp fi (own.map (·.2)) t ft fe) := PE.imp (pe_lc (g := tG X.K t) (tt := tT X.K X.mg E0 ft) (te := tD X.K X.mg E0 fre fe) hc hN hi ok hg ht he hs) fun σ H Q h => comp_use ho h
end
end EV

set_option maxRecDepth 100000
noncomputable section
namespace EV
open PySem PySem.Spec PyProof.Rows L2
inductive Fl where
  | nx (env : Env) | rt (d : D) | bk (env : Env) | ct (env : Env)
abbrev SF := Env → World → Res Fl
structure XS (A0 : List Addr) (G0 H0 : Hp) (A : List Addr) (G : Hp) (A' : List Addr) (G' H' : Hp) : Prop where
  ext : Ext A0 G0 H0 A' G' H'
  pre : A <+: A'
  gs : Same G G'
/-- what is wanted behind a statement, by its worth; (A0, G0, H0) the def's entry, (A, G) where the statement begins -/
def SPst (K : PySem.W.Frag) (A0 : List Addr) (G0 H0 : Hp) (A : List Addr) (G : Hp) (fr : Nat) (Dn : Ends) (r : Fl) (W : World) : Prop :=
  match r with
  | .nx env => ∀ σ' A' G' H', GS K A' G' H' W → Rel K H0 A' G' env σ' H' → XS A0 G0 H0 A G A' G' H' → Dn.nx σ' H'
  | .bk env => ∀ σ' A' G' H', GS K A' G' H' W → Rel K H0 A' G' env σ' H' → XS A0 G0 H0 A G A' G' H' → Dn.bk σ' H'
  | .ct env => ∀ σ' A' G' H', GS K A' G' H' W → Rel K H0 A' G' env σ' H' → XS A0 G0 H0 A G A' G' H' → Dn.ct σ' H'
  | .rt d => ∀ v A' G' H', GS K A' G' H' W → Ext A0 G0 H0 A' G' H' → OIs K H0 H0 A' G' H' fr v d → isTree d = true → Dn.rt v H'
def tS (K : PySem.W.Frag) (mg : Str → Option Value) (Z : XK) (fr : Nat) (f : SF) : TS := fun Dn σ H =>
  ∃ A0 G0 H0 A G env W, GS K A G H W ∧ Rel K H0 A G env σ H ∧ Ext A0 G0 H0 A G H ∧ Out K mg Z A0 G0 H0 (SPst K A0 G0 H0 A G fr Dn) (f env W)
abbrev DS (X : Cx) (Z : XK) (fr : Nat) (st : Stmt) (f : SF) : Prop := PS X st (tS X.K X.mg Z fr f)
abbrev DB (X : Cx) (Z : XK) (fr : Nat) (st : List Stmt) (f : SF) : Prop := PSs X st (tS X.K X.mg Z fr f)
def sNil : SF := fun env W => .ok (.nx env) W
def sSeq (f g : SF) : SF := fun env W => (f env W).bind fun r W1 => match r with
  | .nx env' => g env' W1
  | r => .ok r W1
section
variable {K : PySem.W.Frag} {A0 A A' : List Addr} {G0 H0 G H G' H' : Hp}
theorem XS.refl (x : Ext A0 G0 H0 A G H) : XS A0 G0 H0 A G A G H := ⟨x, List.prefix_refl _, Same.refl _⟩
theorem XS.step {A1 : List Addr} {G1 H1 : Hp} (x : Ext A0 G0 H0 A G H) (y : Ext A G H A1 G1 H1) : XS A0 G0 H0 A G A1 G1 H1 := ⟨x.trans y, y.pre, y.gs⟩
theorem XS.trans {A1 : List Addr} {G1 H1 : Hp} {A2 : List Addr} {G2 H2 : Hp} (x : XS A0 G0 H0 A G A1 G1 H1) (y : XS A0 G0 H0 A1 G1 A2 G2 H2) : XS A0 G0 H0 A G A2 G2 H2 := ⟨y.ext, x.pre.trans y.pre, x.gs.trans y.gs⟩
/-- from a later state on -/
theorem SPst.later {fr : Nat} {Dn : Ends} {r : Fl} {W : World} {A1 : List Addr} {G1 H1 : Hp} (h : SPst K A0 G0 H0 A G fr Dn r W) (x : XS A0 G0 H0 A G A1 G1 H1) : SPst K A0 G0 H0 A1 G1 fr Dn r W := by
  cases r with
  | nx env => exact fun σ' A' G' H' g R y => h σ' A' G' H' g R (x.trans y)
  | bk env => exact fun σ' A' G' H' g R y => h σ' A' G' H' g R (x.trans y)
  | ct env => exact fun σ' A' G' H' g R y => h σ' A' G' H' g R (x.trans y)
  | rt d => exact h
theorem OutS.later {mg : Str → Option Value} {Z : XK} {fr : Nat} {Dn : Ends} {r : Res Fl} {A1 : List Addr} {G1 H1 : Hp} (h : Out K mg Z A0 G0 H0 (SPst K A0 G0 H0 A G fr Dn) r) (x : XS A0 G0 H0 A G A1 G1 H1) : Out K mg Z A0 G0 H0 (SPst K A0 G0 H0 A1 G1 fr Dn) r := by
  cases r with
  | ok a W => exact SPst.later h x
  | exc _ _ => exact h
  | stuck => exact h
end
section
variable {X : Cx} {Z : XK} {fr : Nat} {pos : Pos} {st : Stmt} {sts : List Stmt} {f g : SF} {e a b : Expr} {fe fa fb : EF} {fc : BF}
theorem b_nil : DB X Z fr [] sNil := PSs.imp pss_nil fun Dn σ H h => by
  obtain ⟨A0, G0, H0, A, G, env, W, g, R, x, o⟩ := h
  exact o σ A G H g R (XS.refl x)
theorem seq_use {t : TS} {Dn : Ends} {σ : L2.St} {H : Hp} (h : tS X.K X.mg Z fr (sSeq f g) Dn σ H) : tS X.K X.mg Z fr f { Dn with nx := tS X.K X.mg Z fr g Dn } σ H := by
  obtain ⟨A0, G0, H0, A, G, env, W, gs, R, x, o⟩ := h
  refine ⟨A0, G0, H0, A, G, env, W, gs, R, x, ?_⟩
  unfold sSeq at o
  cases q : f env W with
  | exc _ _ => rw [q] at o; exact o
  | stuck => rw [q] at o; exact o
  | ok r W1 =>
    rw [q] at o
    cases r with
    | nx env' => exact fun σ' A' G' H' g' R' y => ⟨A0, G0, H0, A', G', env', W1, g', R', y.ext, OutS.later o y⟩
    | bk env' => exact o
    | ct env' => exact o
    | rt d => exact o
theorem b_cons (h : DS X Z fr st f) (h' : DB X Z fr sts g) : DB X Z fr (st :: sts) (sSeq f g) := PSs.imp (pss_cons h h') fun Dn σ H h => seq_use (t := tNext) h
theorem b_one (h : DS X Z fr st f) : DB X Z fr [st] f := pss_one h
def sIf (c : BF) (f g : SF) : SF := fun env W => (c env W).bind fun b W1 => if b then f env W1 else g env W1
theorem s_if {c : Expr} {s1 s2 : List Stmt} (hc : DT X Z c fc) (h1 : DB X Z fr s1 f) (h2 : DB X Z fr s2 g) : DS X Z fr (.If c s1 s2 pos) (sIf fc f g) := PS.imp (ps_if hc h1 h2) fun Dn σ H h => by
  obtain ⟨A0, G0, H0, A, G, env, W, gs, R, x, o⟩ := h
  refine tT_of x gs R o fun b W1 A1 G1 H1 g1 y x1 R1 o1 => ?_
  cases b with
  | true => exact iteT ⟨A0, G0, H0, A1, G1, env, W1, g1, R1, x1, OutS.later o1 (XS.step x y)⟩
  | false => exact iteF ⟨A0, G0, H0, A1, G1, env, W1, g1, R1, x1, OutS.later o1 (XS.step x y)⟩
def sRet (f : EF) : SF := fun env W => (f env W).bind fun d W1 => if isTree d then .ok (.rt d) W1 else .stuck
theorem s_ret (he : DE X Z fr e fe) : DS X Z fr (.Return (some e) pos) (sRet fe) := PS.imp (ps_ret he) fun Dn σ H h => by
  obtain ⟨A0, G0, H0, A, G, env, W, gs, R, x, o⟩ := h
  refine tD_of (fra := fr) x gs R o fun d W1 v A1 G1 H1 g1 y x1 R1 s1 o1 => ?_
  by_cases ht : isTree d = true
  · rw [if_pos ht] at o1
    exact o1 v A1 G1 H1 g1 x1 (s1.back x.there) ht
  · rw [if_neg ht] at o1; exact o1.elim
def sSet (i : Nat) (f : EF) : SF := fun env W => (f env W).bind fun d W1 => if isTree d then .ok (.nx (env.set i (some d))) W1 else .stuck
theorem set_use {i : Nat} {t : TE} {Dn : Ends} {σ : L2.St} {H : Hp} (h : tS X.K X.mg Z fr (sSet i fe) Dn σ H) : tAsg (tD X.K X.mg Z 0 fe) (gName i) Dn σ H := by
  obtain ⟨A0, G0, H0, A, G, env, W, gs, R, x, o⟩ := h
  refine tD_of0 x gs R o fun d W1 v A1 G1 H1 g1 y x1 R1 s1 o1 => ?_
  by_cases ht : isTree d = true
  · rw [if_pos ht] at o1
    exact o1 _ A1 G1 H1 g1 (R1.set (SIs.is s1 ht)) (XS.step x y)
  · rw [if_neg ht] at o1; exact o1.elim
theorem s_set {x : Str} {pos' : Pos} (i : Nat) (hN : X.N.Nodup) (he : DE X Z 0 e fe) (hi : X.N[i]? = some x := by rfl) (hx : Loc X.env.scope x := by first | exact Or.inl rfl | exact Or.inr rfl) (hs : swapsWith e (some (.Name x pos')) pos.line X.env = pure false := by rfl)
    (hf : X.fn x = true ∨ X.env.scope.names.lookup x = some .local := by first | exact .inl rfl | exact .inr rfl | assumption) : DS X Z fr (.Assign [.Name x pos'] e pos) (sSet i fe) :=
  PS.imp (ps_set hN hi hx he hs hf) fun Dn σ H h => set_use (t := tD X.K X.mg Z 0 fe) h
end
end EV

set_option maxRecDepth 100000
noncomputable section
namespace EV
open PySem PySem.Spec PyProof.Rows L2
section
variable {K : PySem.W.Frag} {A A0 A1 : List Addr} {G G0 G1 H H0 H1 : Hp} {env : Env} {σ : L2.St} {W : World}
/-- a world's object, changed -/
theorem Rel.wset {a : Addr} {o : HO} (R : Rel K H0 A G env σ H) (ha : a ∈ A) (gG : G a = none) : Rel K H0 A G env σ (upd H a o) where
  len := R.len
  slot := fun i d hi => by
    obtain ⟨v, h1, h2⟩ := R.slot i d hi
    refine ⟨v, h1, ?_⟩
    cases d with
    | ow zs =>
      obtain ⟨q, us, rfl, hq, l, il, qA, r⟩ := h2
      exact ⟨q, us, rfl, by rw [upd_ne (fun z => qA (by rw [z]; exact ha))]; exact hq, l, il, qA, r⟩
    | od zs =>
      obtain ⟨q, us, rfl, hq, l, il, qA, r⟩ := h2
      exact ⟨q, us, rfl, by rw [upd_ne (fun z => qA (by rw [z]; exact ha))]; exact hq, l, il, qA, r⟩
    | ot zs =>
      obtain ⟨q, us, rfl, hq, l, il, qA, r⟩ := h2
      exact ⟨q, us, rfl, by rw [upd_ne (fun z => qA (by rw [z]; exact ha))]; exact hq, l, il, qA, r⟩
    | bo zs =>
      obtain ⟨q, us, rfl, l', i', hq⟩ := h2
      refine ⟨q, us, rfl, l', i', ?_⟩
      rcases hq with ⟨qA, hq, hq0⟩ | hq
      · have ne : q ≠ a := fun z => qA (by rw [z]; exact ha)
        refine .inl ⟨qA, ?_, hq0⟩
        rcases hq with hq | ⟨o, hq⟩
        · exact .inl (by rw [upd_ne ne]; exact hq)
        · exact .inr ⟨o, by rw [upd_ne ne]; exact hq⟩
      · exact .inr hq
    | _ => exact h2
  own := R.own
theorem GS.wset {a : Addr} {n : Nat} {ys : List D} {vs : List V} (g : GS K A G H W) (ha : A[n]? = some a) (l : ys.length ≤ LINE) (il : IsAll K A G vs ys) : GS K A G (upd H a (.lst vs)) (W.set n (.lst ys)) where
  sub := fun b o' h => by rw [upd_ne (ne_of_none h (g.out a (List.mem_of_getElem? ha)))]; exact g.sub b o' h
  nd := g.nd
  out := g.out
  len := by rw [List.length_set]; exact g.len
  obj := fun m b o' h1 h2 => by
    by_cases hm : n = m
    · subst hm
      rw [ha] at h1
      cases h1
      have hw : n < W.length := by rw [← g.len]; exact (List.getElem?_eq_some_iff.mp ha).1
      rw [List.getElem?_set_self hw] at h2
      cases h2
      exact ⟨vs, upd_same, l, il⟩
    · rw [List.getElem?_set_ne hm] at h2
      have ne : b ≠ a := fun z => by
        subst z
        obtain ⟨l1, e1⟩ := List.getElem?_eq_some_iff.mp ha
        obtain ⟨l2, e2⟩ := List.getElem?_eq_some_iff.mp h1
        exact hm ((List.getElem_inj g.nd).mp (e1.trans e2.symm))
      have w := g.obj m b o' h1 h2
      exact w.to (List.prefix_refl _) (Same.refl _) fun _ e => by rw [upd_ne ne]; exact e
theorem Ext.wset {a : Addr} {o : HO} (x : Ext A G H A1 G1 H1) (ha : a ∈ A1) : Ext A G H A1 G1 (upd H1 a o) where
  pre := x.pre
  gs := x.gs
  keep := fun b o' h n => by
    have ne : b ≠ a := fun z => by
      subst z
      rcases x.newA b ha with z | z
      · exact n z
      · rw [h] at z; cases z
    rw [upd_ne ne]
    exact x.keep b o' h n
  newG := x.newG
  newA := x.newA
  there := fun b h => by
    by_cases e : b = a
    · subst e; rw [upd_same] at h; cases h
    · rw [upd_ne e] at h; exact x.there b h
/-- a new list becomes a world's object -/
theorem GS.wnew {p : Addr} {ds : List D} {vs : List V} (g : GS K A G H W) (hp : H p = some (.lst vs)) (pA : p ∉ A) (pG : G p = none) (l : ds.length ≤ LINE) (il : IsAll K A G vs ds) : GS K (A ++ [p]) G H (W ++ [.lst ds]) where
  sub := g.sub
  nd := List.nodup_append.mpr ⟨g.nd, by simp, fun a ha b hb => by simp at hb; subst hb; exact fun z => pA (by rw [← z]; exact ha)⟩
  out := fun a h => by
    rcases List.mem_append.mp h with h | h
    · exact g.out a h
    · simp at h; subst h; exact pG
  len := by rw [List.length_append, List.length_append, g.len]; rfl
  obj := fun n a o h1 h2 => by
    have pre : A <+: A ++ [p] := List.prefix_append _ _
    by_cases hn : n < A.length
    · rw [List.getElem?_append_left hn] at h1
      rw [List.getElem?_append_left (by rw [← g.len]; exact hn)] at h2
      have w := g.obj n a o h1 h2
      exact w.to pre (Same.refl _) fun _ e => e
    · rw [List.getElem?_append_right (by omega)] at h1
      rw [List.getElem?_append_right (by rw [← g.len]; omega)] at h2
      rw [← g.len] at h2
      have hz : n - A.length = 0 := by
        cases q : n - A.length with
        | zero => rfl
        | succ m => rw [q] at h1; simp at h1
      rw [hz] at h1 h2
      cases h1
      cases h2
      exact ⟨vs, hp, l, il.mono pre (Same.refl _)⟩
theorem Ext.wnew {p : Addr} (x : Ext A G H A1 G1 H1) (hp : H p = none) : Ext A G H (A1 ++ [p]) G1 H1 where
  pre := x.pre.trans (List.prefix_append _ _)
  gs := x.gs
  keep := x.keep
  newG := x.newG
  newA := fun a h => by
    rcases List.mem_append.mp h with h | h
    · exact x.newA a h
    · simp at h; subst h; exact .inr hp
  there := x.there
/-- what stands in the slots, while the world takes p in (p is no slot's own, and was not there) -/
theorem Rel.wnew {p : Addr} (R : Rel K H0 A G env σ H) (np : ∀ (i : Nat) d, env[i]? = some (some d) → isTree d = false → σ[i]? ≠ some (some (.ref p))) : Rel K H0 (A ++ [p]) G env σ H where
  len := R.len
  slot := fun i d hi => by
    obtain ⟨v, h1, h2⟩ := R.slot i d hi
    refine ⟨v, h1, ?_⟩
    have pre : A <+: A ++ [p] := List.prefix_append _ _
    have na : ∀ {q : Addr}, isTree d = false → v = .ref q → q ∉ A → q ∉ A ++ [p] := fun {q} ht hv qA hm => by
      rcases List.mem_append.mp hm with hm | hm
      · exact qA hm
      · simp at hm; subst hm; exact np i d hi ht (by rw [h1, hv])
    cases d with
    | ow zs =>
      obtain ⟨q, us, rfl, hq, l, il, qA, r⟩ := h2
      exact ⟨q, us, rfl, hq, l, il.mono pre (Same.refl _), na rfl rfl qA, r⟩
    | od zs =>
      obtain ⟨q, us, rfl, hq, l, il, qA, r⟩ := h2
      exact ⟨q, us, rfl, hq, l, KAll.mono pre (Same.refl _) il, na rfl rfl qA, r⟩
    | ot zs =>
      obtain ⟨q, us, rfl, hq, l, il, qA, r⟩ := h2
      exact ⟨q, us, rfl, hq, l, KAll.mono pre (Same.refl _) il, na rfl rfl qA, r⟩
    | bo zs =>
      obtain ⟨q, us, rfl, l', i', hq⟩ := h2
      refine ⟨q, us, rfl, l', i'.mono pre (Same.refl _), ?_⟩
      rcases hq with ⟨qA, hq⟩ | hq
      · exact .inl ⟨na rfl rfl qA, hq⟩
      · exact .inr hq
    | _ => exact (SIs.is h2 rfl).mono pre (Same.refl _)
  own := R.own
end
section
variable {X : Cx} {Z : XK} {fr : Nat} {pos : Pos} {e o i : Expr} {fe fo fi : EF}
end
end EV

set_option maxRecDepth 100000
noncomputable section
namespace EV
open PySem PySem.Spec PyProof.Rows L2
def ixSet (xs : List D) (k : Int) (d : D) : Option (List D) := (ixN xs.length k).map fun m => xs.set m d
section
variable {X : Cx} {Z : XK} {fr : Nat} {pos : Pos} {e o i : Expr} {fe fo fi : EF}
/-- x a name's own list -/
def sIx (j : Nat) (fi fe : EF) : SF := fun env W => (fe env W).bind fun d W1 => match env[j]? with
  | some (some (.ow xs)) => (fi env W1).bind fun k W2 => match k with
    | .int k => match (if isTree d then ixSet xs k d else none) with
      | some ys => .ok (.nx (env.set j (some (.ow ys)))) W2
      | none => .stuck
    | _ => .stuck
  | _ => .stuck
theorem ixSet_is {K : PySem.W.Frag} {A : List Addr} {G : Hp} {vs : List V} {xs ys : List D} {k : Int} {d : D} {w : V} (il : IsAll K A G vs xs) (iw : Is K A G w d) (h : ixSet xs k d = some ys) : ∃ m, ixN vs.length k = some m ∧ ys = xs.set m d ∧ IsAll K A G (vs.set m w) ys ∧ ys.length = xs.length := by
  unfold ixSet at h
  rw [il.length]
  cases q : ixN xs.length k with
  | none => rw [q] at h; cases h
  | some m =>
    rw [q] at h
    cases h
    exact ⟨m, rfl, rfl, il.set iw m, List.length_set⟩
/-- o a world's object -/
def sIxW (fo fi fe : EF) : SF := fun env W => (fe env W).bind fun d W1 => (fo env W1).bind fun ob W2 => (fi env W2).bind fun k W3 => match ob, k with
  | .ob n, .int k => match W3[n]? with
    | some (.lst xs) => match (if isTree d then ixSet xs k d else none) with
      | some ys => .ok (.nx env) (W3.set n (.lst ys))
      | none => .stuck
    | _ => .stuck
  | _, _ => .stuck
theorem s_ixW {tpos : Pos} (ho : DE X Z 0 o fo) (hi : DE X Z 0 i fi) (he : DE X Z 0 e fe)
    (ha : ∀ v, assign (.Subscript o i tpos) X.env v = (do
      let ov ← holding [v] (eval o X.env)
      let iv ← holding [v, ov] (eval i X.env)
      standAt tpos
      holding [v, ov, iv] (setItem ov iv v)
      release [v, ov, iv] []) := by intro _; rfl)
    (hs : swapsWithSole [.Subscript o i tpos] e pos.line X.env = pure false := by rfl) (hw : swappedStores [.Subscript o i tpos] e X.env = pure none := by rfl)
    (h1 : (assignEach [.Subscript o i tpos] X.env).map (·.2) = [assign (.Subscript o i tpos) X.env] := by rfl) :
    DS X Z fr (.Assign [.Subscript o i tpos] e pos) (sIxW fo fi fe) :=
  PS.imp (ps_asg he (pg_sub ho hi set_list ha) hs hw h1) fun Dn σ H h => by
  obtain ⟨A0, G0, H0, A, G, env, W, gs, R, x, o⟩ := h
  refine tD_of0 x gs R o fun d W1 w A1 G1 H1 g1 y x1 R1 s1 o1 => ?_
  refine tD_of0 x1 g1 R1 o1 fun ob W2 wo A2 G2 H2 g2 y2 x2 R2 s2 o2 => ?_
  refine tD_of0 x2 g2 R2 o2 fun k W3 wk A3 G3 H3 g3 y3 x3 R3 s3 o3 => ?_
  have s2' := s2.ext y3
  have s1' := (s1.ext y2).ext y3
  cases ob with
  | ob n =>
    cases k with
    | int k =>
      simp only at o3
      cases qw : W3[n]? with
      | none => rw [qw] at o3; exact o3.elim
      | some wo' =>
        rw [qw] at o3
        cases wo' with
        | ins _ _ => exact o3.elim
        | dct _ => exact o3.elim
        | lst xs =>
          simp only at o3
          by_cases ht : isTree d = true
          · rw [if_pos ht] at o3
            cases q2 : ixSet xs k d with
            | none => rw [q2] at o3; exact o3.elim
            | some ys =>
              rw [q2] at o3
              cases (SIs.is s2' rfl) with
              | ob ha =>
                rename_i a
                obtain ⟨vs, hp, l, il⟩ := g3.obj n a _ ha qw
                obtain ⟨m, hm, _, iy, ly⟩ := ixSet_is il (SIs.is s1' ht) q2
                have am := List.mem_of_getElem? ha
                refine ⟨a, vs, k, m, rfl, sIs_int s3, hp, hm, ?_⟩
                exact o3 σ A3 G3 _ (g3.wset ha (by rw [ly]; exact l) iy) (R3.wset am (g3.out a am)) ⟨x3.wset am, (y.pre.trans y2.pre).trans y3.pre, (y.gs.trans y2.gs).trans y3.gs⟩
          · rw [if_neg ht] at o3; exact o3.elim
    | _ => exact o3.elim
  | _ => exact o3.elim
/-- a new list becomes a world's object -/
def sOb (i : Nat) (f : EF) : SF := fun env W => (f env W).bind fun d W1 => match d with
  | .lst xs => .ok (.nx (env.set i (some (.ob W1.length)))) (W1 ++ [.lst xs])
  | _ => .stuck
theorem Rel.wnew' {K : PySem.W.Frag} {A A1 : List Addr} {G G1 H H1 H0 : Hp} {env : Env} {σ : L2.St} {p : Addr} (R : Rel K H0 A G env σ H) (hp : H p = none) (y : Ext A G H A1 G1 H1) : Rel K H0 (A1 ++ [p]) G1 env σ H1 := R.ext (y.wnew hp)
theorem ob_at {A : List Addr} {W : World} {p : Addr} (h : A.length = W.length) : (A ++ [p])[W.length]? = some p := by
  rw [List.getElem?_append_right (by omega), ← h, Nat.sub_self]
  rfl
theorem s_ob {x : Str} {pos' : Pos} (i : Nat) (hN : X.N.Nodup) (he : DE X Z 1 e fe) (hi : X.N[i]? = some x := by rfl) (hx : Loc X.env.scope x := by first | exact Or.inl rfl | exact Or.inr rfl) (hs : swapsWith e (some (.Name x pos')) pos.line X.env = pure false := by rfl)
    (hf : X.fn x = true ∨ X.env.scope.names.lookup x = some .local := by first | exact .inl rfl | exact .inr rfl | assumption) : DS X Z fr (.Assign [.Name x pos'] e pos) (sOb i fe) :=
  PS.imp (ps_set hN hi hx he hs hf) fun Dn σ H h => by
  obtain ⟨A0, G0, H0, A, G, env, W, gs, R, x, o⟩ := h
  refine tD_of (fra := 1) x gs R o fun d W1 v A1 G1 H1 g1 y x1 R1 s1 o1 => ?_
  cases d with
  | lst xs =>
    obtain ⟨p, vs, rfl, hp, l, il, pA, pG, pn, _⟩ := s1
    refine o1 _ (A1 ++ [p]) G1 H1 (g1.wnew hp pA pG l il) ((R.wnew' pn y).set (.ob (ob_at g1.len))) ⟨x1.wnew (x.there p pn), y.pre.trans (List.prefix_append _ _), y.gs⟩
  | _ => exact o1.elim
/-- a new list handed back as a world's object -/
def sRetOb (f : EF) : SF := fun env W => (f env W).bind fun d W1 => match d with
  | .lst xs => .ok (.rt (.ob W1.length)) (W1 ++ [.lst xs])
  | _ => .stuck
theorem s_retOb (he : DE X Z 1 e fe) : DS X Z fr (.Return (some e) pos) (sRetOb fe) := PS.imp (ps_ret he) fun Dn σ H h => by
  obtain ⟨A0, G0, H0, A, G, env, W, gs, R, x, o⟩ := h
  refine tD_of (fra := 1) x gs R o fun d W1 v A1 G1 H1 g1 y x1 R1 s1 o1 => ?_
  cases d with
  | lst xs =>
    obtain ⟨p, vs, rfl, hp, l, il, pA, pG, pn, _⟩ := s1
    exact o1 (.ref p) (A1 ++ [p]) G1 H1 (g1.wnew hp pA pG l il) (x1.wnew (x.there p pn)) (.ofS (.of (.ob (ob_at g1.len))) rfl) rfl
  | _ => exact o1.elim

def forGo (tg : Tg) (body : SF) : List D → Env → World → Res Fl
  | [], env, W => .ok (.nx env) W
  | d :: ds, env, W => match setT W tg d env with
    | none => .stuck
    | some env1 => (body env1 W).bind fun r W1 => match r with
      | .nx env2 => forGo tg body ds env2 W1
      | .ct env2 => forGo tg body ds env2 W1
      | .bk env2 => .ok (.nx env2) W1
      | .rt d => .ok (.rt d) W1
def sFor (it : IF) (tg : Tg) (body : SF) : SF := fun env W => (it env W).bind fun ds W1 => forGo tg body ds env W1
theorem s_for {tg iter : Expr} {body : List Stmt} {fi : IF} {t : Tg} {fb : SF} (hp : PassesOwn (model X.prog X.w) X.A X.env X.xe) (hc : X.calm = true) (hi : DI X Z true tg iter fi) (hg : DG X tg t) (hb : DB X Z fr body fb)
    (hs : ∀ x, foldedSetIterable iter X.env x = pure x := by intro _; rfl) : DS X Z fr (.For tg iter body [] pos) (sFor fi t fb) := PS.imp (ps_for hp hc hi hg hb hs) fun Dn σ H h => by
  obtain ⟨A0, G0, H0, A, G, env, W, gs, R, x, o⟩ := h
  unfold sFor at o
  refine ⟨H0, A, G, env, W, gs, R, ?_⟩
  cases q : fi env W with
  | exc x' W1 => rw [q] at o; exact Pex.step o x
  | stuck => rw [q] at o; exact o.elim
  | ok ds W1 =>
    rw [q] at o
    simp only [Res.bind_ok] at o
    intro A1 G1 H1 J S g1 y lds wk st st0
    have x1 := x.trans y
    refine ⟨fun i m σ' H' => m = ds.length - i ∧ i ≤ ds.length ∧ ∃ A2 G2 env2 W2, GS X.K A2 G2 H' W2 ∧ Rel X.K H0 A2 G2 env2 σ' H' ∧ XS A0 G0 H0 A1 G1 A2 G2 H' ∧ Out X.K X.mg Z A0 G0 H0 (SPst X.K A0 G0 H0 A2 G2 fr Dn) (forGo t fb (ds.drop i) env2 W2),
      ⟨_, rfl, Nat.zero_le _, A1, G1, env, W1, g1, R.ext y, XS.refl x1, by rw [List.drop_zero]; exact OutS.later o ⟨x1, y.pre, y.gs⟩⟩, ?_⟩
    rintro i m σ' H' ⟨rfl, hi, A2, G2, env2, W2, g2, R2, y2, o2⟩
    have sH : S H' := st0 rfl H' fun a o' h n => y2.ext.keep a o' h fun m => n ((x1.pre.subset) m)
    obtain ⟨w1, w2⟩ := wk i A2 G2 H' W2 y2.pre y2.gs g2 sH
    by_cases hlt : i < ds.length
    · obtain ⟨d, hd⟩ : ∃ d, ds[i]? = some d := ⟨_, List.getElem?_eq_getElem hlt⟩
      obtain ⟨go, yld⟩ := w2 d hd
      have hdrop : ds.drop i = d :: ds.drop (i + 1) := by
        rw [List.drop_eq_getElem_cons hlt]
        rw [List.getElem?_eq_getElem hlt] at hd
        cases hd
        rfl
      rw [hdrop] at o2
      unfold forGo at o2
      refine .inr ⟨go, fun σ'' H'' => ∃ A2 G2 env2 W2, GS X.K A2 G2 H'' W2 ∧ Rel X.K H0 A2 G2 env2 σ'' H'' ∧ XS A0 G0 H0 A1 G1 A2 G2 H'' ∧ Out X.K X.mg Z A0 G0 H0 (SPst X.K A0 G0 H0 A2 G2 fr Dn) (forGo t fb (ds.drop (i + 1)) env2 W2),
        fun σ'' H'' z => ⟨_, by omega, rfl, hlt, z⟩, fun v H3 yv => ?_⟩
      obtain ⟨G3, x23, g3, ix⟩ := yld v H3 yv
      have y3 : XS A0 G0 H0 A1 G1 A2 G3 H3 := ⟨y2.ext.trans x23, y2.pre, y2.gs.trans x23.gs⟩
      cases qs : setT W2 t d env2 with
      | none => rw [qs] at o2; exact o2.elim
      | some env3 =>
        rw [qs] at o2
        simp only at o2
        refine ⟨H0, A2, G3, env2, W2, d, env3, g3, R2.ext x23, .of ix, qs, fun σ3 R3 _ _ => ?_⟩
        refine ⟨A0, G0, H0, A2, G3, env3, W2, g3, R3, y3.ext, ?_⟩
        cases qb : fb env3 W2 with
        | exc _ _ => rw [qb] at o2; exact o2
        | stuck => rw [qb] at o2; exact o2
        | ok r W4 =>
          rw [qb] at o2
          simp only [Res.bind_ok] at o2
          have later : ∀ {A4 : List Addr} {G4 H4 : Hp}, XS A0 G0 H0 A2 G3 A4 G4 H4 → XS A0 G0 H0 A2 G2 A4 G4 H4 := fun {A4 G4 H4} z => ⟨z.ext, z.pre, x23.gs.trans z.gs⟩
          cases r with
          | nx env4 => exact fun σ4 A4 G4 H4 g4 R4 y4 => ⟨A4, G4, env4, W4, g4, R4, y3.trans y4, OutS.later o2 (later y4)⟩
          | ct env4 => exact fun σ4 A4 G4 H4 g4 R4 y4 => ⟨A4, G4, env4, W4, g4, R4, y3.trans y4, OutS.later o2 (later y4)⟩
          | bk env4 => exact fun σ4 A4 G4 H4 g4 R4 y4 => o2 σ4 A4 G4 H4 g4 R4 (later y4)
          | rt d => exact o2
    · have ei : i = ds.length := by omega
      subst ei
      rw [List.drop_length] at o2
      exact .inl ⟨w1 (Nat.le_refl _), o2 σ' A2 G2 H' g2 R2 (XS.refl y2.ext)⟩
end

end EV

set_option maxRecDepth 100000
noncomputable section
namespace EV
open PySem PySem.Spec PyProof.Rows L2
abbrev Den := List D → World → Res D
def lend : D → D
  | .ow xs => .bo xs
  | d => d
def isArg : D → Bool
  | .od _ => false
  | .ot _ => false
  | .ow _ => false
  | _ => true
/-- the promise of a def of n parameters whose worth is φ, its answer fr new -/
def spD (K : PySem.W.Frag) (mg : Str → Option Value) (n : Nat) (fr : Nat) (φ : Den) : Sp := fun vs H Q E =>
  ∃ A G W ds, ds.length = n ∧ GS K A G H W ∧ SAll K H A G H vs ds ∧ ds.all isArg = true ∧ Out K mg E A G H (fun d W' => isTree d = true → Pst K H A G H fr d W' Q) (φ ds W)
/-- the worth of a body of N names, called with arguments -/
def runB (N : Nat) (f : SF) : Den := fun ds W => (f (ds.map some ++ List.replicate (N - ds.length) none) W).bind fun r W1 => match r with
  | .rt d => .ok d W1
  | .nx _ => .ok .non W1
  | _ => .stuck
structure FnF (P : Program) (w : PySem.World) (K : PySem.W.Frag) (mg : Str → Option Value) (base : Heap) (k : Nat) (x : Str) (n fr : Nat) (φ : Den) : Prop where
  ex : ∃ f fd ps, mg x = some (.ref f) ∧ PySem.W.keepIn K (.ref f) = true ∧ Binds K fd ps [] ∧ FnOk P w K mg base (L2.CX P w) k f fd ps (spD K mg n fr φ)
section
variable {P : Program} {w : PySem.World} {K : PySem.W.Frag} {mg : Str → Option Value} {base : Heap}
theorem SAll.len {H0 : Hp} {A : List Addr} {G H : Hp} {vs : List V} {ds : List D} (h : SAll K H0 A G H vs ds) : vs.length = ds.length := Paired.length h
theorem SAll.at {H0 : Hp} {A : List Addr} {G H : Hp} : ∀ {vs : List V} {ds : List D} {i : Nat} {d : D}, SAll K H0 A G H vs ds → ds[i]? = some d → ∃ v, vs[i]? = some v ∧ SIs K H0 A G H v d
  | _, _, _, _, .nil, e => by simp at e
  | _, _, 0, _, .cons h _, e => by simp at e; subst e; exact ⟨_, rfl, h⟩
  | _, _, i + 1, d, .cons _ t, e => by
    obtain ⟨v, h1, h2⟩ := SAll.at (i := i) (d := d) t (by simpa using e)
    exact ⟨v, by simpa using h1, h2⟩
theorem rel_start {A : List Addr} {G H : Hp} {vs : List V} {ds : List D} {N : List Str} (h : SAll K H A G H vs ds) (c : ds.all isArg = true) : Rel K H A G (ds.map some ++ List.replicate (N.length - ds.length) none) (L2.start N vs) H := by
  have hl := h.len
  have at_ : ∀ {i : Nat} {d : D}, (ds.map some ++ List.replicate (N.length - ds.length) none)[i]? = some (some d) → ds[i]? = some d := fun {i d} e => by
    by_cases hi : i < ds.length
    · rw [List.getElem?_append_left (by simpa using hi), List.getElem?_map] at e
      cases q : ds[i]? with
      | none => rw [q] at e; cases e
      | some x => rw [q] at e; cases e; rfl
    · rw [List.getElem?_append_right (by simpa using hi), List.getElem?_replicate] at e
      split at e <;> cases e
  refine ⟨?_, fun i d e => ?_, fun i j d e v _ hi hj oi _ _ _ => ?_⟩
  · unfold L2.start
    rw [List.length_append, List.length_append, List.length_map, List.length_map, List.length_replicate, List.length_replicate, hl]
  · have e' := at_ e
    obtain ⟨v, h1, h2⟩ := h.at e'
    refine ⟨v, ?_, h2⟩
    unfold L2.start
    have hi : i < vs.length := (List.getElem?_eq_some_iff.mp h1).1
    rw [List.getElem?_append_left (by simpa using hi), List.getElem?_map, h1]
    rfl
  · have e' := at_ hi
    have := List.all_eq_true.mp c d (List.mem_of_getElem? e')
    cases d <;> first | exact absurd this Bool.false_ne_true | exact absurd oi Bool.false_ne_true
/-- THE RULE of a def: its body's worth is its own -/
theorem fn_ok {x qual : Str} {st : Stmt} {f : Addr} {fd : FuncData} {N ps : List Str} {k fr : Nat} {fb : SF} (F : Fun K x qual st f fd) (S : FnScope N ps (defScope st))
    (hbody : ∀ (cdv : Value) (A : Around) (outer : List PySem.Env) (s : Shared) (H : Hp) (E : XK), Room k (A.deeper (envOfC qual (defScope st) s.heap.objs.size f cdv)) → DB (cxOf (L2.CX P w) P w K mg base N qual (defScope st) f cdv A outer s H E) E fr (defBody st) fb) :
    FnOk P w K mg base (L2.CX P w) (k + 1) f fd ps (spD K mg ps.length fr (runB N.length fb)) := by
  refine F.okX S (fun vs H Q E h => ?_) fun cdv A outer s H vs Q E hr h => ?_
  · obtain ⟨_, _, _, ds, hl, _, hs, _⟩ := h
    rw [hs.len, hl]
  · refine ⟨_, hbody cdv A outer s H E hr, ?_⟩
    obtain ⟨A1, G1, W1, ds, hl, g, hs, hc, o⟩ := h
    refine ⟨A1, G1, H, A1, G1, _, W1, g, rel_start hs hc, Ext.refl _ _ _, ?_⟩
    unfold runB at o
    cases q : fb (ds.map some ++ List.replicate (N.length - ds.length) none) W1 with
    | exc x' W2 => rw [q] at o; exact o
    | stuck => rw [q] at o; exact o
    | ok r W2 =>
      rw [q] at o
      cases r with
      | nx env => exact fun σ' A' G' H' g' _ y => (o rfl) .non A' G' H' g' y.ext (.ofS (SIs.of .non) rfl)
      | bk env => exact o.elim
      | ct env => exact o.elim
      | rt d => exact fun v A' G' H' g' y i ht => (o ht) v A' G' H' g' y i
theorem FnF.of {x qual : Str} {st : Stmt} {f : Addr} {fd : FuncData} {N ps : List Str} {k fr n : Nat} {fb : SF} (F : Fun K x qual st f fd) (S : FnScope N ps (defScope st)) (hm : mg x = some (.ref f)) (hb : Binds K fd ps []) (hn : ps.length = n)
    (hbody : ∀ (cdv : Value) (A : Around) (outer : List PySem.Env) (s : Shared) (H : Hp) (E : XK), Room k (A.deeper (envOfC qual (defScope st) s.heap.objs.size f cdv)) → DB (cxOf (L2.CX P w) P w K mg base N qual (defScope st) f cdv A outer s H E) E fr (defBody st) fb) :
    FnF P w K mg base (k + 1) x n fr (runB N.length fb) := by
  subst hn
  exact ⟨f, fd, ps, hm, F.kp, hb, fn_ok F S hbody⟩
/-- at no level: a def of which nothing is known -/
theorem FnF.zero {x qual : Str} {st : Stmt} {f : Addr} {fd : FuncData} {ps : List Str} {n fr : Nat} (F : Fun K x qual st f fd) (hm : mg x = some (.ref f)) (hb : Binds K fd ps []) (hn : ps.length = n) : FnF P w K mg base 0 x n fr (fun _ _ => .stuck) :=
  ⟨f, fd, ps, hm, F.kp, hb, ⟨fun vs H Q E h => by obtain ⟨_, _, _, _, _, _, _, _, z⟩ := h; exact z.elim, fun A outer s H args us vs Q E _ _ _ _ h => by obtain ⟨_, _, _, _, _, _, _, _, z⟩ := h; exact z.elim⟩⟩
end
/-- a call -/
def eCall (φ : Den) (n : Nat) (fs : List EF) : EF := fun env W => (eArgs fs env W).bind fun ds W1 => if (ds.map lend).all isArg && decide (ds.length = n) then (φ (ds.map lend) W1).bind fun d W2 => if isTree d then .ok d W2 else .stuck else .stuck
section
variable {X : Cx} {Z : XK} {k n fr : Nat} {φ : Den} {pos : Pos} {e : Expr} {es : List Expr} {fs : List EF}
theorem SIs.lent {K : PySem.W.Frag} {H0 : Hp} {A : List Addr} {G H : Hp} {v : V} {d : D} (h : SIs K H0 A G H v d) (c : isArg (lend d) = true) : SIs K H A G H v (lend d) := by
  cases d with
  | ow xs =>
    obtain ⟨p, vs, rfl, hp, l, il, pA, _⟩ := h
    exact ⟨p, vs, rfl, l, il, .inl ⟨pA, .inl hp, .inl hp⟩⟩
  | bo xs =>
    obtain ⟨p, vs, rfl, l, il, hp⟩ := h
    refine ⟨p, vs, rfl, l, il, ?_⟩
    rcases hp with ⟨pA, hp, _⟩ | hp
    · exact .inl ⟨pA, hp, hp⟩
    · exact .inr hp
  | od _ => cases c
  | ot _ => cases c
  | _ => exact .of (SIs.is h rfl)
theorem SAll.lent {K : PySem.W.Frag} {H0 : Hp} {A : List Addr} {G H : Hp} : ∀ {vs : List V} {ds : List D}, SAll K H0 A G H vs ds → (ds.map lend).all isArg = true → SAll K H A G H vs (ds.map lend)
  | _, _, .nil, _ => .nil
  | _, _, .cons h t, c => by
    rw [List.map_cons, List.all_cons, Bool.and_eq_true] at c
    exact .cons (h.lent c.1) (SAll.lent t c.2)
theorem OIs.rebase {K : PySem.W.Frag} {H0 H0' H : Hp} {A : List Addr} {G H' : Hp} {fr : Nat} {v : V} {d : D} (h : OIs K H0 H A G H' fr v d) (t : isTree d = true) : OIs K H0' H A G H' fr v d := by
  cases fr with
  | zero => exact SIs.of (SIs.is h t)
  | succ m =>
    by_cases hd : noL d = true
    · exact OIs.ofS (SIs.of (SIs.is (h.toS hd) t)) hd
    · cases d with
      | lst ds => exact h
      | _ => exact absurd rfl hd
theorem d_call {x : Str} {p : Pos} (h : FnF X.prog X.w X.K X.mg X.base k x n fr φ) (hr : Room k X.A) (hx : Passes (L2.CX X.prog X.w) X Z) (ha : DA X Z 0 (e :: es) fs) (hg : Gl X x := by rfl)
    (hdb : (x == ("__debug__" : Str)) = false := by decide) (he : starEach (e :: es) X.env = (false, eval e X.env) :: starEach es X.env := by rfl) (hpl : (backTo pos (starEach es X.env)).any (·.1) = false := by rfl) :
    DE X Z fr (.Call (.Name x p) (e :: es) [] pos) (eCall φ n fs) := by
  obtain ⟨f, fd, ps, hm, hk, hb, F⟩ := h.ex
  refine PE.imp (pe_call F hr hg hm hk hb .nil hx ha hdb he hpl) fun σ H Q h => ?_
  obtain ⟨H0, A, G, env, W, g, R, o⟩ := h
  refine tDs_of (Ext.refl _ _ _) g R o fun ds W2 vs A2 G2 H2 le g2 _ x2 R2 s2 f2 o2 => ?_
  by_cases hc : ((ds.map lend).all isArg && decide (ds.length = n)) = true
  · rw [if_pos hc] at o2
    rw [Bool.and_eq_true, decide_eq_true_eq] at hc
    rw [List.append_nil]
    refine ⟨A2, G2, W2, ds.map lend, by rw [List.length_map]; exact hc.2, g2, s2.lent hc.1, hc.1, ?_⟩
    cases q : φ (ds.map lend) W2 with
    | exc x' W3 => rw [q] at o2; exact Pex.step o2 x2
    | stuck => rw [q] at o2; exact o2
    | ok d W3 =>
      rw [q] at o2
      simp only [Res.bind_ok] at o2
      intro ht v A3 G3 H3 g3 x3 i3
      rw [if_pos ht] at o2
      exact o2 v A3 G3 H3 g3 (x2.trans x3) ((i3.rebase ht).back x2.there)
  · rw [if_neg hc] at o2; exact o2.elim
end
end EV

set_option maxRecDepth 100000
noncomputable section
namespace EV
open PySem PySem.Spec PyProof.Rows L2
def intOf : D → Option Int
  | .int i => some i
  | _ => none
def all2 {α : Type} (f : D → Option α) : List D → Option (List α)
  | [] => some []
  | d :: ds => match f d, all2 f ds with
    | some a, some as => some (a :: as)
    | _, _ => none
abbrev intsOf := all2 intOf
section
variable {K : PySem.W.Frag} {A : List Addr} {G H H0 : Hp} {W : World}
theorem IsAll.ints : ∀ {vs : List V} {ds : List D} {ns : List Int}, IsAll K A G vs ds → intsOf ds = some ns → vs = ns.map V.int
  | _, _, _, .nil, e => by cases e; rfl
  | _, _, ns, .cons (d := d) h t, e => by
    unfold intsOf all2 at e
    cases d with
    | int i =>
      cases q : all2 intOf _ with
      | none => rw [q] at e; cases e
      | some ms =>
        rw [q] at e
        cases e
        cases h
        rw [IsAll.ints t q]
        rfl
    | _ => cases e
theorem ints_is : ∀ (ns : List Int), IsAll K A G (ns.map V.int) (ns.map D.int)
  | [] => .nil
  | n :: ns => .cons (.int n) (ints_is ns)
end
def oLen : ON := fun W ds => match ds with
  | [.str s] => if s.length ≤ LINE then some (.int s.length) else none
  | [.tup xs] => some (.int xs.length)
  | [d] => match seqL W d with
    | some xs => some (.int xs.length)
    | none => none
  | _ => none
def oList : ON := fun W ds => match ds with
  | [.tup xs] => some (.lst xs)
  | [d] => match seqL W d with
    | some xs => some (.lst xs)
    | none => none
  | _ => none
section
variable {X : Cx} {Z : XK} {fr : Nat} {pos : Pos}
theorem sem_len : SemN X fr oLen (fun xs H Q => ∃ x n, xs = [x] ∧ LenV X.K x H n ∧ Q (.int n) H) := by
  intro H0 A G H A1 G1 H1 W vs ds z Q g x sa e q
  unfold oLen at e
  split at e
  · obtain ⟨v, rfl, s⟩ := sa.one
    split at e
    · rename_i hl
      cases e
      rw [sIs_str s]
      exact ⟨_, _, rfl, ⟨by rw [← LINE_eq]; exact hl, rfl⟩, q.int x g⟩
    · cases e
  · rename_i xs
    obtain ⟨v, rfl, s⟩ := sa.one
    cases e
    obtain ⟨p, us, rfl, hp, hpg, l, il⟩ := s.tupl g (show tupL (.tup xs) = some xs from rfl)
    exact ⟨_, xs.length, rfl, .inr ⟨us, hp, il.length.symm⟩, q.int x g⟩
  · obtain ⟨v, rfl, s⟩ := sa.one
    split at e
    · rename_i xs e1
      cases e
      obtain ⟨p, us, rfl, hp, l, il⟩ := s.seq g e1
      exact ⟨_, xs.length, rfl, .inl ⟨us, hp, il.length.symm⟩, q.int x g⟩
    · cases e
  · cases e
theorem sem_list : SemN X 1 oList (fun xs H Q => ∃ p ys, xs = [.ref p] ∧ (SqL X.K H p ys ∨ SqT X.K H p ys) ∧ ∀ l, H l = none → Q (.ref l) (upd H l (.lst ys))) := by
  intro H0 A G H A1 G1 H1 W vs ds z Q g x sa e q
  unfold oList at e
  split at e
  · rename_i xs
    obtain ⟨v, rfl, s⟩ := sa.one
    cases e
    obtain ⟨p, us, rfl, hp, hpg, l, il⟩ := s.tupl g (show tupL (.tup xs) = some xs from rfl)
    exact ⟨p, us, rfl, .inr hp, fun c hc => q.new_lst x g hc l il fun h => absurd h (by decide)⟩
  · obtain ⟨v, rfl, s⟩ := sa.one
    split at e
    · rename_i xs e1
      cases e
      obtain ⟨p, us, rfl, hp, l, il⟩ := s.seq g e1
      exact ⟨p, us, rfl, .inl hp, fun c hc => q.new_lst x g hc l il fun h => absurd h (by decide)⟩
    · cases e
  · cases e
/-- list(range(..)) -/
def eListRg1 (f : EF) : EF := fun env W => (f env W).bind fun d W1 => match d with
  | .int n => (Res.ofO (rngD 0 n) W1).bind fun ds W2 => .ok (.lst ds) W2
  | _ => .stuck
variable {a b : Expr} {fa fb : EF}
/-- isinstance(x, T) -/
def tyD : D → String
  | .non => "NoneType"
  | .bl _ => "bool"
  | .int _ => "int"
  | .str _ => "str"
  | .tup _ => "tuple"
  | .od _ => "dict"
  | .ot _ => "dict"
  | _ => "list"
def isiD (T : String) (d : D) : Bool := match d with
  | .non => false
  | .bl _ => T == "bool" || T == "int"
  | .int _ => T == "int"
  | .str _ => T == "str"
  | .tup _ => T == "tuple"
  | .od _ => T == "dict"
  | .ot _ => T == "dict"
  | _ => T == "list"
def okTy (T : String) : Bool := T == "bool" || T == "int" || T == "str" || T == "tuple" || T == "list"
def noFz : D → Bool
  | .fk _ => false
  | .ft _ => false
  | .tk _ => false
  | _ => true
def eIsi (T : String) (f : EF) : EF := fun env W => (f env W).bind fun d W1 => match d with
  | .ob _ => .stuck
  | .exn _ _ => .stuck
  | .fk _ => .stuck
  | .ft _ => .stuck
  | .tk _ => .stuck
  | d => .ok (.bl (isiD T d)) W1
theorem kit_isi {K : PySem.W.Frag} {T : String} (h : okTy T = true) (d : D) : PySem.W.kitOne K (.type (tyD d)) (.type T) = some (isiD T d) := by
  have hT : T = "bool" ∨ T = "int" ∨ T = "str" ∨ T = "tuple" ∨ T = "list" := by
    simpa [okTy, or_assoc] using h
  refine kit_ty ?_
  rcases hT with rfl | rfl | rfl | rfl | rfl <;> cases d <;> simp only [tyD, isiD] <;> decide +kernel
theorem SIs.ty {K : PySem.W.Frag} {H0 : Hp} {A : List Addr} {G H : Hp} {W : World} {v : V} {d : D} (s : SIs K H0 A G H v d) (g : GS K A G H W) (no : ∀ n, d ≠ .ob n) (nx : ∀ c p, d ≠ .exn c p) (nf : noFz d = true) : TyX K H v (.type (tyD d)) := by
  cases d with
  | non => rw [sIs_non s]; exact .base .non
  | bl b => rw [sIs_bl s]; exact .base (.bl b)
  | int b => rw [sIs_int s]; exact .base (.int b)
  | str b => rw [sIs_str s]; exact .base (.str b)
  | ob n => exact absurd rfl (no n)
  | exn c p => exact absurd rfl (nx c p)
  | fk _ => cases nf
  | ft _ => cases nf
  | tk _ => cases nf
  | lst xs =>
    cases SIs.is s rfl with
    | lst h l i => exact .base (.lst (g.sub _ _ h))
  | tup xs =>
    obtain ⟨p, vs, rfl, hp, hpg, l, il⟩ := s.tupl g (show tupL (.tup xs) = some xs from rfl)
    rcases hp with (hp | ⟨o, hp⟩) | ⟨o, its, n, hk, hc, _⟩
    · exact .base (.tup hp)
    · exact .fTuple hp
    · exact .kTuple hk hc
  | ow xs => obtain ⟨p, vs, rfl, hp, _⟩ := s; exact .base (.lst hp)
  | bo xs =>
    obtain ⟨p, vs, rfl, l, il, hp⟩ := s
    rcases hp with ⟨_, hp | ⟨o, hp⟩, _⟩ | ⟨o, its, n, hk, hc, _⟩
    · exact .base (.lst hp)
    · exact .base (.frz hp)
    · exact .kList hk hc
  | od xs => obtain ⟨p, vs, rfl, hp, _⟩ := s; exact .base (.dK hp)
  | ot xs => obtain ⟨p, vs, rfl, hp, _⟩ := s; exact .base (.dT hp)
theorem d_isi {T : String} {x : Str} {p p2 : Pos} (hm : X.mg "isinstance" = none) (hmT : X.mg x = none) (hvT : bootBuiltins x = some (.type T)) (ha : DE X Z 0 a fa) (hT : okTy T = true := by decide) (hg : Gl X "isinstance" := by rfl) (hgT : Gl X x := by rfl)
    (hnT : x ≠ "__name__" := by decide) (hdT : (x == ("__debug__" : Str)) = false := by decide)
    (hs1 : starEach [a, .Name x p2] X.env = (false, eval a X.env) :: starEach [.Name x p2] X.env := by rfl) (hs2 : starEach [.Name x p2] X.env = (false, eval (.Name x p2) X.env) :: starEach [] X.env := by rfl) (hpl : (backTo pos (starEach [.Name x p2] X.env)).any (·.1) = false := by rfl) :
    DE X Z fr (.Call (.Name "isinstance" p) [a, .Name x p2] [] pos) (eIsi T fa) :=
  PE.imp (pe_callB call_isi hg hm boot_isinstance (pa_cons ha (pa_cons (pe_bltn (v := .ty T) hgT hmT hvT rfl hnT hdT) pa_nil hs2) hs1) (by decide) (by decide) hs1 hpl) fun σ H Q h => by
  obtain ⟨H0, A, G, env, W, g, R, o⟩ := h
  refine tD_of0 (Ext.refl _ _ _) g R o fun d W1 v A1 G1 H1 g1 _ x1 R1 s1 o1 => ?_
  have key : (∀ n, d ≠ .ob n) → (∀ c p, d ≠ .exn c p) → noFz d = true → Pst X.K H0 A G H fr (.bl (isiD T d)) W1 Q → rIsi X.K [v, .ty T] H1 Q := fun no nx nf q =>
    ⟨v, .ty T, .type (tyD d), .type T, isiD T d, rfl, .ty T, s1.ty g1 no nx nf, kit_isi hT d, q.bl x1 g1⟩
  cases d with
  | ob n => exact o1.elim
  | exn c p => exact o1.elim
  | fk _ => exact o1.elim
  | ft _ => exact o1.elim
  | tk _ => exact o1.elim
  | _ => exact key (fun n e => by cases e) (fun c p e => by cases e) rfl o1
end
end EV

set_option maxRecDepth 100000
noncomputable section
namespace EV
open PySem PySem.Spec PyProof.Rows L2
abbrev K1 := List Int × Option Nat
def E1 (h : Heap) (u : Value) (k : K1) : Prop := (∃ i t, u = .int i t ∧ k = ([i], none)) ∨ (∃ ns, TS.TupInts h u ns ∧ k = (ns, some ns.length))
def T2 (h : Heap) (v : Value) (ks : List K1) : Prop := ∃ a its, v = .ref a ∧ IsTup h a (List.toArray its) ∧ Paired (E1 h) its ks
def flat (ks : List K1) : List Int := (ks.map (·.1)).flatten
theorem E1.keeps {h h' : Heap} {u : Value} {k : K1} (x : E1 h u k) (kp : ∀ b o, h.get? b = some o → o.cls = .type "tuple" → h'.get? b = some o) : E1 h' u k := by
  rcases x with x | ⟨ns, t, e⟩
  · exact .inl x
  · exact .inr ⟨ns, t.keeps kp, e⟩
theorem T2.keeps {h h' : Heap} {v : Value} {ks : List K1} (x : T2 h v ks) (kp : ∀ b o, h.get? b = some o → o.cls = .type "tuple" → h'.get? b = some o) : T2 h' v ks := by
  obtain ⟨a, its, e, ⟨o, ho, hc, hd⟩, p⟩ := x
  exact ⟨a, its, e, ⟨o, kp _ _ ho hc, hc, hd⟩, Paired.mapP p fun _ _ z => z.keeps kp⟩
section
variable {prog : Program} {w : PySem.World} {A : Around} {E : Value → Shared → Prop} {s : Shared}
end
section
variable {X : Cx} {pins : List (Addr × Obj)} {σ : L2.St} {H : Hp} {s : Shared}
/-- a part, an item, by the abstract heap -/
def E1V (K : PySem.W.Frag) (H : Hp) (v : V) (k : K1) : Prop := (∃ i, v = .int i ∧ k = ([i], none)) ∨ (∃ ns, TupI K H v ns ∧ k = (ns, some ns.length))
end
def kD1 : D → Option K1
  | .int i => some ([i], none)
  | .tup xs => match intsOf xs with
    | some ns => some (ns, some ns.length)
    | none => none
  | _ => none
def kD : D → Option (List K1)
  | .tup xs => all2 kD1 xs
  | _ => none
section
variable {K : PySem.W.Frag} {A : List Addr} {G H H0 : Hp} {W : World}
theorem Is.e1 {v : V} {d : D} {k : K1} (h : Is K A G v d) (g : Same G H) (e : kD1 d = some k) : E1V K H v k := by
  cases h with
  | int i => cases e; exact .inl ⟨i, rfl, rfl⟩
  | tup h l s =>
    simp only [kD1] at e
    split at e
    · rename_i ns q
      cases e
      have := s.ints q
      subst this
      exact .inr ⟨ns, ⟨_, rfl, sqT_mono g h⟩, rfl⟩
    · cases e
  | _ => cases e
theorem IsAll.e1 (g : Same G H) : ∀ {vs : List V} {ds : List D} {ks : List K1}, IsAll K A G vs ds → all2 kD1 ds = some ks → Paired (E1V K H) vs ks
  | _, _, _, .nil, e => by cases e; exact .nil
  | _, _, _, .cons (d := d) (ds := ds) h t, e => by
    unfold all2 at e
    cases q1 : kD1 d with
    | none => rw [q1] at e; cases e
    | some k =>
      cases q2 : all2 kD1 ds with
      | none => rw [q1, q2] at e; cases e
      | some ks =>
        rw [q1, q2] at e
        cases e
        exact .cons (h.e1 g q1) (IsAll.e1 g t q2)
end
section
variable {X : Cx}
theorem CallR.or {f : Value} {r r' : List V → Hp → VK → Prop} (h : CallR X f r) (h' : CallR X f r') : CallR X f (fun xs H Q => r xs H Q ∨ r' xs H Q) := fun pins s σ H xs us Q I rx q => q.elim (h pins s σ H xs us Q I rx) (h' pins s σ H xs us Q I rx)
end
end EV

set_option maxRecDepth 100000
noncomputable section
namespace EV
open PySem PySem.Spec PyProof.Rows L2
section
variable {X : Cx} {Z : XK} {fr : Nat} {pos : Pos} {a b : Expr} {fa fb : EF}
def enumD (k : Nat) : List D → List D
  | [] => []
  | d :: ds => .tup [.int k, d] :: enumD (k + 1) ds
theorem enumD_len : ∀ (k : Nat) (ds : List D), (enumD k ds).length = ds.length
  | _, [] => rfl
  | k, d :: ds => by unfold enumD; rw [List.length_cons, List.length_cons, enumD_len]
theorem enumD_get : ∀ (k : Nat) (ds : List D) (i : Nat), (enumD k ds)[i]? = (ds[i]?).map fun d => .tup [.int ((k + i : Nat) : Int), d]
  | _, [], _ => rfl
  | k, d :: ds, 0 => rfl
  | k, d :: ds, i + 1 => by
    unfold enumD
    rw [List.getElem?_cons_succ, List.getElem?_cons_succ, enumD_get (k + 1) ds i, show k + 1 + i = k + (i + 1) by omega]
def seqI2 (strong : Bool) : D → Option (List D)
  | .lst xs => some xs
  | .bo xs => some xs
  | .ow xs => if strong then none else some xs
  | _ => none
theorem seqI2_seqI {strong : Bool} {d : D} {xs : List D} (h : seqI2 strong d = some xs) : seqI strong d = some xs ∧ ∀ ys, d ≠ .tup ys := by
  cases d with
  | lst _ => exact ⟨h, fun ys e => by cases e⟩
  | bo _ => exact ⟨h, fun ys e => by cases e⟩
  | ow _ => exact ⟨h, fun ys e => by cases e⟩
  | _ => cases h
def iEnumL (strong : Bool) (f : EF) : IF := fun env W => (f env W).bind fun d W1 => Res.ofO ((seqI2 strong d).map (enumD 0)) W1
theorem pair_new {K : PySem.W.Frag} {A2 : List Addr} {G2 H2 : Hp} {W2 : World} {T : Addr} {x y : V} {d e : D} (g : GS K A2 G2 H2 W2) (hT : H2 T = none) (ix : Is K A2 G2 x d) (iy : Is K A2 G2 y e) :
    ∃ G3, Ext A2 G2 H2 A2 G3 (upd H2 T (.tup [x, y])) ∧ GS K A2 G3 (upd H2 T (.tup [x, y])) W2 ∧ Is K A2 G3 (.ref T) (.tup [d, e]) := by
  have x1 : Ext A2 G2 H2 A2 (upd G2 T (.tup [x, y])) (upd H2 T (.tup [x, y])) := Ext.alloc g hT
  exact ⟨_, x1, g.alloc hT, .tup (.inl (.inl upd_same)) (by rw [LINE_v]; simp) (.cons (ix.mono x1.pre x1.gs) (.cons (iy.mono x1.pre x1.gs) .nil))⟩
theorem di_enum {strong : Bool} {p tpos : Pos} {elts : List Expr} {kk : Nat} (hm : X.mg "enumerate" = none) (ha : DE X Z 0 a fa) (hg : Gl X "enumerate" := by rfl) (hs : starEach [a] X.env = [(false, eval a X.env)] := by rfl) :
    DI X Z strong (.Tuple elts kk tpos) (.Call (.Name "enumerate" p) [a] [] pos) (iEnumL strong fa) := PI.imp (pi_enum hg hm (pa_cons ha pa_nil hs) hs) fun σ H R h => by
  obtain ⟨H0, A, G, env, W, g, rl, o⟩ := h
  refine tD_of0 (Ext.refl _ _ _) g rl o fun d W1 v A1 G1 H1 g1 _ x1 R1 s1 o1 => ?_
  cases q : seqI2 strong d with
  | none => rw [q] at o1; exact o1.elim
  | some xs =>
    rw [q] at o1
    obtain ⟨q1, q2⟩ := seqI2_seqI q
    obtain ⟨l, p, vs, S, rfl, hp, _, st, st0, key, il⟩ := seq_stands s1 g1 q1 q2
    refine ⟨p, vs, rfl, hp, o1 A1 G1 H1 _ S g1 x1 (by rw [enumD_len]; exact l) (fun i A2 G2 H2 W2 pa pg g2 sH => ?_) st st0⟩
    have sq := key A2 G2 H2 W2 pa pg g2 sH
    refine ⟨fun hi => ⟨vs, sq, by rw [il.length, ← enumD_len 0 xs]; exact hi⟩, fun d hd => ?_⟩
    rw [enumD_get] at hd
    cases hx : xs[i]? with
    | none => rw [hx] at hd; cases hd
    | some d0 =>
      rw [hx] at hd
      cases hd
      obtain ⟨u, hu, iu⟩ := il.get hx
      refine ⟨⟨vs, u, sq, hu⟩, fun x H3 yv => ?_⟩
      obtain ⟨T, x0, rfl, hT, rfl, hx0⟩ := yv
      have e := hx0 vs sq
      rw [hu] at e
      cases e
      rw [Nat.zero_add]
      exact pair_new g2 hT (.int _) (iu.mono pa pg)
def zipD : List D → List D → List D
  | x :: xs, y :: ys => .tup [x, y] :: zipD xs ys
  | _, _ => []
theorem zipD_get : ∀ (xs ys : List D) (i : Nat), (zipD xs ys)[i]? = match xs[i]?, ys[i]? with | some x, some y => some (.tup [x, y]) | _, _ => none
  | [], ys, i => by simp [zipD]
  | x :: xs, [], i => by cases i <;> simp [zipD]
  | x :: xs, y :: ys, 0 => rfl
  | x :: xs, y :: ys, i + 1 => by
    unfold zipD
    rw [List.getElem?_cons_succ, List.getElem?_cons_succ, List.getElem?_cons_succ, zipD_get xs ys i]
theorem zipD_len : ∀ (xs ys : List D), (zipD xs ys).length = min xs.length ys.length
  | [], ys => by simp [zipD]
  | x :: xs, [] => by simp [zipD]
  | x :: xs, y :: ys => by unfold zipD; rw [List.length_cons, List.length_cons, List.length_cons, zipD_len]; omega
/-- two lists, or two tuples -/
def zipO (d e : D) : Option (List D) := match d, e with
  | .tup xs, .tup ys => some (zipD xs ys)
  | .tup _, _ => none
  | d, e => match seqI2 true d, seqI2 true e with
    | some xs, some ys => some (zipD xs ys)
    | _, _ => none
theorem zipO_case {d e : D} {zs : List D} (h : zipO d e = some zs) : (∃ xs ys, d = .tup xs ∧ e = .tup ys ∧ zs = zipD xs ys) ∨ (∃ xs ys, seqI2 true d = some xs ∧ seqI2 true e = some ys ∧ zs = zipD xs ys) := by
  unfold zipO at h
  split at h
  · cases h; exact .inl ⟨_, _, rfl, rfl, rfl⟩
  · cases h
  · split at h
    · rename_i q1 q2
      cases h
      exact .inr ⟨_, _, q1, q2, rfl⟩
    · cases h
def iZipL (f f' : EF) : IF := fun env W => (f env W).bind fun d W1 => (f' env W1).bind fun e W2 => Res.ofO (zipO d e) W2
theorem di_zip {strong : Bool} {p tpos : Pos} {elts : List Expr} {kk : Nat} (hm : X.mg "zip" = none) (ha : DE X Z 0 a fa) (hb : DE X Z 0 b fb) (hg : Gl X "zip" := by rfl) (hs : starEach [a, b] X.env = (false, eval a X.env) :: starEach [b] X.env := by rfl) (hs2 : starEach [b] X.env = (false, eval b X.env) :: starEach [] X.env := by rfl)
    (hpl : (backTo pos (starEach [b] X.env)).any (·.1) = false := by rfl) : DI X Z strong (.Tuple elts kk tpos) (.Call (.Name "zip" p) [a, b] [] pos) (iZipL fa fb) := PI.imp (RZ.pi_zipA hg hm (pa_cons ha (pa_cons hb pa_nil hs2) hs) hs hpl) fun σ H R h => by
  obtain ⟨H0, A, G, env, W, g, rl, o⟩ := h
  refine tD_of0 (Ext.refl _ _ _) g rl o fun d W1 v A1 G1 H1 g1 _ x1 R1 s1 o1 => ?_
  refine tD_of0 x1 g1 R1 o1 fun e W2 u A2 G2 H2 g2 y2 x2 R2 s2 o2 => ?_
  have s1' := s1.ext y2
  have lists : ∀ xs ys, seqI2 true d = some xs → seqI2 true e = some ys → zipO d e = some (zipD xs ys) → ∃ a b xs ys, [v, u] = [V.ref a, V.ref b] ∧ ((SqL X.K H2 a xs ∧ SqL X.K H2 b ys ∧ R (Itz X.K a b) H2) ∨ (SqT X.K H2 a xs ∧ SqT X.K H2 b ys ∧ R (RZ.ItzT X.K a b) H2)) := by
    intro xs ys e1 e2 e3
    rw [e3] at o2
    obtain ⟨q1, q2⟩ := seqI2_seqI e1
    obtain ⟨q3, q4⟩ := seqI2_seqI e2
    obtain ⟨l, p, vs, S, rfl, hp, _, st, st0, key, il⟩ := seq_stands s1' g2 q1 q2
    obtain ⟨l', p', vs', S', rfl, hp', _, st', st0', key', il'⟩ := seq_stands s2 g2 q3 q4
    refine ⟨p, p', vs, vs', rfl, .inl ⟨hp, hp', o2 A2 G2 H2 _ (fun h => S h ∧ S' h) g2 x2 (by rw [zipD_len]; exact Nat.le_trans (Nat.min_le_left _ _) l) (fun i A3 G3 H3 W3 pa pg g3 sH => ?_) (fun h k => ⟨st h k, st' h k⟩) fun _ h k => ⟨st0 rfl h k, st0' rfl h k⟩⟩⟩
    have sq := key A3 G3 H3 W3 pa pg g3 sH.1
    have sq' := key' A3 G3 H3 W3 pa pg g3 sH.2
    refine ⟨fun hi => ⟨vs, vs', sq, sq', ?_⟩, fun d hd => ?_⟩
    · rw [zipD_len] at hi
      rw [il.length, il'.length]
      omega
    · rw [zipD_get] at hd
      cases hx : xs[i]? with
      | none => rw [hx] at hd; cases hd
      | some d0 =>
        cases hy : ys[i]? with
        | none => rw [hx, hy] at hd; cases hd
        | some e0 =>
          rw [hx, hy] at hd
          cases hd
          obtain ⟨w, hw, iw⟩ := il.get hx
          obtain ⟨w', hw', iw'⟩ := il'.get hy
          refine ⟨⟨vs, vs', w, w', sq, sq', hw, hw'⟩, fun x H3' yv => ?_⟩
          obtain ⟨T, x0, y0, rfl, hT, rfl, hx0, hy0⟩ := yv
          have e := hx0 vs sq
          rw [hw] at e
          cases e
          have e := hy0 vs' sq'
          rw [hw'] at e
          cases e
          exact pair_new g3 hT (iw.mono pa pg) (iw'.mono pa pg)
  have tups : ∀ xs ys, d = .tup xs → e = .tup ys → ∃ a b xs ys, [v, u] = [V.ref a, V.ref b] ∧ ((SqL X.K H2 a xs ∧ SqL X.K H2 b ys ∧ R (Itz X.K a b) H2) ∨ (SqT X.K H2 a xs ∧ SqT X.K H2 b ys ∧ R (RZ.ItzT X.K a b) H2)) := by
    intro xs ys e1 e2
    subst e1 e2
    have o2 : ∀ A' G' H' J S, GS X.K A' G' H' W2 → Ext A G H A' G' H' → (zipD xs ys).length ≤ LINE → Wk X.K J A' G' S (zipD xs ys) → StS H' A' S → (strong = true → StS H0 A' S) → R J H' := o2
    obtain ⟨p, vs, rfl, hp, hpg, l, il⟩ := s1'.tupl g2 (show tupL (.tup xs) = some xs from rfl)
    obtain ⟨p', vs', rfl, hp', hpg', l', il'⟩ := s2.tupl g2 (show tupL (.tup ys) = some ys from rfl)
    refine ⟨p, p', vs, vs', rfl, .inr ⟨hp, hp', o2 A2 G2 H2 _ (fun _ => True) g2 x2 (by rw [zipD_len]; exact Nat.le_trans (Nat.min_le_left _ _) l) (fun i A3 G3 H3 W3 pa pg g3 sH => ?_) sts_true fun _ => sts_true⟩⟩
    have sq : SqT X.K H3 p vs := sqT_mono (pg.trans g3.sub) hpg
    have sq' : SqT X.K H3 p' vs' := sqT_mono (pg.trans g3.sub) hpg'
    refine ⟨fun hi => ⟨vs, vs', sq, sq', ?_⟩, fun d hd => ?_⟩
    · rw [zipD_len] at hi
      rw [il.length, il'.length]
      omega
    · rw [zipD_get] at hd
      cases hx : xs[i]? with
      | none => rw [hx] at hd; cases hd
      | some d0 =>
        cases hy : ys[i]? with
        | none => rw [hx, hy] at hd; cases hd
        | some e0 =>
          rw [hx, hy] at hd
          cases hd
          obtain ⟨w, hw, iw⟩ := il.get hx
          obtain ⟨w', hw', iw'⟩ := il'.get hy
          refine ⟨⟨vs, vs', w, w', sq, sq', hw, hw'⟩, fun x H3' yv => ?_⟩
          obtain ⟨T, x0, y0, rfl, hT, rfl, hx0, hy0⟩ := yv
          have e := hx0 vs sq
          rw [hw] at e
          cases e
          have e := hy0 vs' sq'
          rw [hw'] at e
          cases e
          exact pair_new g3 hT (iw.mono pa pg) (iw'.mono pa pg)
  cases q : zipO d e with
  | none => rw [q] at o2; exact o2.elim
  | some zs => rcases zipO_case q with ⟨xs, ys, e1, e2, _⟩ | ⟨xs, ys, e1, e2, rfl⟩
               · exact tups xs ys e1 e2
               · exact lists xs ys e1 e2 q
end
end EV

set_option maxRecDepth 100000
noncomputable section
namespace EV
open PySem PySem.Spec PyProof.Rows L2
def subD : O2 := i2 (fun i j => .int (i - j)) fun _ _ => true
def mulD : O2 := i2 (fun i j => .int (i * j)) fun i j => lock (decide (-(2 ^ 64) < i ∧ i < 2 ^ 64) || decide (-(2 ^ 64) < j ∧ j < 2 ^ 64))
def fdvD : O2 := i2 (fun i j => .int (i / j)) fun _ j => lock (decide (0 < j ∧ j.natAbs.log2 < 9000))
def modD : O2 := i2 (fun i j => .int (i % j)) fun _ j => lock (decide (0 < j))
def powD : O2 := i2 (fun i j => .int (i ^ j.toNat)) fun i j => lock (decide (0 ≤ j ∧ j ≤ 1000000 ∧ i.natAbs < 2 ^ 64))
def ltD : O2 := i2 (fun i j => .bl (decide (i < j))) fun _ _ => true
def gtD : O2 := i2 (fun i j => .bl (decide (j < i))) fun _ _ => true
def geD : O2 := i2 (fun i j => .bl (decide (j ≤ i))) fun _ _ => true
section
variable {X : Cx} {fr : Nat} {pos : Pos} {Z : XK}
theorem sem_sub : Sem2 X fr subD (rI0 fun i j => .int (i - j)) := sem_i20 (fun _ _ _ _ => .int _) fun _ _ => rfl
theorem sem_mul : Sem2 X fr mulD (rI CMul fun i j => .int (i * j)) := sem_i2 (fun i j h => by
  rw [lock_eq, Bool.or_eq_true, decide_eq_true_eq, decide_eq_true_eq] at h; exact h) (fun _ _ _ _ => .int _) fun _ _ => rfl
theorem sem_fdv : Sem2 X fr fdvD (rI CDivW fun i j => .int (i / j)) := sem_i2 (fun i j h => by rw [lock_eq] at h; unfold CDivW; exact of_decide_eq_true h) (fun _ _ _ _ => .int _) fun _ _ => rfl
theorem sem_mod : Sem2 X fr modD (rI (fun _ j => 0 < j) fun i j => .int (i % j)) := sem_i2 (fun i j h => by rw [lock_eq] at h; exact of_decide_eq_true h) (fun _ _ _ _ => .int _) fun _ _ => rfl
theorem sem_pow : Sem2 X fr powD (rI CPow fun i j => .int (i ^ j.toNat)) := sem_i2 (fun i j h => by rw [lock_eq] at h; unfold CPow; exact of_decide_eq_true h) (fun _ _ _ _ => .int _) fun _ _ => rfl
theorem sem_lt : Sem2 X fr ltD (rI0 fun i j => .bl (decide (i < j))) := sem_i20 (fun _ _ _ _ => .bl _) fun _ _ => rfl
theorem sem_gt : Sem2 X fr gtD (rI0 fun i j => .bl (decide (j < i))) := sem_i20 (fun _ _ _ _ => .bl _) fun _ _ => rfl
theorem sem_ge : Sem2 X fr geD (rI0 fun i j => .bl (decide (j ≤ i))) := sem_i20 (fun _ _ _ _ => .bl _) fun _ _ => rfl
def eNeg (fa : EF) : EF := fun env W => (fa env W).bind fun d W1 => match d with
  | .int i => .ok (.int (-i)) W1
  | _ => .stuck
def opAdd : OpR X (binaryOp .Add) (fun x y H Q => (∃ i j, x = .int i ∧ y = .int j ∧ Q (.int (i + j)) H) ∨ (∃ i j, x = .str i ∧ y = .str j ∧ i.length + j.length ≤ sizeLine ∧ Q (.str (i ++ j)) H) ∨ rCatA X.K x y H Q ∨ rCat x y H Q) :=
  OpR.or op_add (OpR.or op_add_str (OpR.or op_catA op_cat))
end
section
variable {X : Cx} {Z : XK} {fr : Nat} {pos : Pos} {st : Stmt} {e : Expr} {fe : EF}
theorem tD_le {a b : Nat} {f : EF} {σ : L2.St} {H : Hp} {Q : VK} (l : a ≤ b) (h : tD X.K X.mg Z a f σ H Q) : tD X.K X.mg Z b f σ H Q := by
  obtain ⟨H0, A, G, env, W, g, R, o⟩ := h
  refine ⟨H0, A, G, env, W, g, R, ?_⟩
  cases q : f env W with
  | ok d W' =>
    rw [q] at o
    intro v A' G' H' g' x i
    obtain ⟨G2, _, x2, g2, i2⟩ := i.mono l x g'
    exact o v A' G2 H' g2 x2 i2
  | exc x W' => rw [q] at o; exact o
  | stuck => rw [q] at o; exact o
/-- name = [..] on one line, the name a local -/
theorem s_setLc {i : Nat} {y : Str} {py : Pos} {elt tg iter : Expr} {ifs : List Expr} {scope : Scope} {own : List (Str × Nat)} {pos spos : Pos} {fi : IF} {t : Tg} {ft : BF} {fe : EF} {fre : Nat} (hc : X.calm = true) (hN : X.N.Nodup) (hi : DI X Z false tg iter fi) (ok : BlkOk X.N X.env.scope scope own)
    (ho : t.slots.all (fun j => (own.map (·.2)).contains j) = true)
    (hg : ∀ (s : Shared) (H : Hp) (C : Addr) (cl : List (Str × Addr)) (fp : List Addr), DG (X.blk s H scope (compEnvC scope cl C X.env) fp) tg t) (ht : ∀ (s : Shared) (H : Hp) (C : Addr) (cl : List (Str × Addr)) (fp : List Addr), DTs (X.blk s H scope (compEnvC scope cl C X.env) fp) E0 ifs ft)
    (he : ∀ (s : Shared) (H : Hp) (C : Addr) (cl : List (Str × Addr)) (fp : List Addr), DE (X.blk s H scope (compEnvC scope cl C X.env) fp) E0 fre elt fe)
    (hy : X.N[i]? = some y := by rfl) (hyl : X.env.scope.names.lookup y = some .local := by rfl) (hsw : swapsWith (.ListComp elt [⟨tg, iter, ifs, 0⟩] scope pos) (some (.Name y py)) spos.line X.env = pure true := by first | rfl | exact sw_true rfl rfl rfl rfl) (hs : ∀ x, foldedSetIterable iter X.env x = pure x := by intro _; rfl) :
    DS X Z fr (.Assign [.Name y py] (.ListComp elt [⟨tg, iter, ifs, 0⟩] scope pos) spos) (sSet i (eComp fi (own.map (·.2)) t ft fe)) :=
  PS.imp (ps_setLc (g := tG X.K t) (tt := tT X.K X.mg E0 ft) (te := tD X.K X.mg E0 fre fe) hc hN hy hyl hsw hi ok hg ht he hs) fun Dn σ H h => by
  refine comp_use ho ?_
  exact tD_le (Nat.zero_le _) (set_use (t := tLc (tI X.K X.mg Z false fi) (tG X.K t) (tT X.K X.mg E0 ft) (tD X.K X.mg E0 fre fe) (own.map (·.2))) h)
end
end EV

set_option maxRecDepth 100000
noncomputable section
namespace EV
open PySem PySem.Spec PyProof.Rows L2
def inO (neg : Bool) : O2 := fun W x y => match inD W x y with | some (.bl b) => some (.bl (if neg then !b else b)) | _ => none
def rInO (X : Cx) (neg : Bool) : R2 := fun x y H Q => (∃ i j, x = .str i ∧ y = .str j ∧ Q (.bl (if neg then !(!(Builtin.Str.occurrences j i 0 j.length 1).isEmpty) else (!(Builtin.Str.occurrences j i 0 j.length 1).isEmpty))) H) ∨ (rIn X.K neg x y H Q) ∨ (∃ d ds, Dp X.K H x d ∧ Dp X.K H y (.list ds) ∧ SeqAt.shaped d = true ∧ SeqAt.shaped (.list ds) = true ∧ Q (.bl (if neg then !(ds.any fun z => PyData.eqv z d) else (ds.any fun z => PyData.eqv z d))) H)
section
variable {X : Cx} {fr k : Nat} {pos : Pos} {Z : XK} {a b c : Expr} {fa fb fc : EF} {p : Pos}
theorem sem_in (neg : Bool) : Sem2 X fr (inO neg) (rInO X neg) := sem_in0 neg
theorem hu_in (hr : Room k X.A) : X.A.units + 65 < cLine := by have := hr.un; omega
theorem op_notin_all (hr : Room k X.A) : OpR X (compareOp .NotIn) (rInO X true) := OpR.or op_notIn_str (OpR.or op_notIn_seq (op_notInD (hu_in hr)))
theorem d_add (ha : DE X Z 0 a fa) (hb : DE X Z 0 b fb) : DE X Z 1 (.BinOp a .Add b pos) (eBin addD fa fb) := d_bin opAdd sem_add ha hb
theorem d_sub (ha : DE X Z 0 a fa) (hb : DE X Z 0 b fb) : DE X Z fr (.BinOp a .Sub b pos) (eBin subD fa fb) := d_bin op_sub sem_sub ha hb
theorem d_mul (ha : DE X Z 0 a fa) (hb : DE X Z 0 b fb) : DE X Z fr (.BinOp a .Mult b pos) (eBin mulD fa fb) := d_bin op_mul sem_mul ha hb
theorem d_fdv (ha : DE X Z 0 a fa) (hb : DE X Z 0 b fb) : DE X Z fr (.BinOp a .FloorDiv b pos) (eBin fdvD fa fb) := d_bin op_fdivW sem_fdv ha hb
theorem d_mod (ha : DE X Z 0 a fa) (hb : DE X Z 0 b fb) : DE X Z fr (.BinOp a .Mod b pos) (eBin modD fa fb) := d_bin op_mod sem_mod ha hb
theorem d_pow (ha : DE X Z 0 a fa) (hb : DE X Z 0 b fb) : DE X Z fr (.BinOp a .Pow b pos) (eBin powD fa fb) := d_bin op_pow sem_pow ha hb
theorem dt_v {e : Expr} {f : EF} (h : DE X Z 0 e f) (he : ∀ whole, isTrue e X.env whole = (do let v ← whole; standAt e.pos; holding [v] (truthy v)) := by intro _; rfl) : DT X Z e (bV f) := dt_val h he
theorem d_len (hm : X.mg "len" = none) (ha : DA X Z 0 [a] [fa]) (hg : Gl X "len" := by rfl) (he : starEach [a] X.env = (false, eval a X.env) :: starEach [] X.env := by rfl) (hpl : (backTo pos (starEach [] X.env)).any (·.1) = false := by rfl) : DE X Z fr (.Call (.Name "len" p) [a] [] pos) (eFn oLen [fa]) := d_callB call_len sem_len hg hm PySem.boot_len ha (he := he) (hpl := hpl)
theorem d_list (hm : X.mg "list" = none) (ha : DA X Z 0 [a] [fa]) (hg : Gl X "list" := by rfl) (he : starEach [a] X.env = (false, eval a X.env) :: starEach [] X.env := by rfl) (hpl : (backTo pos (starEach [] X.env)).any (·.1) = false := by rfl) : DE X Z 1 (.Call (.Name "list" p) [a] [] pos) (eFn oList [fa]) := d_callTy call_list_of sem_list hg hm boot_list ha (he := he) (hpl := hpl)
end
end EV

set_option maxRecDepth 100000
noncomputable section
namespace EV
open PySem PySem.Spec PyProof.Rows L2
/-- a def that the top has written -/
structure DefIs (K : PySem.W.Frag) (mg : Str → Option Value) (x : Str) (st : Stmt) (ps : List Str) : Prop where
  ex : ∃ f fd, Fun K x x st f fd ∧ mg x = some (.ref f) ∧ Binds K fd ps []
section
variable {P : Program} {w : PySem.World} {K : PySem.W.Frag} {mg : Str → Option Value} {base h : Heap}
theorem FnF.mk' {x : Str} {st : Stmt} {N ps : List Str} {k fr n : Nat} {fb : SF} (F : DefIs K mg x st ps) (S : FnScope N ps (defScope st)) (hn : ps.length = n)
    (hbody : ∀ (f : Addr) (cdv : Value) (A : Around) (outer : List PySem.Env) (s : Shared) (H : Hp) (E : XK), Room k (A.deeper (envOfC x (defScope st) s.heap.objs.size f cdv)) → DB (cxOf (L2.CX P w) P w K mg base N x (defScope st) f cdv A outer s H E) E fr (defBody st) fb) :
    FnF P w K mg base (k + 1) x n fr (runB N.length fb) := by
  obtain ⟨f, fd, h1, h2, h3⟩ := F.ex
  exact FnF.of h1 S h2 h3 hn (hbody f)
theorem FnF.zero' {x : Str} {st : Stmt} {ps : List Str} {fr n : Nat} (F : DefIs K mg x st ps) (hn : ps.length = n) : FnF P w K mg base 0 x n fr (fun _ _ => .stuck) := by
  obtain ⟨f, fd, h1, h2, h3⟩ := F.ex
  exact FnF.zero h1 h2 h3 hn
end
end EV

set_option maxRecDepth 100000
noncomputable section
namespace EV
open PySem PySem.Spec PyProof.Rows L2
section
variable {env : Env} {W W1 W2 : World} {i j : Int} {n : Nat} {f g h : SF} {a b c : EF} {t u : BF}
@[simp] theorem eVar_ok {k : Nat} {d : D} (h : env[k]? = some (some d)) : eVar k env W = .ok d W := by unfold eVar; rw [h]
@[simp] theorem eC_ap {d : D} : eC d env W = .ok d W := id rfl
@[simp] theorem sSeq_ap : sSeq f g env W = (f env W).bind fun r W1 => match r with | .nx env' => g env' W1 | r => .ok r W1 := id rfl
@[simp] theorem sIf_ap : sIf t f g env W = (t env W).bind fun b W1 => if b then f env W1 else g env W1 := id rfl
@[simp] theorem sNil_ap : sNil env W = .ok (.nx env) W := id rfl
@[simp] theorem sRet_ap : sRet a env W = (a env W).bind fun d W1 => if isTree d then .ok (.rt d) W1 else .stuck := id rfl
@[simp] theorem sSet_ap {k : Nat} : sSet k a env W = (a env W).bind fun d W1 => if isTree d then .ok (.nx (env.set k (some d))) W1 else .stuck := id rfl
@[simp] theorem sOb_ap {k : Nat} : sOb k a env W = (a env W).bind fun d W1 => match d with | .lst xs => .ok (.nx (env.set k (some (.ob W1.length)))) (W1 ++ [.lst xs]) | _ => .stuck := id rfl
@[simp] theorem sRetOb_ap : sRetOb a env W = (a env W).bind fun d W1 => match d with | .lst xs => .ok (.rt (.ob W1.length)) (W1 ++ [.lst xs]) | _ => .stuck := id rfl
@[simp] theorem sFor_ap {it : IF} {tg : Tg} : sFor it tg f env W = (it env W).bind fun ds W1 => forGo tg f ds env W1 := id rfl
theorem sIxW_ok {k : Nat} {d : D} {m : Int} {xs ys : List D} {W3 : World} (h1 : c env W = .ok d W1) (h2 : a env W1 = .ok (.ob k) W2) (h3 : b env W2 = .ok (.int m) W3) (h4 : W3[k]? = some (.lst xs)) (h5 : isTree d = true) (h6 : ixSet xs m d = some ys) : sIxW a b c env W = .ok (.nx env) (W3.set k (.lst ys)) := by
  unfold sIxW
  rw [h1]; simp only [Res.bind_ok]
  rw [h2]; simp only [Res.bind_ok]
  rw [h3]; simp only [Res.bind_ok, h4, h5, if_true, h6]
@[simp] theorem eBin_ap {o : O2} : eBin o a b env W = (a env W).bind fun x W1 => (b env W1).bind fun y W2 => Res.ofO (o W2 x y) W2 := id rfl
@[simp] theorem eFn_ap {o : ON} {fs : List EF} : eFn o fs env W = (eArgs fs env W).bind fun ds W1 => Res.ofO (o W1 ds) W1 := id rfl
@[simp] theorem eArgs_nil : eArgs [] env W = .ok [] W := id rfl
@[simp] theorem eArgs_cons {fs : List EF} : eArgs (a :: fs) env W = (a env W).bind fun d W1 => (eArgs fs env W1).bind fun ds W2 => .ok (d :: ds) W2 := by rw [eArgs]
@[simp] theorem eLst_ap {fs : List EF} : eLst fs env W = (eArgs fs env W).bind fun ds W1 => if ds.all isTree then .ok (.lst ds) W1 else .stuck := id rfl
@[simp] theorem eCall_ap {φ : Den} {fs : List EF} : eCall φ n fs env W = (eArgs fs env W).bind fun ds W1 => if (ds.map lend).all isArg && decide (ds.length = n) then (φ (ds.map lend) W1).bind fun d W2 => if isTree d then .ok d W2 else .stuck else .stuck := id rfl
@[simp] theorem bV_ap : bV a env W = (a env W).bind fun d W1 => match d with | .bl b => .ok b W1 | _ => .stuck := id rfl
@[simp] theorem bNot_ap : bNot t env W = (t env W).bind fun b W1 => .ok (!b) W1 := id rfl
@[simp] theorem bOr_ap : bOr t u env W = (t env W).bind fun b W1 => if b then .ok true W1 else u env W1 := id rfl
@[simp] theorem eAnd_ap : eAnd a b env W = (a env W).bind fun d W1 => match d with | .bl true => b env W1 | .bl false => .ok (.bl false) W1 | _ => .stuck := id rfl
@[simp] theorem eIf_ap : eIf t a b env W = (t env W).bind fun c W1 => if c then a env W1 else b env W1 := id rfl
@[simp] theorem eIsi_ap {T : String} : eIsi T a env W = (a env W).bind fun d W1 => match d with | .ob _ => .stuck | .exn _ _ => .stuck | .fk _ => .stuck | .ft _ => .stuck | .tk _ => .stuck | d => .ok (.bl (isiD T d)) W1 := id rfl
@[simp] theorem eComp_ap {it : IF} {own : List Nat} {tg : Tg} {tst : BF} {elt : EF} : eComp it own tg tst elt env W = (it env W).bind fun ds W1 => (compGo tg tst elt (wipeE env own) ds W1).nx.bind fun rs W2 => .ok (.lst rs) W2 := id rfl
@[simp] theorem iSeq_ap {s : Bool} : iSeq s a env W = (a env W).bind fun d W1 => Res.ofO (seqI s d) W1 := id rfl
@[simp] theorem eSlc_ap {lo hi : PF} : eSlc a lo hi env W = (a env W).bind fun x W1 => (lo env W1).bind fun l W2 => (hi env W2).bind fun h W3 => Res.ofO (slcD W3 x l h) W3 := id rfl
@[simp] theorem pNone_ap : pNone env W = .ok none W := id rfl
@[simp] theorem pSome_ap : pSome a env W = (a env W).bind fun d W1 => match d with | .int i => .ok (some i) W1 | _ => .stuck := id rfl
theorem runB_ap {N : Nat} {ds : List D} : runB N f ds W = (f (ds.map some ++ List.replicate (N - ds.length) none) W).bind fun r W1 => match r with | .rt d => .ok d W1 | .nx _ => .ok .non W1 | _ => .stuck := id rfl
@[simp] theorem iRng1_ap : iRng1' a env W = (a env W).bind fun d W1 => match d with | .int n => Res.ofO (rngD 0 n) W1 | _ => .stuck := id rfl
@[simp] theorem addD_i : addD W (.int i) (.int j) = some (.int (i + j)) := id rfl
@[simp] theorem subD_i : subD W (.int i) (.int j) = some (.int (i - j)) := id rfl
@[simp] theorem ltD_i : ltD W (.int i) (.int j) = some (.bl (decide (i < j))) := id rfl
@[simp] theorem gtD_i : gtD W (.int i) (.int j) = some (.bl (decide (j < i))) := id rfl
@[simp] theorem geD_i : geD W (.int i) (.int j) = some (.bl (decide (j ≤ i))) := id rfl
@[simp] theorem modD_i (h : 0 < j) : modD W (.int i) (.int j) = some (.int (i % j)) := by unfold modD i2; simp [h, lock_eq]
theorem fdvD_w {b : Nat} (h : 0 < j) (h2 : j.natAbs < 2 ^ b) (h0 : 0 < b) (h9 : b ≤ 9000) : fdvD W (.int i) (.int j) = some (.int (i / j)) := by
  have := (wide_div (i := i) h h2 h0 h9).2
  unfold fdvD i2
  simp [h, this, lock_eq]
@[simp] theorem fdvD_i (h : 0 < j) (h2 : j < 1073741824) : fdvD W (.int i) (.int j) = some (.int (i / j)) := fdvD_w (b := 30) h (by omega) (by omega) (by omega)
theorem mulD_l (h : -(2 ^ 64) < i) (h2 : i < 2 ^ 64) : mulD W (.int i) (.int j) = some (.int (i * j)) := by
  have : (decide (-(2 ^ 64) < i ∧ i < 2 ^ 64)) = true := decide_eq_true ⟨h, h2⟩
  unfold mulD i2; simp only [lock_eq, this, Bool.true_or, if_true]
theorem mulD_r (h : -(2 ^ 64) < j) (h2 : j < 2 ^ 64) : mulD W (.int i) (.int j) = some (.int (i * j)) := by
  have : (decide (-(2 ^ 64) < j ∧ j < 2 ^ 64)) = true := decide_eq_true ⟨h, h2⟩
  unfold mulD i2; simp only [lock_eq, this, Bool.or_true, if_true]
@[simp] theorem powD_i {k : Nat} (h : k ≤ 1000000) (h2 : i.natAbs < 2 ^ 64) : powD W (.int i) (.int (k : Int)) = some (.int (i ^ k)) := by
  have : (decide (0 ≤ (k : Int) ∧ (k : Int) ≤ 1000000 ∧ i.natAbs < 2 ^ 64)) = true := decide_eq_true ⟨by omega, by omega, h2⟩
  unfold powD i2; simp only [lock_eq, this, if_true, Int.toNat_natCast]
theorem toP_int : toP (.int i) = .int i := by simp only [toP]
theorem shaped_int : SeqAt.shaped (.int i) = true := by simp [SeqAt.shaped, PyData.canLay0, PyData.depth]
theorem shaped_bl {b : Bool} : SeqAt.shaped (.bool b) = true := by simp [SeqAt.shaped, PyData.canLay0, PyData.depth]
@[simp] theorem eqD_i : eqD W (.int i) (.int j) = some (.bl (decide (i = j))) := by
  unfold eqD; rw [toP_int, toP_int, shaped_int, shaped_int]; simp [PyData.eqv]; rfl
@[simp] theorem neD_i : neD W (.int i) (.int j) = some (.bl (!decide (i = j))) := by
  unfold neD; rw [toP_int, toP_int, shaped_int, shaped_int]; simp [PyData.eqv]; rfl
@[simp] theorem eqD_b {x y : Bool} : eqD W (.bl x) (.bl y) = some (.bl (decide (x = y))) := by
  unfold eqD; simp only [toP, shaped_bl]; cases x <;> cases y <;> simp [PyData.eqv]
@[simp] theorem neD_b {x y : Bool} : neD W (.bl x) (.bl y) = some (.bl (!decide (x = y))) := by
  unfold neD; simp only [toP, shaped_bl]; cases x <;> cases y <;> simp [PyData.eqv]
@[simp] theorem oLen_tup {xs : List D} : oLen W [.tup xs] = some (.int xs.length) := id rfl
@[simp] theorem oLen_lst {xs : List D} : oLen W [.lst xs] = some (.int xs.length) := id rfl
@[simp] theorem oLen_bo {xs : List D} : oLen W [.bo xs] = some (.int xs.length) := id rfl
@[simp] theorem oLen_ow {xs : List D} : oLen W [.ow xs] = some (.int xs.length) := id rfl
@[simp] theorem oLen_ob {xs : List D} (h : W[n]? = some (.lst xs)) : oLen W [.ob n] = some (.int xs.length) := by simp [oLen, seqL, h]
@[simp] theorem idx_tup {xs : List D} : idxD W (.tup xs) (.int i) = atI xs i := id rfl
@[simp] theorem idx_lst {xs : List D} : idxD W (.lst xs) (.int i) = atI xs i := id rfl
@[simp] theorem idx_ow {xs : List D} : idxD W (.ow xs) (.int i) = atI xs i := id rfl
@[simp] theorem idx_bo {xs : List D} : idxD W (.bo xs) (.int i) = atI xs i := id rfl
@[simp] theorem idx_ob {xs : List D} (h : W[n]? = some (.lst xs)) : idxD W (.ob n) (.int i) = atI xs i := by simp [idxD, seqL, h]
@[simp] theorem setAll_nil : setAll [] [] env = some env := id rfl
@[simp] theorem setAll_cons {k : Nat} {is : List Nat} {d : D} {ds : List D} : setAll (k :: is) (d :: ds) env = if isTree d then setAll is ds (env.set k (some d)) else none := by rw [setAll]
@[simp] theorem setT_nm {k : Nat} {d : D} : setT W (.nm k) d env = if isTree d then some (env.set k (some d)) else none := by simp only [setT]
@[simp] theorem setT_tup {is : List Nat} {ds : List D} : setT W (.tup is) (.tup ds) env = setAll is ds env := id rfl
@[simp] theorem setT_lst {is : List Nat} {ds : List D} : setT W (.tup is) (.lst ds) env = setAll is ds env := id rfl
theorem rng_ok {k : Nat} (h : k ≤ LINE) : rngD 0 (k : Int) = some ((List.range k).map fun (m : Nat) => .int (m : Int)) := by
  have h' : k ≤ 16777216 := LINE_v ▸ h
  rw [rngD_def]
  rw [if_pos (by refine ⟨by omega, by omega, by omega, by omega, ?_⟩; simpa using h)]
  simp
@[simp] theorem isTree_non : isTree .non = true := id rfl
@[simp] theorem lend_non : lend .non = .non := id rfl
@[simp] theorem isArg_non : isArg .non = true := id rfl
@[simp] theorem isTree_bl {b : Bool} : isTree (.bl b) = true := id rfl
@[simp] theorem lend_bl {b : Bool} : lend (.bl b) = (.bl b) := id rfl
@[simp] theorem isArg_bl {b : Bool} : isArg (.bl b) = true := id rfl
@[simp] theorem isTree_int {i : Int} : isTree (.int i) = true := id rfl
@[simp] theorem lend_int {i : Int} : lend (.int i) = (.int i) := id rfl
@[simp] theorem isArg_int {i : Int} : isArg (.int i) = true := id rfl
@[simp] theorem isTree_str {s : Str} : isTree (.str s) = true := id rfl
@[simp] theorem lend_str {s : Str} : lend (.str s) = (.str s) := id rfl
@[simp] theorem isArg_str {s : Str} : isArg (.str s) = true := id rfl
@[simp] theorem isTree_lst {xs : List D} : isTree (.lst xs) = true := id rfl
@[simp] theorem lend_lst {xs : List D} : lend (.lst xs) = (.lst xs) := id rfl
@[simp] theorem isArg_lst {xs : List D} : isArg (.lst xs) = true := id rfl
@[simp] theorem isTree_tup {xs : List D} : isTree (.tup xs) = true := id rfl
@[simp] theorem lend_tup {xs : List D} : lend (.tup xs) = (.tup xs) := id rfl
@[simp] theorem isArg_tup {xs : List D} : isArg (.tup xs) = true := id rfl
@[simp] theorem isTree_ob {n : Nat} : isTree (.ob n) = true := id rfl
@[simp] theorem lend_ob {n : Nat} : lend (.ob n) = (.ob n) := id rfl
@[simp] theorem isArg_ob {n : Nat} : isArg (.ob n) = true := id rfl
@[simp] theorem isTree_bo {xs : List D} : isTree (.bo xs) = false := id rfl
@[simp] theorem lend_bo {xs : List D} : lend (.bo xs) = (.bo xs) := id rfl
@[simp] theorem isArg_bo {xs : List D} : isArg (.bo xs) = true := id rfl
@[simp] theorem isTree_ow {xs : List D} : isTree (.ow xs) = false := id rfl
@[simp] theorem lend_ow {xs : List D} : lend (.ow xs) = (.bo xs) := id rfl
@[simp] theorem isArg_ow {xs : List D} : isArg (.ow xs) = false := id rfl
end
end EV

set_option maxRecDepth 100000
noncomputable section
namespace EV
open PySem PySem.Spec PyProof.Rows L2
theorem seq_nx {f g : SF} {env env' : Env} {W W' : World} (h : f env W = .ok (.nx env') W') : sSeq f g env W = g env' W' := by rw [sSeq_ap, h]; rfl
theorem run_rt {f : SF} {N : Nat} {ds : List D} {W W' : World} {d : D} (h : f (ds.map some ++ List.replicate (N - ds.length) none) W = .ok (.rt d) W') : runB N f ds W = .ok d W' := by rw [runB_ap, h]; rfl
section
variable {tg : Tg} {tst : BF} {elt : EF} {body : SF} {α : Type}
theorem compGo_nil {env : Env} {W : World} : compGo tg tst elt env [] W = .ok [] W := by rw [compGo]
theorem compGo_map {env : Env} {W : World} (e g : α → D) : ∀ (xs : List α), (∀ x ∈ xs, ∃ env', setT W tg (e x) env = some env' ∧ elt env' W = .ok (g x) W ∧ isTree (g x) = true) → compGo tg bYes elt env (xs.map e) W = .ok (xs.map g) W
  | [], _ => by rw [List.map_nil, compGo_nil, List.map_nil]
  | x :: xs, h => by
    obtain ⟨env', h1, h2, h3⟩ := h x (List.mem_cons_self ..)
    rw [List.map_cons, compGo, h1]
    simp only [bYes, Res.nx_ok, Res.bind_ok, if_true, h2, h3]
    rw [compGo_map e g xs fun y hy => h y (List.mem_cons_of_mem _ hy)]
    rfl
theorem compGo_if {env : Env} {W : World} (e g : α → D) (p : α → Bool) : ∀ (xs : List α), (∀ x ∈ xs, ∃ env', setT W tg (e x) env = some env' ∧ tst env' W = .ok (p x) W ∧ (p x = true → elt env' W = .ok (g x) W ∧ isTree (g x) = true)) → compGo tg tst elt env (xs.map e) W = .ok ((xs.filter p).map g) W
  | [], _ => by rw [List.map_nil, compGo_nil]; rfl
  | x :: xs, h => by
    obtain ⟨env', h1, h2, h3⟩ := h x (List.mem_cons_self ..)
    rw [List.map_cons, compGo, h1]
    simp only [h2, Res.nx_ok, Res.bind_ok]
    have ih := compGo_if e g p xs fun y hy => h y (List.mem_cons_of_mem _ hy)
    cases hp : p x with
    | true =>
      obtain ⟨h4, h5⟩ := h3 hp
      simp only [if_true, h4, Res.nx_ok, Res.bind_ok, h5, List.filter_cons, hp]
      rw [ih]
      rfl
    | false =>
      simp only [List.filter_cons, hp, Bool.false_eq_true, if_false]
      exact ih
theorem forGo_inv (e : α → D) (I : List α → Env → World → Prop) (h : ∀ x xs env W, I (x :: xs) env W → ∃ env1 env' W', setT W tg (e x) env = some env1 ∧ body env1 W = .ok (.nx env') W' ∧ I xs env' W') : ∀ (xs : List α) (env : Env) (W : World), I xs env W →
      ∃ env' W', forGo tg body (xs.map e) env W = .ok (.nx env') W' ∧ I [] env' W'
  | [], env, W, i => ⟨env, W, by rw [List.map_nil, forGo], i⟩
  | x :: xs, env, W, i => by
    obtain ⟨env1, env', W', h1, h2, h3⟩ := h x xs env W i
    obtain ⟨env2, W2, h4, h5⟩ := forGo_inv e I h xs env' W' h3
    refine ⟨env2, W2, ?_, h5⟩
    rw [List.map_cons, forGo, h1]
    simp only [h2, Res.bind_ok, h4]
end
section
variable {α : Type}
theorem atI_at {xs : List α} {n : Nat} {x : α} {i : Int} (h : xs[n]? = some x) (e : i = (n : Int)) : atI xs i = some x := by rw [e]; exact atI_nat h
theorem atI_map {β : Type} (f : α → β) (xs : List α) {i : Int} (h0 : 0 ≤ i) (h1 : i < xs.length) : ∃ x, xs[i.toNat]? = some x ∧ atI (xs.map f) i = some (f x) := by
  have hl : i.toNat < xs.length := by omega
  refine ⟨xs[i.toNat], List.getElem?_eq_getElem hl, atI_at (n := i.toNat) ?_ (by omega)⟩
  rw [List.getElem?_map, List.getElem?_eq_getElem hl]
  rfl
end
theorem shaped_bls : ∀ bs : List Bool, PyData.canLayAll0 (toPs (bs.map D.bl)) = true ∧ PyData.depthAll (toPs (bs.map D.bl)) = 0
  | [] => by simp [toPs, PyData.canLayAll0, PyData.depthAll]
  | b :: bs => by
    obtain ⟨h1, h2⟩ := shaped_bls bs
    simp [toPs, toP, PyData.canLayAll0, PyData.depthAll, PyData.canLay0, PyData.depth, h1, h2]
theorem notin_bls {W : World} (bs : List Bool) : inO true W (.bl false) (.lst (bs.map D.bl)) = some (.bl (bs.all id)) := by
  obtain ⟨h1, h2⟩ := shaped_bls bs
  have e0 : SeqAt.shaped (.list (toPs (bs.map D.bl))) = true := by
    unfold SeqAt.shaped
    simp [PyData.canLay0, PyData.depth, h1, h2]
  have e : inD W (.bl false) (.lst (bs.map D.bl)) = some (.bl (!(bs.all id))) := by
    unfold inD
    simp only [seqL, e0]
    have : SeqAt.shaped (toP (.bl false)) = true := by simp [toP, shaped_bl]
    simp only [this, Bool.and_self, if_true, Option.some.injEq, D.bl.injEq]
    clear e0 h1 h2 this
    induction bs with
    | nil => rfl
    | cons b bs ih =>
      simp only [List.map_cons, List.any_cons, List.all_cons, ih]
      cases b <;> simp [toP, PyData.eqv]
  unfold inO
  rw [e]
  simp
end EV

set_option maxRecDepth 100000
noncomputable section
namespace EV
open PySem PySem.Spec PyProof.Rows L2
def Wp {α : Type} (r : Res α) (Q : α → World → Prop) : Prop := match r with
  | .ok a W => Q a W
  | _ => False
section
variable {α β : Type} {Q Q' : α → World → Prop} {W W0 : World} {r : Res α}
@[simp] theorem wp_ok {a : α} : Wp (.ok a W) Q = Q a W := id rfl
@[simp] theorem wp_stuck : Wp (.stuck : Res α) Q = False := id rfl
@[simp ↓] theorem wp_bind {k : α → World → Res β} {R : β → World → Prop} : Wp (r.bind k) R = Wp r (fun a W => Wp (k a W) R) := by cases r <;> rfl
@[simp] theorem wp_nx : Wp r.nx Q = Wp r Q := by cases r <;> rfl
@[simp] theorem wp_ofO {o : Option α} : Wp (Res.ofO o W) Q = (∃ a, o = some a ∧ Q a W) := by cases o <;> simp
@[simp] theorem wp_ite {c : Prop} [Decidable c] {r s : Res α} : Wp (if c then r else s) Q = if c then Wp r Q else Wp s Q := by split <;> rfl
theorem Wp.mono (h : Wp r Q) (i : ∀ a W, Q a W → Q' a W) : Wp r Q' := by cases r <;> first | exact i _ _ h | exact h
theorem Wp.eq {a : α} (h : Wp r fun b W => b = a ∧ W = W0) : r = .ok a W0 := by
  cases r with
  | ok b W => obtain ⟨rfl, rfl⟩ := h; rfl
  | exc _ _ => exact h.elim
  | stuck => exact h.elim
theorem Wp.of {a : α} (h : r = .ok a W) (q : Q a W) : Wp r Q := by rw [h]; exact q
theorem Wp.ex (h : Wp r Q) : ∃ a W, r = .ok a W ∧ Q a W := by
  cases r with
  | ok b W => exact ⟨b, W, rfl, h⟩
  | exc _ _ => exact h.elim
  | stuck => exact h.elim
end
def kSeq (g : SF) (Q : Fl → World → Prop) : Fl → World → Prop
  | .nx e, W => Wp (g e W) Q
  | .rt d, W => Q (.rt d) W
  | .bk e, W => Q (.bk e) W
  | .ct e, W => Q (.ct e) W
def kRun (Q : D → World → Prop) : Fl → World → Prop
  | .nx _, W => Q .non W
  | .rt d, W => Q d W
  | _, _ => False
def kTurn (I : Env → World → Prop) (Q : Fl → World → Prop) : Fl → World → Prop
  | .nx e, W => I e W
  | .ct e, W => I e W
  | .bk e, W => Q (.nx e) W
  | .rt d, W => Q (.rt d) W
section
variable {Q : Fl → World → Prop} {R : D → World → Prop} {I : Env → World → Prop} {f g : SF} {env e : Env} {W : World} {d : D} {N : Nat} {ds : List D}
@[simp] theorem kSeq_nx : kSeq g Q (.nx e) W = Wp (g e W) Q := id rfl
@[simp] theorem kSeq_rt : kSeq g Q (.rt d) W = Q (.rt d) W := id rfl
@[simp] theorem kSeq_ct : kSeq g Q (.ct e) W = Q (.ct e) W := id rfl
@[simp] theorem kSeq_bk : kSeq g Q (.bk e) W = Q (.bk e) W := id rfl
@[simp] theorem kRun_nx : kRun R (.nx e) W = R .non W := id rfl
@[simp] theorem kRun_rt : kRun R (.rt d) W = R d W := id rfl
@[simp] theorem kTurn_nx : kTurn I Q (.nx e) W = I e W := id rfl
@[simp] theorem kTurn_ct : kTurn I Q (.ct e) W = I e W := id rfl
@[simp] theorem kTurn_bk : kTurn I Q (.bk e) W = Q (.nx e) W := id rfl
@[simp] theorem kTurn_rt : kTurn I Q (.rt d) W = Q (.rt d) W := id rfl
@[simp ↓] theorem wp_seq : Wp (sSeq f g env W) Q = Wp (f env W) (kSeq g Q) := by
  rw [sSeq_ap, wp_bind]
  congr 1
  funext r W1
  cases r <;> rfl
@[simp] theorem wp_ix {j : Nat} {a b : EF} {xs : List D} (h : env[j]? = some (some (.ow xs))) : Wp (sIx j a b env W) Q = Wp (b env W) (fun d W1 => Wp (a env W1) fun k W2 => ∃ i ys, k = .int i ∧ isTree d = true ∧ ixSet xs i d = some ys ∧ Q (.nx (env.set j (some (.ow ys)))) W2) := by
  unfold sIx
  rw [wp_bind]
  congr 1
  funext d W1
  rw [h]
  dsimp only
  rw [wp_bind]
  congr 1
  funext k W2
  cases k with
  | int i =>
    cases ht : isTree d with
    | true => cases hx : ixSet xs i d <;> simp [hx]
    | false => simp
  | _ => simp
theorem wp_run : Wp (runB N f ds W) R = Wp (f (ds.map some ++ List.replicate (N - ds.length) none) W) (kRun R) := by
  rw [runB_ap, wp_bind]
  congr 1
  funext r W1
  cases r <;> rfl
theorem Wp.run (h : Wp (f (ds.map some ++ List.replicate (N - ds.length) none) W) (kRun fun b W1 => b = d ∧ W1 = W)) : runB N f ds W = .ok d W := Wp.eq (by rw [wp_run]; exact h)
theorem Wp.forGo {α : Type} {tg : Tg} {body : SF} (e : α → D) (I : List α → Env → World → Prop) {xs : List α} (h0 : I xs env W)
    (hs : ∀ x xs env W, I (x :: xs) env W → match setT W tg (e x) env with | some env1 => Wp (body env1 W) (kTurn (I xs) Q) | none => False)
    (hq : ∀ env W, I [] env W → Q (.nx env) W) : Wp (forGo tg body (xs.map e) env W) Q := by
  induction xs generalizing env W with
  | nil => rw [List.map_nil, EV.forGo]; exact hq env W h0
  | cons x xs ih =>
    have h := hs x xs env W h0
    rw [List.map_cons, EV.forGo]
    revert h
    cases setT W tg (e x) env with
    | none => exact fun h => h.elim
    | some env1 =>
      intro h
      dsimp only at h ⊢
      rw [wp_bind]
      refine h.mono fun r W1 hr => ?_
      cases r with
      | nx e => exact ih hr
      | ct e => exact ih hr
      | bk e => exact hr
      | rt d => exact hr
end
section
variable {α : Type} {W : World} {env : Env} {tst : BF} {elt : EF}
end
end EV

set_option maxRecDepth 100000
noncomputable section
namespace EV
open PySem PySem.Spec PyProof.Rows L2
section
variable {P : Program} {w : PySem.World} {A : Around} {E : Value → Shared → Prop} {s : Shared}
set_option maxRecDepth 100000 in
set_option maxHeartbeats 3200000 in
end
end EV

set_option maxRecDepth 100000
noncomputable section
namespace EV
open PySem PySem.Spec PyProof.Rows L2
section
variable {X : Cx} {Z : XK} {fr : Nat} {pos : Pos} {a : Expr} {fa : EF}
end
end EV

set_option maxRecDepth 100000
noncomputable section
namespace EV
open PySem PySem.Spec PyProof.Rows L2
section
variable {K : PySem.W.Frag} {A A0 A1 : List Addr} {G G0 G1 H H0 H1 : Hp} {env : Env} {σ : L2.St} {W : World}
end
section
variable {X : Cx} {Z : XK} {fr : Nat} {pos : Pos} {a b e i : Expr} {fa fb fe fi : EF}
end
end EV

set_option maxRecDepth 100000
noncomputable section
namespace EV
open PySem PySem.Spec PyProof.Rows L2
section
variable {X : Cx} {Z : XK} {fr : Nat} {pos : Pos} {a b e i : Expr} {fa fb fe fi : EF}
end
end EV

set_option maxRecDepth 100000
noncomputable section
namespace EV
open PySem PySem.Spec PyProof.Rows L2
section
variable {prog : Program} {w : PySem.World} {A : Around} {R : Result → Shared → Prop} {I : Addr} {fp wr : List Addr} {n : Nat} {P : Nat → Value → Prop} {St : Nat → Heap → Prop}
end
end EV

set_option maxRecDepth 100000
noncomputable section
namespace EV
open PySem PySem.Spec PyProof.Rows L2
section
variable {A : Around} {s : Shared}
end
section
variable {X : Cx}
end
section
variable {X : Cx} {Z : XK} {fr : Nat} {pos : Pos} {a : Expr} {fa : EF}
end
end EV

set_option maxRecDepth 100000
noncomputable section
namespace EV
open PySem PySem.Spec PyProof.Rows L2
section
open PySem.AutoSeq1 (wpAny_loadPart')
end
section
variable {prog : Program} {w : PySem.World} {A : Around} {E : Value → Shared → Prop} {s : Shared}
end
section
variable {X : Cx} {Z : XK} {pos : Pos} {a : Expr} {fa : EF}
end
end EV

set_option maxRecDepth 100000
noncomputable section
namespace EV
open PySem PySem.Spec PyProof.Rows L2
section
variable {X : Cx} {Z : XK} {fr : Nat} {pos : Pos} {a e : Expr} {fa fe : EF}
end
def flatD1 : D → Bool
  | .non => true
  | .bl _ => true
  | .int _ => true
  | .str _ => true
  | .ob _ => true
  | _ => false
def flatW (W : World) : Bool := W.all fun o => match o with | .lst xs => xs.all flatD1 | .ins _ _ => false | .dct _ => false
section
variable {K : PySem.W.Frag} {A A0 A1 A2 : List Addr} {G G0 G1 G2 H H0 H1 H2 : Hp} {env : Env} {σ : L2.St} {W : World}
theorem Is.flat1 {v : V} {d : D} (h : Is K A G v d) (f : flatD1 d = true) (G' : Hp) : Is K A G' v d := by
  cases h with
  | non => exact .non
  | bl b => exact .bl b
  | int i => exact .int i
  | str x => exact .str x
  | ob e => exact .ob e
  | exn _ _ _ => cases f
  | fk _ _ _ _ => cases f
  | ft _ _ _ _ => cases f
  | tk _ _ => cases f
  | lst _ _ _ => cases f
  | tup _ _ _ => cases f
theorem IsAll.flat1 (G' : Hp) : ∀ {vs : List V} {ds : List D}, IsAll K A G vs ds → ds.all flatD1 = true → IsAll K A G' vs ds
  | _, _, .nil, _ => .nil
  | _, _, .cons h t, f => by
    rw [List.all_cons, Bool.and_eq_true] at f
    exact .cons (h.flat1 f.1 G') (IsAll.flat1 G' t f.2)
/-- what was frozen since is forgotten: the world is flat -/
theorem GS.back (g : GS K A2 G2 H2 W) (s : Same G G2) (f : flatW W = true) : GS K A2 G H2 W where
  sub := s.trans g.sub
  nd := g.nd
  out := fun a h => by
    cases q : G a with
    | none => rfl
    | some o => have := s a o q; rw [g.out a h] at this; cases this
  len := g.len
  obj := fun n a o h1 h2 => by
    have w := g.obj n a o h1 h2
    have ff := List.all_eq_true.mp f o (List.mem_of_getElem? h2)
    cases o with
    | lst xs =>
      obtain ⟨vs, e, l, il⟩ := w
      exact ⟨vs, e, l, il.flat1 G ff⟩
    | ins c fs => cases ff
    | dct _ => cases ff
theorem Ext.back (x : Ext A G H A2 G2 H2) : Ext A G H A2 G H2 where
  pre := x.pre
  gs := Same.refl _
  keep := x.keep
  newG := fun a o h => .inl h
  newA := x.newA
  there := x.there
end
section
variable {X : Cx} {Z : XK} {fr : Nat} {pos pos2 pos3 pos4 : Pos} {fe : EF} {fc : BF} {e c : Expr}
end
end EV

set_option maxRecDepth 100000
noncomputable section
namespace EV
open PySem PySem.Spec PyProof.Rows L2
mutual
def noLst : D → Bool
  | .non => true
  | .bl _ => true
  | .int _ => true
  | .str _ => true
  | .tup xs => noLsts xs
  | _ => false
def noLsts : List D → Bool
  | [] => true
  | d :: ds => noLst d && noLsts ds
end
/-- the frozen objects but lists -/
def tupG (G : Hp) : Hp := fun a => match G a with
  | some (.lst _) => none
  | o => o
section
variable {K : PySem.W.Frag} {A A1 A2 : List Addr} {G G1 G2 H H1 H2 H0 : Hp} {W : World}
theorem sqT_tupG {a : Addr} {xs : List V} (h : SqT K G a xs) : SqT K (tupG G) a xs := by
  rcases h with (h | ⟨o, h⟩) | h
  · exact .inl (.inl (by unfold tupG; rw [h]))
  · exact .inl (.inr ⟨o, by unfold tupG; rw [h]⟩)
  · exact .inr h
mutual
theorem Is.noL : ∀ {v : V} {d : D}, Is K A G v d → noLst d = true → Is K A (tupG G) v d
  | _, _, .non, _ => .non
  | _, _, .bl b, _ => .bl b
  | _, _, .int i, _ => .int i
  | _, _, .str x, _ => .str x
  | _, _, .lst h l s, c => by simp only [noLst] at c; cases c
  | _, _, .tup h l s, c => .tup (sqT_tupG h) l (IsAll.noL s (by simpa only [noLst] using c))
  | _, _, .ob h, c => by simp only [noLst] at c; cases c
  | _, _, .exn _ _ _, c => by simp only [noLst] at c; cases c
  | _, _, .fk _ _ _ _, c => by simp only [noLst] at c; cases c
  | _, _, .ft _ _ _ _, c => by simp only [noLst] at c; cases c
  | _, _, .tk _ _, c => by simp only [noLst] at c; cases c
theorem IsAll.noL : ∀ {vs : List V} {ds : List D}, IsAll K A G vs ds → noLsts ds = true → IsAll K A (tupG G) vs ds
  | _, _, .nil, _ => .nil
  | _, _, .cons h t, c => by
    simp only [noLsts, Bool.and_eq_true] at c
    exact .cons (Is.noL h c.1) (IsAll.noL t c.2)
end
theorem noLst_tree {d : D} (h : noLst d = true) : isTree d = true := by
  cases d <;> first | rfl | (simp only [noLst] at h; cases h)
theorem SAll.noL : ∀ {vs : List V} {ds : List D}, SAll K H0 A G H vs ds → noLsts ds = true → SAll K H A (tupG G) H vs ds
  | _, _, .nil, _ => .nil
  | _, _, .cons h t, c => by
    simp only [noLsts, Bool.and_eq_true] at c
    exact .cons (.of ((SIs.is h (noLst_tree c.1)).noL c.1)) (SAll.noL t c.2)
end
section
variable {X : Cx} {Z : XK} {pos : Pos} {e : Expr} {es : List Expr} {fs : List EF} {k n : Nat} {φ : Den}
end
section
variable {X : Cx} {Z : XK} {fr : Nat} {pos : Pos} {fe : EF} {fc : BF} {e c : Expr}
end
end EV

set_option maxRecDepth 100000
noncomputable section
namespace EV
open PySem PySem.Spec PyProof.Rows L2
theorem Rel.updO {K : PySem.W.Frag} {H0 H G : Hp} {A : List Addr} {env : Env} {σ : L2.St} {D : Addr} {o : HO} (R : Rel K H0 A G env σ H) (D0 : H0 D = none) (hd : ∀ k : Nat, σ[k]? = some (some (V.ref D)) → ∀ d, env[k]? = some (some d) → isOwn d = false) : Rel K H0 A G env σ (upd H D o) where
  len := R.len
  own := R.own
  slot := fun k d hk => by
    obtain ⟨v, h1, h2⟩ := R.slot k d hk
    refine ⟨v, h1, ?_⟩
    cases d with
    | ow zs =>
      obtain ⟨q, us, rfl, hq, a⟩ := h2
      have ne : q ≠ D := fun z => by subst z; exact Bool.noConfusion (hd k h1 _ hk)
      exact ⟨q, us, rfl, by rw [upd_ne ne]; exact hq, a⟩
    | od zs =>
      obtain ⟨q, us, rfl, hq, a⟩ := h2
      have ne : q ≠ D := fun z => by subst z; exact Bool.noConfusion (hd k h1 _ hk)
      exact ⟨q, us, rfl, by rw [upd_ne ne]; exact hq, a⟩
    | ot zs =>
      obtain ⟨q, us, rfl, hq, a⟩ := h2
      have ne : q ≠ D := fun z => by subst z; exact Bool.noConfusion (hd k h1 _ hk)
      exact ⟨q, us, rfl, by rw [upd_ne ne]; exact hq, a⟩
    | bo zs =>
      obtain ⟨q, us, rfl, l', i', hq⟩ := h2
      refine ⟨q, us, rfl, l', i', ?_⟩
      rcases hq with ⟨qA, hq, hq0⟩ | hq
      · have ne : q ≠ D := fun z => by
          subst z
          rcases hq0 with z | ⟨o, z⟩
          · rw [D0] at z; cases z
          · rw [D0] at z; cases z
        refine .inl ⟨qA, ?_, hq0⟩
        rcases hq with hq | ⟨o, hq⟩
        · exact .inl (by rw [upd_ne ne]; exact hq)
        · exact .inr ⟨o, by rw [upd_ne ne]; exact hq⟩
      · exact .inr hq
    | _ => exact h2
theorem Rel.frz {K : PySem.W.Frag} {H0 H G : Hp} {A : List Addr} {env : Env} {σ : L2.St} {D : Addr} {o : HO} (R : Rel K H0 A G env σ H) (G0 : G D = none) (hd : ∀ k : Nat, σ[k]? = some (some (V.ref D)) → ∀ d, env[k]? = some (some d) → isOwn d = false) : Rel K H0 A (upd G D o) env σ H where
  len := R.len
  own := R.own
  slot := fun k d hk => by
    have sm : Same G (upd G D o) := fun b u h => by rw [upd_ne (ne_of_none h G0)]; exact h
    obtain ⟨v, h1, h2⟩ := R.slot k d hk
    refine ⟨v, h1, ?_⟩
    cases d with
    | ow zs =>
      obtain ⟨q, us, rfl, hq, l, il, qA, qG, q0⟩ := h2
      have ne : q ≠ D := fun z => by subst z; exact Bool.noConfusion (hd k h1 _ hk)
      exact ⟨q, us, rfl, hq, l, il.mono (List.prefix_refl _) sm, qA, by rw [upd_ne ne]; exact qG, q0⟩
    | od zs =>
      obtain ⟨q, us, rfl, hq, l, il, qA, qG, q0⟩ := h2
      have ne : q ≠ D := fun z => by subst z; exact Bool.noConfusion (hd k h1 _ hk)
      exact ⟨q, us, rfl, hq, l, il.mono (List.prefix_refl _) sm, qA, by rw [upd_ne ne]; exact qG, q0⟩
    | ot zs =>
      obtain ⟨q, us, rfl, hq, l, il, qA, qG, q0⟩ := h2
      have ne : q ≠ D := fun z => by subst z; exact Bool.noConfusion (hd k h1 _ hk)
      exact ⟨q, us, rfl, hq, l, il.mono (List.prefix_refl _) sm, qA, by rw [upd_ne ne]; exact qG, q0⟩
    | bo zs =>
      obtain ⟨q, us, rfl, l', i', hq⟩ := h2
      exact ⟨q, us, rfl, l', i'.mono (List.prefix_refl _) sm, hq⟩
    | _ => exact Is.mono (List.prefix_refl _) sm h2
section
variable {X : Cx} {Z : XK} {fr : Nat}
end
end EV

set_option maxRecDepth 100000
noncomputable section
namespace EV
open PySem PySem.Spec PyProof.Rows L2
section
variable {prog : Program} {w : PySem.World} {A : Around} {E : Value → Shared → Prop} {s : Shared}
end
section
variable {X : Cx} {Z : XK} {pos : Pos} {a b : Expr} {fa fb : EF}
end
end EV

set_option maxRecDepth 100000
noncomputable section
namespace EV
open PySem PySem.Spec PyProof.Rows L2
section
open Srt SrtO
variable {prog : Program} {w : PySem.World} {A : Around} {E : Value → Shared → Prop} {s : Shared}
end
section
variable {prog : Program} {w : PySem.World} {A : Around} {E : Value → Shared → Prop} {s : Shared}
end
section
variable {X : Cx} {Z : XK} {fr : Nat} {pos : Pos} {a : Expr} {fa : EF}
end
end EV

set_option maxRecDepth 100000
noncomputable section
namespace EV
open PySem PySem.Spec PyProof.Rows L2
section
variable {X : Cx} {Z : XK} {fr : Nat} {pos : Pos} {a : Expr} {fa : EF}
end
section
variable {X : Cx} {Z : XK} {fr : Nat} {pos : Pos} {a b : Expr} {fa fb : EF}
end
end EV

set_option maxRecDepth 100000
noncomputable section
namespace EV
open PySem PySem.Spec PyProof.Rows L2
/-- what the written part says of an exception class at C: how its instances are read -/
def xcB (K : PySem.W.Frag) (C : Addr) : Bool :=
  decide (PySem.W.findIn K (.ref C) "__getattribute__" = some (some (.builtin "BaseException.__getattribute__"))) && (decide (PySem.W.findIn K (.ref C) "__getattr__" = some none) &&
  (decide (PySem.W.subIn K (.ref C) (.type "BaseException") = some true) && (PySem.W.hasDictIn K C && (decide (PySem.W.findIn K (.ref C) "__class__" = some (some (.builtin "object.__class__"))) &&
  (decide (PySem.W.mroIn K C (.type "object") = some true) && (decide (PySem.W.findIn K (.ref C) "place" = some none) && (PySem.W.keepIn K (.ref C) && (decide (PySem.W.typeIn K (.ref C) = some (.type "type")) && (PySem.W.clsIn K C).isSome))))))))
structure XcC (K : PySem.W.Frag) (C : Addr) : Prop where
  ga : PySem.W.findIn K (.ref C) "__getattribute__" = some (some (.builtin "BaseException.__getattribute__"))
  gg : PySem.W.findIn K (.ref C) "__getattr__" = some none
  exC : PySem.W.subIn K (.ref C) (.type "BaseException") = some true
  hdC : PySem.W.hasDictIn K C = true
  ha : PySem.W.findIn K (.ref C) "__class__" = some (some (.builtin "object.__class__"))
  hm : PySem.W.mroIn K C (.type "object") = some true
  np : PySem.W.findIn K (.ref C) "place" = some none
  kC : PySem.W.keepIn K (.ref C) = true
  tC : PySem.W.typeIn K (.ref C) = some (.type "type")
  cl : (PySem.W.clsIn K C).isSome = true
theorem xcB_ok {K : PySem.W.Frag} {C : Addr} (h : xcB K C = true) : XcC K C := by
  unfold xcB at h
  simp only [Bool.and_eq_true, decide_eq_true_eq] at h
  obtain ⟨h1, h2, h3, h4, h5, h6, h7, h8, h9, h10⟩ := h
  exact ⟨h1, h2, h3, h4, h5, h6, h7, h8, h9, h10⟩
/-- the program's exception classes, and how they stand to one another; L is LotError's -/
def excsB (K : PySem.W.Frag) (L : Addr) (cs : List (Str × Addr)) : Bool :=
  decide (PySem.W.specialIn K (.builtin "object.__class__") "__get__" = some (some (.builtin "getset_descriptor.__get__"))) && (decide (PySem.W.takesIn K (.builtin "object.__class__") = some true) &&
  cs.all fun p => xcB K p.2 && (decide (PySem.W.exmOne K (.ref p.2) (.ref L) = some true) && (decide (PySem.W.kitOne K (.ref p.2) (.ref L) = some true) && (decide (PySem.W.kitOne K (.ref p.2) (.type "ValueError") = some true) &&
    cs.all fun q => decide (PySem.W.kitOne K (.ref p.2) (.ref q.2) = some (p.1 == q.1))))))
structure Excs (K : PySem.W.Frag) (mg : Str → Option Value) (L : Addr) (cs : List (Str × Addr)) : Prop where
  ns : ∀ p, p ∈ cs → CIs K p.1 p.2
  gl : ∀ p, p ∈ cs → mg p.1 = some (.ref p.2)
  lot : mg "LotError" = some (.ref L)
  ok : excsB K L cs = true
section
variable {K : PySem.W.Frag} {mg : Str → Option Value} {L C D : Addr} {cs : List (Str × Addr)} {c d : Str}
theorem Excs.cls (x : Excs K mg L cs) (h : (c, C) ∈ cs) : XcC K C := by
  have q := x.ok
  unfold excsB at q
  simp only [Bool.and_eq_true, decide_eq_true_eq] at q
  have z := List.all_eq_true.mp q.2.2 _ h
  simp only [Bool.and_eq_true] at z
  exact xcB_ok z.1
theorem Excs.gt (x : Excs K mg L cs) : PySem.W.specialIn K (.builtin "object.__class__") "__get__" = some (some (.builtin "getset_descriptor.__get__")) := by
  have q := x.ok
  unfold excsB at q
  simp only [Bool.and_eq_true, decide_eq_true_eq] at q
  exact q.1
theorem Excs.tk (x : Excs K mg L cs) : PySem.W.takesIn K (.builtin "object.__class__") = some true := by
  have q := x.ok
  unfold excsB at q
  simp only [Bool.and_eq_true, decide_eq_true_eq] at q
  exact q.2.1
theorem Excs.rel (x : Excs K mg L cs) (h : (c, C) ∈ cs) : PySem.W.exmOne K (.ref C) (.ref L) = some true ∧ PySem.W.kitOne K (.ref C) (.ref L) = some true ∧ PySem.W.kitOne K (.ref C) (.type "ValueError") = some true ∧
    ∀ d D, (d, D) ∈ cs → PySem.W.kitOne K (.ref C) (.ref D) = some (c == d) := by
  have q := x.ok
  unfold excsB at q
  simp only [Bool.and_eq_true, decide_eq_true_eq] at q
  have z := List.all_eq_true.mp q.2.2 _ h
  simp only [Bool.and_eq_true, decide_eq_true_eq] at z
  obtain ⟨_, z1, z2, z3, z4⟩ := z
  refine ⟨z1, z2, z3, fun d D hd => ?_⟩
  have y := List.all_eq_true.mp z4 _ hd
  simpa using y
theorem cIs_eq {C D : Addr} (h : CIs K c C) (h' : CIs K c D) : C = D := by
  unfold CIs at h h'
  rw [h] at h'
  cases h'
  rfl
theorem mem_names {c : Str} (h : c ∈ cs.map (·.1)) : ∃ C, (c, C) ∈ cs := by
  obtain ⟨⟨c', C⟩, h1, h2⟩ := List.mem_map.mp h
  cases h2
  exact ⟨C, h1⟩
end

def exT_at {P : Program} {w : PySem.World} {H : Hp} {h : Heap} {a : Addr} {cls : Value} {d : Option Addr} (k : HOk P w H h) (e : H a = some (ExT cls d a)) : ∃ (oe : Obj) (vs : Array Value), h.get? a = some oe ∧ Zc cls d oe ∧ oe.data = .fields vs := by
  have x : ObjOk P w H h a (.ext fun h => ∃ (oe : Obj) (vs : Array Value), h.get? a = some oe ∧ Zc cls d oe ∧ oe.data = .fields vs) := k a _ e
  exact x.1
/-- the instance as the library reads it -/
theorem exT_inst {X : Cx} {pins : List (Addr × Obj)} {σ : L2.St} {H : Hp} {s : Shared} {a C : Addr} {dd : Option Addr} {p : Option Int} (I : Inv X pins σ H s) (e : H a = some (ExT (.ref C) dd a)) (x : XdIs H dd p) :
    ∃ ox od, PySem.W.InstAt s.heap a ox C od ∧ ∀ i, p = some i → ∃ o u, od = some o ∧ PySem.W.lookIn "place" o = some (some u) ∧ RelV (.int i) u := by
  obtain ⟨oe, vs, h1, h2, h3⟩ := exT_at I.hok e
  have no : PySem.W.notCls oe = true := by unfold PySem.W.notCls; rw [h3] <;> rfl
  cases p with
  | none =>
    have e0 : dd = none := x
    subst e0
    exact ⟨oe, none, ⟨h1, h2.1, no, by rw [h2.2]; exact True.intro⟩, fun i z => by cases z⟩
  | some i =>
    obtain ⟨dp, rfl, hd⟩ := x
    have hx : ObjOk X.prog X.w H s.heap dp (.xd [("place", .int i)]) := I.hok dp _ hd
    obtain ⟨mA, hns, hr⟩ := hx
    obtain ⟨od, ho, hl⟩ := lookIn_ns hns
    have l : List.lookup ("place" : Str) [(("place" : Str), V.int i)] = some (.int i) := by simp [List.lookup]
    obtain ⟨u, hu, ru⟩ := RelO.some_of (v := .int i) (o := mA "place") (by rw [← l]; exact hr "place")
    refine ⟨oe, some od, ⟨h1, h2.1, no, by rw [h2.2]; exact ho⟩, fun j z => ?_⟩
    cases z
    exact ⟨od, u, rfl, by rw [hl, hu], ru⟩
/-- isinstance(x, c): x a known exception -/
def rIsX (K : PySem.W.Frag) : List V → Hp → VK → Prop := fun xs H Q => ∃ (a C : Addr) (dd : Option Addr) (p : Option Int) (c : V) (u : Value) (b : Bool), xs = [.ref a, c] ∧ H a = some (ExT (.ref C) dd a) ∧ XdIs H dd p ∧ XcC K C ∧ ClsV c u ∧ PySem.W.kitOne K (.ref C) u = some b ∧
  PySem.W.specialIn K (.builtin "object.__class__") "__get__" = some (some (.builtin "getset_descriptor.__get__")) ∧ PySem.W.takesIn K (.builtin "object.__class__") = some true ∧ Q (.bl b) H
theorem call_isX {X : Cx} : CallR X (.builtin "isinstance") (rIsX X.K) := by
  intro pins s σ H xs us Q I r h
  obtain ⟨a, C, dd, p, c, u, b, rfl, e, hx, T, k, hb, hn, ht, q⟩ := h
  obtain ⟨u1, u2, rfl, r1, r2⟩ := vals2 r
  have e2 := k.eq r2
  subst e2
  obtain rfl : u1 = Value.ref a := r1
  obtain ⟨ox, od, J, _⟩ := exT_inst I e hx
  exact PySem.W.kia_one (PySem.W.kitx_exc T.cl T.ga T.gg T.exC T.ha hn ht T.hm) I.kIn J hb (fun z => nomatch z) fun tk => ⟨.bl b, H, I.tok tk, rfl, q⟩
section
variable {X : Cx} {Z : XK} {fr : Nat} {pos : Pos} {a : Expr} {fa : EF} {L : Addr} {cs : List (Str × Addr)}
theorem XdIs.sub {G H : Hp} {dd : Option Addr} {p : Option Int} (s : Same G H) (h : XdIs G dd p) : XdIs H dd p := h.mono s
end
end EV

set_option maxRecDepth 100000
noncomputable section
namespace EV
open PySem PySem.Spec PyProof.Rows L2
def tPl (K : PySem.W.Frag) (te : TE) : TE := fun σ H Q => te σ H fun x H1 => ∃ (a C : Addr) (dd : Option Addr) (i : Int), x = .ref a ∧ H1 a = some (ExT (.ref C) dd a) ∧ XdIs H1 dd (some i) ∧ XcC K C ∧ Q (.int i) H1
theorem pe_pl {X : Cx} {e : Expr} {te : TE} {pos : Pos} (he : PE X e te) (hb : attributeBase e "place" X.env (eval e X.env) = eval e X.env := by rfl) : PE X (.Attribute e "place" pos) (tPl X.K te) := by
  refine ⟨fun pins s σ H Q I h => ?_⟩
  refine attr_of hb (thn (he.run pins s σ H _ I h) fun u s1 hh => ?_)
  obtain ⟨x, H1, I1, rx, a, C, dd, i, rfl, ea, ed, T, q⟩ := hh
  obtain rfl : u = Value.ref a := rx
  obtain ⟨ox, od, J, hj⟩ := exT_inst I1 ea ed
  obtain ⟨o, u, rfl, hl, ru⟩ := hj i rfl
  exact HandSPX.exc_get I1.kIn J T.ga T.gg T.exC (PySem.W.findObj_own T.hdC T.np rfl hl) (handed_of ru) ⟨.int i, H1, I1.tok _, ru, q⟩
def ePlace (ns : List Str) (f : EF) : EF := fun env W => (f env W).bind fun d W1 => match d with
  | .exn c (some i) => if c ∈ ns then .ok (.int i) W1 else .stuck
  | _ => .stuck
section
variable {X : Cx} {Z : XK} {fr : Nat} {pos : Pos} {a : Expr} {fa : EF} {L : Addr} {cs : List (Str × Addr)}
theorem d_place (T : Excs X.K X.mg L cs) (ha : DE X Z 0 a fa) (hb : attributeBase a "place" X.env (eval a X.env) = eval a X.env := by rfl) : DE X Z fr (.Attribute a "place" pos) (ePlace (cs.map (·.1)) fa) := PE.imp (pe_pl ha hb) fun σ H Q h => by
  obtain ⟨H0, A, G, env, W, g, R, o⟩ := h
  refine tD_of0 (Ext.refl _ _ _) g R o fun d W1 v A1 G1 H1 g1 _ x1 R1 s1 o1 => ?_
  cases d with
  | exn c p =>
    cases p with
    | none => exact o1.elim
    | some i =>
      by_cases hm : c ∈ cs.map (·.1)
      · simp only [if_pos hm] at o1
        obtain ⟨C', hC'⟩ := mem_names hm
        cases SIs.is s1 rfl with
        | exn h1 h2 h3 =>
          have e := cIs_eq h1 (T.ns _ hC')
          subst e
          exact ⟨_, _, _, i, rfl, g1.sub _ _ h2, h3.sub g1.sub, T.cls hC', o1.int x1 g1⟩
      · simp only [if_neg hm] at o1; exact o1.elim
  | _ => exact o1.elim
end

section
variable {X : Cx} {Z : XK} {fr : Nat} {pos pos' p p2 : Pos} {L C : Addr} {cs : List (Str × Addr)}
end

/-- LotError.__init__(self, ..): nothing of it is told -/
theorem pe_otherinit {X : Cx} {e : Expr} {es : List Expr} {ta : TA} {p1 p2 pos : Pos} {L : Addr} {mc : Value} {x : Str} (hg : Gl X x) (hm : X.mg x = some (.ref L))
    (gL : PySem.W.specialIn X.K (.ref L) "__getattribute__" = some (some (.builtin "type.__getattribute__"))) (rL : PySem.W.readsIn X.K L mc = true) (vL : PySem.W.findCls X.K (.ref L) mc "__init__" = some (.val (.builtin "ValueError.__init__"))) (ha : PA X (e :: es) ta)
    (hdb : (x == ("__debug__" : Str)) = false := by decide)
    {pl : Sem Bool} (hc : eval (.Call (.Attribute (.Name x p1) "__init__" p2) (e :: es) [] pos) X.env = (do
      let ov ← eval (.Name x p1) X.env
      standAt p2.atName
      let (f, first) ← holding [ov] (getMethod ov "__init__" pl)
      callWith pos f first (backTo pos (starEach (e :: es) X.env)) (backToKw pos (keywordEach [] X.env))) := by rfl)
    (he : starEach (e :: es) X.env = (false, eval e X.env) :: starEach es X.env := by rfl) (hpl : (backTo pos (starEach es X.env)).any (·.1) = false := by rfl) :
    PE X (.Call (.Attribute (.Name x p1) "__init__" p2) (e :: es) [] pos) (tVeI X.K ta) := by
  refine ⟨fun pins s σ H Q I h => ?_⟩
  refine PySem.W.methodCall_KW (ld_glob I hg hm ?_ hdb) hc
  refine PySem.W.method_cls I.kIn gL (PySem.W.cls_value I.kIn rL vL (by rfl) ?_)
  show wpAny _ _ (callWith pos (Value.builtin "ValueError.__init__") [] (backTo pos (starEach (e :: es) X.env)) []) _ _ _
  refine PyProof.Rows.callWith_method1 (thn (ha.run pos pins _ σ H _ (I.tok _) h) fun us s1 ⟨vs, H1, I1, r1, a, C, ws, ev, hl, T, ea, q⟩ => ?_) he hpl
  subst ev
  cases r1 with
  | @cons _ u0 _ ur ra rw' =>
    obtain rfl : u0 = Value.ref a := ra
    have hlen : ur.length ≤ sizeLine := by
      rw [← Paired.length rw', sizeLine_eq]
      omega
    exact oinit_ok T I1 ea hlen fun s' J => ⟨.non, H1, J, rfl, q⟩
/-- what C.__init__(self, place) does -/
def spIni (K : PySem.W.Frag) (C : Addr) : Sp := fun vs H Q _ => ∃ (a : Addr) (v : V), vs = [.ref a, v] ∧ OexC K C ∧ PySem.W.findIn K (.ref C) "place" = some none ∧ H a = some (exo a C none) ∧
  ∀ dx, H dx = none → dx ≠ a → Q .non (upd (upd H dx (exd dx [("place", v)])) a (exo a C (some dx)))
theorem spIni_len {K : PySem.W.Frag} {C : Addr} {vs : List V} {H : Hp} {Q : VK} {E : XK} (h : spIni K C vs H Q E) : vs.length = 2 := by
  obtain ⟨a, v, rfl, _⟩ := h
  rfl
/-- the written part's check of such a class -/
def oexB (K : PySem.W.Frag) (C : Addr) : Bool := match K.lookup C with
  | some ⟨.type "type", _, .cls cd, sl⟩ => (match cd.mro, sl.toList with
    | .ref C' :: bm, [_, _, _, _, some (.builtin n), _] => C' == C && n == "ValueError.__new__" && !cd.hasDel && cd.hasDict && HandSPX.refsVE bm
    | _, _ => false)
  | _ => false
theorem oexB_ok {K : PySem.W.Frag} {C : Addr} (q : oexB K C = true) : ∃ nm q N bs bm sn sub ab col dd k0 k1 k2 k3 k5, K.lookup C = some (excClassObj nm q C N bs bm true sn sub ab col dd k0 k1 k2 k3 k5 "ValueError.__new__") ∧ HandSPX.refsVE bm = true := by
  unfold oexB at q
  split at q
  · rename_i dd cd sl ho
    split at q
    · rename_i C' bm k0 k1 k2 k3 n k5 hm hs
      simp only [Bool.and_eq_true, beq_iff_eq, Bool.not_eq_true'] at q
      obtain ⟨⟨⟨⟨rfl, rfl⟩, hdel⟩, hdct⟩, hv⟩ := q
      obtain ⟨nm, bs, mro, ns, qn, hd, sn, sub, ab, col, del⟩ := cd
      dsimp only at hm hdel hdct hv
      subst hm hdel hdct
      have hsl : sl = #[k0, k1, k2, k3, some (.builtin "ValueError.__new__"), k5] := by
        obtain ⟨l⟩ := sl
        simp only at hs
        rw [hs]
      subst hsl
      exact ⟨nm, qn, ns, bs, bm, sn, sub, ab, col, dd, k0, k1, k2, k3, k5, ho, hv⟩
    · cases q
  · cases q
structure IniF (P : Program) (w : PySem.World) (K : PySem.W.Frag) (mg : Str → Option Value) (base : Heap) (C : Addr) : Prop where
  ex : ∃ fI fd, PySem.W.findIn K (.ref C) "__init__" = some (some (.ref fI)) ∧ PySem.W.typeIn K (.ref fI) = some (.type "function") ∧ FnOk P w K mg base (L2.CX P w) 1 fI fd ["self", "place"] (spIni K C) ∧ Binds K fd ["self", "place"] []
  cl : OexC K C
  np : PySem.W.findIn K (.ref C) "place" = some none
section
variable {X : Cx} {Z : XK} {fr : Nat} {pos pos' p : Pos} {L C : Addr} {cs : List (Str × Addr)} {e : Expr} {fe : EF}
end
end EV

set_option maxRecDepth 100000
noncomputable section
namespace EV
open PySem PySem.Spec PyProof.Rows L2
section
variable {X : Cx} {pins : List (Addr × Obj)} {σ : L2.St} {H : Hp} {s : Shared}
end
section
variable {X : Cx} {x n m : Str} {c : Value} {i j : Nat} {body : List Stmt} {np pos pos' p1 p2 ps : Pos} {tb : WX → TS}
end
end EV

set_option maxRecDepth 100000
noncomputable section
namespace EV
open PySem PySem.Spec PyProof.Rows L2
section
variable {X : Cx} {W : WX} {fr k n : Nat} {e a b c : Expr} {es : List Expr} {f fa fb : EF} {fs : List EF} {φ : Den} {pos p : Pos} {x : Str} {fc : BF}
end
section
variable {X : Cx} {Z : XK} {fr : Nat} {cs : List (Str × Addr)} {L : Addr}
variable {n m : Str} {i j k : Nat} {e : Expr} {fe : EF} {np pos pos' p1 p2 ps eps : Pos}
end
end EV

set_option maxRecDepth 100000
noncomputable section
namespace EV
open PySem PySem.Spec PyProof.Rows L2
def rCntV (K : PySem.W.Frag) : V → List V → Hp → VK → Prop := fun x xs H Q => ∃ (p : Addr) (ys : List V) (y : V), x = .ref p ∧ xs = [y] ∧ SqL K H p ys ∧ flatV y = true ∧ ys.all flatV = true ∧ Q (.int (ys.countP (fun z => eqV z y) : Nat)) H
theorem eqU_count {y : V} : ∀ {ys : List V} {us : List Value}, Vals ys us → ys.all flatV = true → us.countP (eqU y) = ys.countP fun z => eqV z y
  | _, _, .nil, _ => rfl
  | _ :: _, _ :: _, .cons r t, f => by
    rw [List.all_cons, Bool.and_eq_true] at f
    rw [List.countP_cons, List.countP_cons, eqU_count t f.2, eqU_of r f.1]
theorem mt_countV {X : Cx} : MtR X "list.count" (rCntV X.K) := by
  intro pins s σ H x xs v us Q I rx rxs h
  obtain ⟨p, ys, y, rfl, rfl, hs, fy, fys, q⟩ := h
  cases rx
  obtain ⟨u, rfl, ru⟩ := rxs.one
  obtain ⟨its, rv, ⟨⟨cls, dd, data, sl⟩, n, ho, hc, hdn, hd⟩, hlen⟩ := I.list hs
  simp only at hc hd
  subst hc hd
  refine call_meets PySem.F.slot_list_count ⟨_, ho, rfl⟩ PySem.F.entry_list_count (PySem.F.args_list_count_2 _ _)
    (SeqAt.list_countAt p its.toArray n dd sl u (eqU y)) ⟨ho, fun y' hy => mem_eqAt ru fy rv fys y' (by simpa using hy), ?_⟩
  have ec : its.toArray.toList.countP (eqU y) = ys.countP fun z => eqV z y := eqU_count rv fys
  refine ⟨.int (ys.countP (fun z => eqV z y) : Nat), H, I.tok _, ⟨s.toks, ?_⟩, q⟩
  show Value.int ((its.toArray.toList.countP (eqU y) : Nat) : Int) s.toks = Value.int ((ys.countP (fun z => eqV z y) : Nat) : Int) s.toks
  rw [ec]
/-- o.m(e): the receiver a list -/
def eMtL (o2 : O2) (fo fa : EF) : EF := fun env W => (fo env W).bind fun x W1 => if (seqL W1 x).isSome then (fa env W1).bind fun y W2 => Res.ofO (o2 W2 x y) W2 else .stuck
def cntD : O2 := fun W x y => match seqL W x with
  | some xs => if xs.all flatD && flatD y then some (.int (xs.countP fun z => PyData.eqv (toP z) (toP y) : Nat)) else none
  | none => none
def indD : O2 := fun W x y => match seqL W x with
  | some xs => if xs.all flatD && flatD y then (xs.findIdx? fun z => PyData.eqv (toP z) (toP y)).map fun j => .int (j : Nat) else none
  | none => none
section
variable {X : Cx} {Z : XK} {fr : Nat} {o a : Expr} {fo fa : EF} {apos cpos : Pos}
theorem isAll_flat {K : PySem.W.Frag} {A : List Addr} {G : Hp} : ∀ {vs : List V} {ds : List D}, IsAll K A G vs ds → ds.all flatD = true → vs.all flatV = true
  | _, _, .nil, _ => rfl
  | _, _, .cons h t, f => by
    rw [List.all_cons, Bool.and_eq_true] at f ⊢
    exact ⟨h.flat f.1, isAll_flat t f.2⟩
theorem isAll_count {K : PySem.W.Frag} {A : List Addr} {G : Hp} {u : V} {e : D} (h' : Is K A G u e) (f' : flatD e = true) : ∀ {vs : List V} {ds : List D}, IsAll K A G vs ds → ds.all flatD = true →
    (vs.countP fun z => eqV z u) = ds.countP fun z => PyData.eqv (toP z) (toP e)
  | _, _, .nil, _ => rfl
  | _, _, .cons h t, f => by
    rw [List.all_cons, Bool.and_eq_true] at f
    rw [List.countP_cons, List.countP_cons, isAll_count h' f' t f.2, eqV_toP h h' f.1 f']
theorem flat_tree {d : D} (f : flatD d = true) : isTree d = true := by cases d <;> first | rfl | cases f
theorem mtl_use {r : V → List V → Hp → VK → Prop} {o2 : O2} (hr : ∀ (H0 : Hp) (A : List Addr) (G H : Hp) (A1 : List Addr) (G1 H1 : Hp) (W : World) (v u : V) (x y z : D) (Q : VK), GS X.K A1 G1 H1 W → Ext A G H A1 G1 H1 → SIs X.K H0 A1 G1 H1 v x → SIs X.K H0 A1 G1 H1 u y →
    o2 W x y = some z → Pst X.K H0 A G H fr z W Q → r v [u] H1 Q) {σ : L2.St} {H : Hp} {Q : VK} (h : tD X.K X.mg Z fr (eMtL o2 fo fa) σ H Q) : tBM X.K "list" r (tD X.K X.mg Z 0 fo) (tDs X.K X.mg Z 0 [fa]) σ H Q := by
  obtain ⟨H0, A, G, env, W, g, R, o⟩ := h
  refine tD_of0 (Ext.refl _ _ _) g R o fun x W1 v A1 G1 H1 g1 _ x1 R1 s1 o1 => ?_
  cases qs : seqL W1 x with
  | none => rw [qs] at o1; exact o1.elim
  | some xs =>
    rw [qs] at o1
    simp only [Option.isSome_some, if_true] at o1
    obtain ⟨p, vs, rfl, hp, l, il⟩ := s1.seq g1 qs
    refine ⟨.inl ⟨rfl, vs, hp⟩, ?_⟩
    have o' : Out X.K X.mg Z A G H (fun d W' => Pst X.K H0 A G H fr d W' Q) ((eArgs [fa] env W1).bind fun ds W2 => match ds with | [y] => Res.ofO (o2 W2 x y) W2 | _ => .stuck) := by
      unfold eArgs
      cases q : fa env W1 with
      | ok d W2 => rw [q] at o1; exact o1
      | exc _ _ => rw [q] at o1; exact o1
      | stuck => rw [q] at o1; exact o1
    refine tDs_of x1 g1 R1 o' fun ds W2 us A2 G2 H2 le g2 y2 x2 R2 s2 f2 o2' => ?_
    cases s2 with
    | nil => cases le
    | cons su st =>
      cases st with
      | cons _ _ => cases le
      | nil =>
        rename_i u d
        simp only at o2'
        cases q2 : o2 W2 x d with
        | none => rw [q2] at o2'; exact o2'.elim
        | some z =>
          rw [q2] at o2'
          exact hr H0 A G H A2 G2 H2 W2 _ u x d z Q g2 x2 (s1.ext y2) su q2 o2'
variable (hs0 : starEach [a] X.env = (false, eval a X.env) :: starEach [] X.env := by rfl)
theorem d_count (ho : DE X Z 0 o fo) (ha : DE X Z 0 a fa) (hs0 : starEach [a] X.env = (false, eval a X.env) :: starEach [] X.env := by rfl)
    (hbase : attributeBase o "count" X.env (eval o X.env) = eval o X.env := by rfl)
    (hfew : ((backTo cpos (starEach [a] X.env)).all (fun x => !x.1) && (backToKw cpos (keywordEach [] X.env)).all (fun x => x.1.isSome)
      && decide ([a].length + ([] : List Keyword).length + (if ([] : List Keyword).isEmpty then 0 else 1) < 30)) = true := by rfl)
    (hline : (apos.endLine == cpos.line) = true := by rfl) (hplain : (backTo cpos (starEach [] X.env)).any (·.1) = false := by rfl) :
    DE X Z fr (.Call (.Attribute o "count" apos) [a] [] cpos) (eMtL cntD fo fa) :=
  PE.imp (pe_bm PySem.F.plainAttrs_list PySem.F.slot_list_count PySem.F.type_list_count mt_countV ho (da_cons ha da_nil hs0) hbase hfew hline hs0 hplain) fun σ H Q h => by
  refine mtl_use (o2 := cntD) (fun H0 A G H A1 G1 H1 W v u x y z Q g1 x1 s1 s2 e q => ?_) h
  unfold cntD at e
  cases qs : seqL W x with
  | none => rw [qs] at e; cases e
  | some xs =>
    rw [qs] at e
    obtain ⟨p, vs, rfl, hp, l, il⟩ := s1.seq g1 qs
    by_cases hc : (xs.all flatD && flatD y) = true
    · simp only [if_pos hc] at e
      cases e
      rw [Bool.and_eq_true] at hc
      have iy := SIs.is s2 (flat_tree hc.2)
      refine ⟨p, vs, u, rfl, rfl, hp, iy.flat hc.2, isAll_flat il hc.1, ?_⟩
      rw [isAll_count iy hc.2 il hc.1]
      exact q.int x1 g1
    · simp only [if_neg hc] at e; cases e
theorem d_index (ho : DE X Z 0 o fo) (ha : DE X Z 0 a fa) (hs0 : starEach [a] X.env = (false, eval a X.env) :: starEach [] X.env := by rfl)
    (hbase : attributeBase o "index" X.env (eval o X.env) = eval o X.env := by rfl)
    (hfew : ((backTo cpos (starEach [a] X.env)).all (fun x => !x.1) && (backToKw cpos (keywordEach [] X.env)).all (fun x => x.1.isSome)
      && decide ([a].length + ([] : List Keyword).length + (if ([] : List Keyword).isEmpty then 0 else 1) < 30)) = true := by rfl)
    (hline : (apos.endLine == cpos.line) = true := by rfl) (hplain : (backTo cpos (starEach [] X.env)).any (·.1) = false := by rfl) :
    DE X Z fr (.Call (.Attribute o "index" apos) [a] [] cpos) (eMtL indD fo fa) :=
  PE.imp (pe_bm PySem.F.plainAttrs_list PySem.F.slot_list_index PySem.F.type_list_index mt_index ho (da_cons ha da_nil hs0) hbase hfew hline hs0 hplain) fun σ H Q h => by
  refine mtl_use (o2 := indD) (fun H0 A G H A1 G1 H1 W v u x y z Q g1 x1 s1 s2 e q => ?_) h
  unfold indD at e
  cases qs : seqL W x with
  | none => rw [qs] at e; cases e
  | some xs =>
    rw [qs] at e
    obtain ⟨p, vs, rfl, hp, l, il⟩ := s1.seq g1 qs
    by_cases hc : (xs.all flatD && flatD y) = true
    · simp only [if_pos hc] at e
      rw [Bool.and_eq_true] at hc
      cases qf : xs.findIdx? (fun z => PyData.eqv (toP z) (toP y)) with
      | none => rw [qf] at e; cases e
      | some j =>
        rw [qf] at e
        cases e
        obtain ⟨hj, h1, h2⟩ := List.findIdx?_eq_some_iff_getElem.mp qf
        have iy := SIs.is s2 (flat_tree hc.2)
        have fl := isAll_flat il hc.1
        obtain ⟨w, hw, iw⟩ := il.get (List.getElem?_eq_getElem hj)
        have fd : ∀ {m : Nat} {d : D}, xs[m]? = some d → flatD d = true := fun {m d} h => List.all_eq_true.mp hc.1 d (List.mem_of_getElem? h)
        refine ⟨p, vs, u, j, w, rfl, rfl, hp, iy.flat hc.2, fl, hw, ?_, fun m z' hm hz => ?_, q.int x1 g1⟩
        · rw [eqV_toP iw iy (fd (List.getElem?_eq_getElem hj)) hc.2]
          exact h1
        · obtain ⟨d', hd', id'⟩ := il.get' hz
          rw [eqV_toP id' iy (fd hd') hc.2]
          have hmx : m < xs.length := (List.getElem?_eq_some_iff.mp hd').1
          have := h2 m hm
          have e3 : xs[m] = d' := by
            have := List.getElem?_eq_getElem hmx
            rw [hd'] at this
            cases this; rfl
          rw [e3] at this
          simpa using this
    · simp only [if_neg hc] at e; cases e
end
end EV

set_option maxRecDepth 100000
noncomputable section
namespace EV
open PySem PySem.Spec PyProof.Rows L2
structure ExcN (K : PySem.W.Frag) (mg : Str → Option Value) (ns : List Str) : Prop where
  ex : ∃ L cs, Excs K mg L cs ∧ cs.map (·.1) = ns
theorem ExcN.mk' {K : PySem.W.Frag} {mg : Str → Option Value} {L : Addr} {cs : List (Str × Addr)} {ns : List Str} (hn : cs.map (·.1) = ns) (h1 : ∀ p, p ∈ cs → CIs K p.1 p.2) (h2 : ∀ p, p ∈ cs → mg p.1 = some (.ref p.2)) (h3 : mg "LotError" = some (.ref L)) (h4 : excsB K L cs = true) : ExcN K mg ns :=
  ⟨L, cs, ⟨h1, h2, h3, h4⟩, hn⟩
abbrev veMro : List Value := [.type "ValueError", .type "Exception", .type "BaseException", .type "object"]
structure R0 (K : PySem.W.Frag) (mg : Str → Option Value) (c : Str) : Prop where
  ex : ∃ C, mg c = some (.ref C) ∧ CIs K c C ∧ xcB K C = true ∧ PySem.W.excIn K C veMro "ValueError.__new__" = true
structure R1 (P : Program) (w : PySem.World) (K : PySem.W.Frag) (mg : Str → Option Value) (base : Heap) (c : Str) : Prop where
  ex : ∃ C, mg c = some (.ref C) ∧ CIs K c C ∧ xcB K C = true ∧ IniF P w K mg base C
/-- what the written part says of a class with such an __init__ (st its def) -/
structure I1 (K : PySem.W.Frag) (mg : Str → Option Value) (c qual : Str) (st : Stmt) : Prop where
  ex : ∃ C fI fd, mg c = some (.ref C) ∧ CIs K c C ∧ xcB K C = true ∧ oexB K C = true ∧ PySem.W.findIn K (.ref C) "__setattr__" = some (some (.builtin "object.__setattr__")) ∧
    PySem.W.findIn K (.ref C) "__init__" = some (some (.ref fI)) ∧ PySem.W.typeIn K (.ref fI) = some (.type "function") ∧ Fun K "__init__" qual st fI fd ∧ Binds K fd ["self", "place"] []
/-- what it says of LotError, so that LotError.__init__ is read -/
structure LotI (K : PySem.W.Frag) (mg : Str → Option Value) : Prop where
  ex : ∃ L mc, mg "LotError" = some (.ref L) ∧ PySem.W.specialIn K (.ref L) "__getattribute__" = some (some (.builtin "type.__getattribute__")) ∧ PySem.W.readsIn K L mc = true ∧ PySem.W.findCls K (.ref L) mc "__init__" = some (.val (.builtin "ValueError.__init__"))
theorem I1.r1 {P : Program} {w : PySem.World} {K : PySem.W.Frag} {mg : Str → Option Value} {base : Heap} {c qual : Str} {st : Stmt} (h : I1 K mg c qual st)
    (F : ∀ C fI fd, OexC K C → PySem.W.findIn K (.ref C) "place" = some none → Fun K "__init__" qual st fI fd → FnOk P w K mg base (L2.CX P w) 1 fI fd ["self", "place"] (spIni K C)) : R1 P w K mg base c := by
  obtain ⟨C, fI, fd, h1, h2, h3, h4, h5, h6, h7, h8, h9⟩ := h.ex
  have k := xcB_ok h3
  have o : OexC K C := ⟨oexB_ok h4, h5, k.exC, k.tC, k.kC⟩
  exact ⟨C, h1, h2, h3, ⟨fI, fd, h6, h7, F C fI fd o k.np h8, h9⟩, o, k.np⟩
section
variable {X : Cx} {Z : XK} {fr : Nat} {pos pos' p p2 : Pos} {e : Expr} {fe : EF}
end
section
variable {X : Cx} {Z : XK} {fr : Nat} {pos p p2 : Pos} {a : Expr} {fa : EF} {ns : List Str}
theorem r_place (T : ExcN X.K X.mg ns) (ha : DE X Z 0 a fa) (hb : attributeBase a "place" X.env (eval a X.env) = eval a X.env := by rfl) : DE X Z fr (.Attribute a "place" pos) (ePlace ns fa) := by
  obtain ⟨L, cs, T', rfl⟩ := T.ex
  exact d_place T' ha hb
end
section
variable {X : Cx} {Z : XK} {fr : Nat} {ns : List Str} {n m : Str} {i j k : Nat} {e : Expr} {fe : EF} {np pos pos' p1 p2 ps eps : Pos}
end
theorem FnF.mono {P : Program} {w : PySem.World} {K : PySem.W.Frag} {mg : Str → Option Value} {base : Heap} {j k n fr : Nat} {x : Str} {φ : Den} (h : FnF P w K mg base j x n fr φ) (l : j ≤ k) : FnF P w K mg base k x n fr φ := by
  obtain ⟨f, fd, ps, h1, h2, h3, F⟩ := h.ex
  exact ⟨f, fd, ps, h1, h2, h3, F.mono l⟩
end EV

set_option maxRecDepth 100000
noncomputable section
namespace EV
open PySem PySem.Spec PyProof.Rows L2
section
variable {X : Cx} {Z : XK} {pos : Pos} {e : Expr} {es : List Expr} {fs : List EF} {k n : Nat} {φ : Den}
end
end EV

set_option maxRecDepth 100000
noncomputable section
namespace EV
open PySem PySem.Spec PyProof.Rows L2
section
variable {prog : Program} {w : PySem.World} {A : Around} {E : Value → Shared → Prop} {s : Shared}
end
section
variable {X : Cx} {Z : XK} {fr : Nat} {pos : Pos} {a : Expr} {fa : EF}
end
end EV

set_option maxRecDepth 100000
noncomputable section
namespace EV
open PySem PySem.Spec PyProof.Rows L2
section
variable {X : Cx} {Z : XK} {fr : Nat} {st : Stmt} {f : SF}
end
end EV

set_option maxRecDepth 100000
noncomputable section
namespace EV
open PySem PySem.Spec PyProof.Rows L2
section
variable {X : Cx} {fr : Nat} {Z : XK} {pos : Pos} {a : Expr} {fa : EF}
end
section
variable {X : Cx} {fr : Nat} {Z : XK} {pos : Pos}
end
section
variable {X : Cx} {Z : XK} {pos : Pos} {a b : Expr} {rest : List Expr} {fa fb : EF}
end
end EV

set_option maxRecDepth 100000
noncomputable section
namespace EV
open PySem PySem.Spec PyProof.Rows L2
section
variable {X : Cx}
end
end EV

set_option maxRecDepth 100000
noncomputable section
namespace EV
open PySem PySem.Spec PyProof.Rows L2
section
variable {X : Cx} {Z : XK} {fr : Nat} {pos : Pos} {e o i : Expr} {fe fo fi : EF}
end
section
variable {X : Cx} {Z : XK} {fr : Nat} {st : Stmt} {f : SF}
end
section
variable {K : PySem.W.Frag} {A : List Addr} {G H H0 : Hp} {W : World} {v : V} {n : Nat}
end
section
variable {X : Cx} {Z : XK} {fr : Nat} {pos : Pos} {e o i : Expr} {fe fo fi : EF} {apos cpos : Pos}
end
end EV

set_option maxRecDepth 100000
noncomputable section
namespace EV
open PySem PySem.Spec PyProof.Rows L2
section
variable {K : PySem.W.Frag} {A A1 : List Addr} {G G1 H H1 H0 : Hp} {env : Env} {σ : L2.St} {W : World}
end
section
variable {K : PySem.W.Frag} {A : List Addr} {G H H0 : Hp} {W : World}
end
section
variable {X : Cx} {Z : XK} {fr : Nat} {pos : Pos} {e o : Expr} {fe fo : EF} {c f : Str}
end
/-- the method m of the class c: n parameters, self among them -/
structure FnM (P : Program) (w : PySem.World) (K : PySem.W.Frag) (mg : Str → Option Value) (base : Heap) (k : Nat) (c m : Str) (n fr : Nat) (φ : Den) : Prop where
  ex : ∀ C, CIs K c C → ∃ f fd ps, Meth K C m f ∧ Binds K fd ps [] ∧ FnOk P w K mg base (L2.CX P w) k f fd ps (spD K mg n fr φ)
theorem FnM.mono {P : Program} {w : PySem.World} {K : PySem.W.Frag} {mg : Str → Option Value} {base : Heap} {j k : Nat} {c m : Str} {n fr : Nat} {φ : Den} (h : FnM P w K mg base j c m n fr φ) (l : j ≤ k) : FnM P w K mg base k c m n fr φ :=
  ⟨fun C hC => let ⟨f, fd, ps, a, b, F⟩ := h.ex C hC; ⟨f, fd, ps, a, b, F.mono l⟩⟩
/-- a class that is made by an __init__ of n parameters, self among them -/
structure FnI (P : Program) (w : PySem.World) (K : PySem.W.Frag) (mg : Str → Option Value) (base : Heap) (k : Nat) (c : Str) (n : Nat) (φ : Den) : Prop where
  ex : ∃ C f fd ps, CIs K c C ∧ mg c = some (.ref C) ∧ Mk K C f ∧ Binds K fd ps [] ∧ FnOk P w K mg base (L2.CX P w) k f fd ps (spD K mg n 0 φ)
section
variable {X : Cx} {Z : XK} {k n fr : Nat} {φ : Den} {pos apos : Pos} {e o : Expr} {es : List Expr} {fs : List EF} {fo : EF} {c m : Str}
end
end EV

set_option maxRecDepth 100000
noncomputable section
namespace EV
open PySem PySem.Spec PyProof.Rows L2
section
variable {K : PySem.W.Frag} {A : List Addr} {G H H0 : Hp} {W : World}
end
section
variable {K : PySem.W.Frag} {A : List Addr} {G H H0 : Hp} {W : World}
end
section
variable {X : Cx} {Z : XK} {fr : Nat} {pos : Pos} {e o i : Expr} {fe fo fi : EF}
end
end EV

set_option maxRecDepth 100000
noncomputable section
namespace EV
open PySem PySem.Spec PyProof.Rows L2
section
variable {X : Cx} {CX : CXT} {k : Nat} {f C : Addr} {fd : FuncData} {ps : List Str} {sp : Sp} {E : L2.St → XK} {x m : Str} {p pos apos : Pos} {e o : Expr} {es : List Expr} {ta : TE} {t : TA}
end
section
variable {X : Cx} {W : WX} {k n fr : Nat} {φ : Den} {pos apos : Pos} {e o : Expr} {es : List Expr} {fs : List EF} {fo : EF} {c m : Str}
end
structure MethIs (K : PySem.W.Frag) (c m qual : Str) (st : Stmt) (ps : List Str) : Prop where
  ex : ∀ C, CIs K c C → ∃ f fd, Meth K C m f ∧ Fun K m qual st f fd ∧ Binds K fd ps []
structure InitIs (K : PySem.W.Frag) (mg : Str → Option Value) (c qual : Str) (st : Stmt) (ps : List Str) : Prop where
  ex : ∃ C f fd, CIs K c C ∧ mg c = some (.ref C) ∧ Mk K C f ∧ Fun K "__init__" qual st f fd ∧ Binds K fd ps []
section
variable {P : Program} {w : PySem.World} {K : PySem.W.Frag} {mg : Str → Option Value} {base : Heap}
theorem FnM.mk' {c m qual : Str} {st : Stmt} {N ps : List Str} {k fr n : Nat} {fb : SF} (F : MethIs K c m qual st ps) (S : FnScope N ps (defScope st)) (hn : ps.length = n)
    (hbody : ∀ (f : Addr) (cdv : Value) (A : Around) (outer : List PySem.Env) (s : Shared) (H : Hp) (E : XK), Room k (A.deeper (envOfC qual (defScope st) s.heap.objs.size f cdv)) → DB (cxOf (L2.CX P w) P w K mg base N qual (defScope st) f cdv A outer s H E) E fr (defBody st) fb) :
    FnM P w K mg base (k + 1) c m n fr (runB N.length fb) := by
  subst hn
  refine ⟨fun C hC => ?_⟩
  obtain ⟨f, fd, hm, F1, hb⟩ := F.ex C hC
  exact ⟨f, fd, ps, hm, hb, fn_ok F1 S (hbody f)⟩
theorem FnI.mk' {c qual : Str} {st : Stmt} {N ps : List Str} {k n : Nat} {fb : SF} (F : InitIs K mg c qual st ps) (S : FnScope N ps (defScope st)) (hn : ps.length = n)
    (hbody : ∀ (f : Addr) (cdv : Value) (A : Around) (outer : List PySem.Env) (s : Shared) (H : Hp) (E : XK), Room k (A.deeper (envOfC qual (defScope st) s.heap.objs.size f cdv)) → DB (cxOf (L2.CX P w) P w K mg base N qual (defScope st) f cdv A outer s H E) E 0 (defBody st) fb) :
    FnI P w K mg base (k + 1) c n (runB N.length fb) := by
  subst hn
  obtain ⟨C, f, fd, hC, hm, M, F1, hb⟩ := F.ex
  exact ⟨C, f, fd, ps, hC, hm, M, hb, fn_ok F1 S (hbody f)⟩
end
end EV

set_option maxRecDepth 100000
noncomputable section
namespace EV
open PySem PySem.Spec PyProof.Rows L2
abbrev IT := World → Nat → Option (Option D)
def rdL : D → IT
  | .ob n => fun W i => match W[n]? with
    | some (.lst xs) => some xs[i]?
    | _ => none
  | .lst xs => fun _ i => some xs[i]?
  | .bo xs => fun _ i => some xs[i]?
  | .tup _ => fun _ _ => none
  | _ => fun _ _ => none
section
variable {K : PySem.W.Frag} {H0 : Hp} {A : List Addr} {G H : Hp} {W : World} {v : V} {d : D}
end
section
variable {X : Cx} {Z : XK} {fr : Nat} {tg a b : Expr} {fa fb : EF}
end
end EV

set_option maxRecDepth 100000
noncomputable section
namespace EV
open PySem PySem.Spec PyProof.Rows L2
section
variable {X : Cx} {Z : XK} {fr : Nat} {pos : Pos}
end
section
variable {X : Cx} {Z : XK} {pos : Pos}
end
end EV

set_option maxRecDepth 100000
noncomputable section
namespace EV
open PySem PySem.Spec PyProof.Rows L2
section
variable {X : Cx} {Z : XK} {fr : Nat} {pos : Pos} {a : Expr} {fa : EF}
end
mutual
def toPW (W : World) : D → PyData
  | .non => .none
  | .bl b => .bool b
  | .int i => .int i
  | .str x => .str x
  | .lst xs => .list (toPWs W xs)
  | .tup xs => .tuple (toPWs W xs)
  | .ow xs => .list (toPWs W xs)
  | .bo xs => .list (toPWs W xs)
  | .ob n => match W[n]? with
    | some (.lst xs) => .list (toPs xs)
    | _ => .dict []
  | .od _ => .dict []
  | .ot _ => .dict []
  | .exn _ _ => .dict []
  | .fk _ => .dict []
  | .ft _ => .dict []
  | .tk _ => .dict []
def toPWs (W : World) : List D → List PyData
  | [] => []
  | d :: ds => toPW W d :: toPWs W ds
end
theorem toPWs_map {W : World} : ∀ ds : List D, toPWs W ds = ds.map (toPW W)
  | [] => by simp [toPWs]
  | d :: ds => by simp [toPWs, toPWs_map ds]
section
variable {K : PySem.W.Frag} {A : List Addr} {G H H0 : Hp} {v : V} {d : D} {W : World}
mutual
theorem Is.dpW (g : GS K A G H W) : ∀ {v : V} {d : D}, Is K A G v d → PyData.canLay0 (toPW W d) = true → Dp K H v (toPW W d)
  | _, _, .non, _ => by simp only [toPW]; exact .non
  | _, _, .bl b, _ => by simp only [toPW]; exact .bl b
  | _, _, .int b, _ => by simp only [toPW]; exact .int b
  | _, _, .str b, _ => by simp only [toPW]; exact .str b
  | _, _, .lst h l s, c => by
    simp only [toPW, PyData.canLay0] at c ⊢
    exact .lst (.inl (.inl (g.sub _ _ h))) (IsAll.dpW g s c)
  | _, _, .tup h l s, c => by
    simp only [toPW, PyData.canLay0] at c ⊢
    exact .tup (sqT_mono g.sub h) (IsAll.dpW g s c)
  | _, _, .ob (n := n) ha, c => by
    simp only [toPW] at c ⊢
    cases q : W[n]? with
    | none => rw [q] at c; simp only [PyData.canLay0] at c; cases c
    | some o =>
      rw [q] at c
      cases o with
      | lst xs =>
        simp only [PyData.canLay0] at c ⊢
        obtain ⟨vs, hp, l, il⟩ := g.obj n _ _ ha q
        exact .lst (.inl (.inl hp)) (il.dp g.sub c)
      | ins _ _ => simp only [PyData.canLay0] at c; cases c
      | dct _ => simp only [PyData.canLay0] at c; cases c
  | _, _, .exn _ _ _, c => by simp only [toPW, PyData.canLay0] at c; cases c
  | _, _, .fk _ _ _ _, c => by simp only [toPW, PyData.canLay0] at c; cases c
  | _, _, .ft _ _ _ _, c => by simp only [toPW, PyData.canLay0] at c; cases c
  | _, _, .tk _ _, c => by simp only [toPW, PyData.canLay0] at c; cases c
theorem IsAll.dpW (g : GS K A G H W) : ∀ {vs : List V} {ds : List D}, IsAll K A G vs ds → PyData.canLayAll0 (toPWs W ds) = true → DpAll K H vs (toPWs W ds)
  | _, _, .nil, _ => by simp only [toPWs]; exact .nil
  | _, _, .cons h t, c => by
    simp only [toPWs, PyData.canLayAll0, Bool.and_eq_true] at c ⊢
    exact .cons (Is.dpW g h c.1) (IsAll.dpW g t c.2)
end
theorem SIs.dpW (h : SIs K H0 A G H v d) (g : GS K A G H W) (c : PyData.canLay0 (toPW W d) = true) : Dp K H v (toPW W d) := by
  cases d with
  | ow xs =>
    obtain ⟨p, vs, rfl, hp, l, s, _⟩ := h
    simp only [toPW, PyData.canLay0] at c ⊢
    exact .lst (.inl (.inl hp)) (s.dpW g c)
  | bo xs =>
    obtain ⟨p, vs, rfl, hp, l, s⟩ := SIs.seq h g (show seqL W (.bo xs) = some xs from rfl)
    simp only [toPW, PyData.canLay0] at c ⊢
    exact .lst hp (s.dpW g c)
  | od _ => simp only [toPW, PyData.canLay0] at c; cases c
  | ot _ => simp only [toPW, PyData.canLay0] at c; cases c
  | _ => exact Is.dpW g (SIs.is h rfl) c
end
section
variable {X : Cx} {fr : Nat}
end
end EV

set_option maxRecDepth 100000
noncomputable section
namespace EV
open PySem PySem.Spec PyProof.Rows L2
section
variable {env : Env} {W : World} {a b fo fe fi : EF} {f : SF}
end
/-- d is, in W, a list of xs -/
structure LW (W : World) (d : D) (xs : List D) : Prop where
  rd : ∀ i, rdL d W i = some xs[i]?
  seq : seqL W d = some xs
  isL : ∃ b, (b = d) ∧ (∀ ys, d ≠ .tup ys) ∧ (∀ s, d ≠ .str s) ∧ (∀ c p, d ≠ .exn c p) ∧ isTree d = true ∧ isArg d = true ∧ lend d = d
  lT : (∃ ys, d = .lst ys) ∨ ∃ n, d = .ob n ∧ W[n]? = some (.lst xs)
theorem LW.lst {W : World} {xs : List D} : LW W (.lst xs) xs := ⟨fun _ => rfl, rfl, ⟨_, rfl, (fun _ z => by cases z), (fun _ z => by cases z), (fun _ _ z => by cases z), rfl, rfl, rfl⟩, .inl ⟨_, rfl⟩⟩
theorem LW.ob {W : World} {n : Nat} {xs : List D} (h : W[n]? = some (.lst xs)) : LW W (.ob n) xs := ⟨fun i => by simp only [rdL, h], by simp only [seqL, h], ⟨_, rfl, (fun _ z => by cases z), (fun _ z => by cases z), (fun _ _ z => by cases z), rfl, rfl, rfl⟩, .inr ⟨n, rfl, h⟩⟩
section
variable {W : World} {d : D} {xs : List D}
theorem LW.tree (h : LW W d xs) : isTree d = true := by obtain ⟨_, _, _, _, _, h, _⟩ := h.isL; exact h
theorem LW.arg (h : LW W d xs) : isArg d = true := by obtain ⟨_, _, _, _, _, _, h, _⟩ := h.isL; exact h
theorem LW.lend (h : LW W d xs) : lend d = d := by obtain ⟨_, _, _, _, _, _, _, h⟩ := h.isL; exact h
theorem LW.len (h : LW W d xs) : oLen W [d] = some (.int xs.length) := by
  rcases h.lT with ⟨ys, rfl⟩ | ⟨n, rfl, e⟩
  · cases h.seq; rfl
  · show (match seqL W (.ob n) with | some xs => some (D.int xs.length) | none => none) = _
    rw [h.seq]
theorem LW.lstt (h : LW W d xs) : lstT W d = some xs := by
  rcases h.lT with ⟨ys, rfl⟩ | ⟨n, rfl, e⟩
  · cases h.seq; rfl
  · simp only [lstT, e]
theorem LW.toP (h : LW W d xs) (hx : ∀ x ∈ xs, toPW W x = EV.toP x) : toPW W d = .list (toPs xs) := by
  rcases h.lT with ⟨ys, rfl⟩ | ⟨n, rfl, q⟩
  · cases h.seq
    rw [toPW, toPWs_map, toPs_map]
    congr 1
    exact List.map_congr_left hx
  · rw [toPW, q]
end
end EV

set_option maxRecDepth 100000
noncomputable section
namespace EV
open PySem PySem.Spec PyProof.Rows L2
section
variable {X : Cx} {Z : XK} {pos : Pos} {a b : Expr} {fa fb : EF}
end
end EV

set_option maxRecDepth 100000
noncomputable section
namespace EV
open PySem PySem.Spec PyProof.Rows L2
section
variable {X : Cx} {Z : XK} {fr : Nat} {pos : Pos} {e i : Expr} {fe fi : EF}
end
end EV

set_option maxRecDepth 100000
noncomputable section
namespace EV
open PySem PySem.Spec PyProof.Rows L2
section
variable {P : Program} {w : PySem.World} {K : PySem.W.Frag} {mg : Str → Option Value} {base : Heap} {A : Around}
end
end EV

set_option maxRecDepth 100000
noncomputable section
namespace EV
open PySem PySem.Spec PyProof.Rows L2
end EV

set_option maxRecDepth 100000
noncomputable section
namespace EV
open PySem PySem.Spec PyProof.Rows L2
section
variable {X : Cx} {Z : XK} {t : TA} {tf : TE} {pos : Pos} {fe e : Expr} {es : List Expr} {E : L2.St → XK}
end
section
variable {X : Cx} {W : WX} {k1 k2 k3 r1 r2 r3 n : Nat} {φ1 φ2 φ3 : Den} {x1 x2 x3 : Str} {p1 p2 p3 lp sp pos : Pos} {i e : Expr} {es : List Expr} {fi : EF} {fs : List EF}
end
end EV

set_option maxRecDepth 100000
noncomputable section
namespace EV
open PySem PySem.Spec PyProof.Rows L2
section
variable {X : Cx} {Z : XK} {fr : Nat} {e : Expr} {fe : EF} {c : Str} {b : Bool} {np pos pos' eps p1 p2 : Pos} {k : Nat}
end
end EV

set_option maxRecDepth 100000
noncomputable section
namespace EV
open PySem PySem.Spec PyProof.Rows L2
section
variable {P : Program} {w : PySem.World} {A : Around} {E : Value → Shared → Prop} {s : Shared}
variable {a : Addr} {es : Array (Int × Value)} {ep : Nat} {t : SetTable}
end
end EV

set_option maxRecDepth 100000
noncomputable section
namespace EV
open PySem PySem.Spec PyProof.Rows L2
section
variable {P : Program} {w : PySem.World} {A : Around} {E : Value → Shared → Prop} {s : Shared} {a o : Addr} {Sa So : Int → Bool} {na no : Nat}
end
end EV

set_option maxRecDepth 100000
noncomputable section
namespace EV
open PySem PySem.Spec PyProof.Rows L2
end EV

set_option maxRecDepth 100000
noncomputable section
namespace EV
open PySem PySem.Spec PyProof.Rows L2
section
variable {P : Program} {w : PySem.World} {A : Around} {E : Value → Shared → Prop} {s : Shared} {r : Addr} {ep : Nat} {t : SetTable}
end
end EV

set_option maxRecDepth 100000
noncomputable section
namespace EV
open PySem PySem.Spec PyProof.Rows L2
section
variable {P : Program} {w : PySem.World} {A : Around} {E : Value → Shared → Prop} {s : Shared} {r a : Addr} {ep : Nat} {t : SetTable}
end
end EV

set_option maxRecDepth 100000
noncomputable section
namespace EV
open PySem PySem.Spec PyProof.Rows L2
section
variable {P : Program} {w : PySem.World} {A : Around} {E : Value → Shared → Prop} {s : Shared} {r a o : Addr} {es : Array (Int × Value)} {ep : Nat} {t : SetTable}
end
end EV

set_option maxRecDepth 100000
noncomputable section
namespace EV
open PySem PySem.Spec PyProof.Rows L2
section
variable {X : Cx} {Z : XK} {fr : Nat} {pos : Pos} {a b : Expr} {fa fb : EF} {ta tb : TE}
end
end EV

set_option maxRecDepth 100000
noncomputable section
namespace EV
open PySem PySem.Spec PyProof.Rows L2
section
variable {X : Cx} {Z : XK} {k fr : Nat} {φ : Den} {pos : Pos}
end
end EV

set_option maxRecDepth 100000
noncomputable section
namespace EV
open PySem PySem.Spec PyProof.Rows L2
section
variable {X : Cx} {W : WX} {k1 k2 r1 r2 n : Nat} {φ1 φ2 : Den} {x1 x2 : Str} {p1 p2 lp sp pos : Pos} {i e : Expr} {es : List Expr} {fi : EF} {fs : List EF}
end
end EV

set_option maxRecDepth 100000
noncomputable section
namespace EV
open PySem PySem.Spec PyProof.Rows L2
section
variable {X : Cx} {Z : XK} {fr : Nat}
end
end EV

set_option maxRecDepth 100000
noncomputable section
namespace EV
open PySem PySem.Spec PyProof.Rows L2
section
variable {X : Cx} {Z : XK} {fr : Nat} {pos : Pos} {a b : Expr} {fa fb : EF}
end
end EV

set_option maxRecDepth 100000
noncomputable section
namespace EV
open PySem PySem.Spec PyProof.Rows L2
section
variable {K : PySem.W.Frag} {A A0 A1 : List Addr} {G G0 G1 H H0 H1 : Hp} {env : Env} {σ : L2.St} {W : World}
end
abbrev KF := Env → World → Res (List Key)
section
variable {X : Cx} {Z : XK} {fr : Nat} {pos : Pos} {e i : Expr} {es : List Expr} {fs : List EF} {fe : EF} {fk : KF}
end
end EV

set_option maxRecDepth 100000
noncomputable section
namespace EV
open PySem PySem.Spec PyProof.Rows L2
section
variable {K : PySem.W.Frag} {A : List Addr} {G H H0 : Hp} {env : Env} {σ : L2.St} {j : Nat} {p : Addr} {o o' : HO} {d0 d1 : D}
end
section
variable {X : Cx} {Z : XK} {fr : Nat} {st : Stmt} {f : SF}
end
end EV

set_option maxRecDepth 100000
noncomputable section
namespace EV
open PySem PySem.Spec PyProof.Rows L2
section
variable {X : Cx} {Z : XK} {fr : Nat} {tg a o i : Expr} {fa fo fi : EF} {strong : Bool} {pos : Pos}
end
end EV

set_option maxRecDepth 100000
namespace PySem.W
open Lean Elab Tactic Meta PySem PySem.Calls PyProof.Rows PyProof.V PySem.Spec
section
variable {prog : Program} {w : World} {A : Around} {E : Value → Shared → Prop} {s : Shared}
end
end PySem.W
noncomputable section
namespace EV
open PySem PySem.Spec PyProof.Rows L2
section
variable {X : Cx}
end
section
variable {X : Cx} {Z : XK} {fr : Nat} {pos : Pos} {a o i e : Expr} {fa fo fi fe : EF}
end
end EV

set_option maxRecDepth 100000
noncomputable section
namespace EV
open PySem PySem.Spec PyProof.Rows L2
section
variable {X : Cx}
end
section
variable {X : Cx} {Z : XK} {fr : Nat} {pos : Pos} {a e : Expr} {fa fe : EF}
end
end EV

set_option maxRecDepth 100000
noncomputable section
namespace EV
open PySem PySem.Spec PyProof.Rows L2
section
variable {prog : Program} {w : PySem.World} {A : Around} {E : Value → Shared → Prop} {s : Shared}
end
section
variable {X : Cx}
end
section
variable {K : PySem.W.Frag} {A : List Addr} {G H H0 : Hp} {W : World} {bs : List Addr}
end
section
variable {X : Cx} {Z : XK} {fr : Nat} {pos : Pos}
end
end EV

set_option maxRecDepth 100000
noncomputable section
namespace EV
open PySem PySem.Spec PyProof.Rows L2
section
variable {X : Cx}
end
section
variable {X : Cx} {Z : XK} {fr : Nat} {pos : Pos} {e o i : Expr} {fe fo fi : EF}
end
section
variable {env : Env} {W : World} {Q : Fl → World → Prop}
end
end EV

set_option maxRecDepth 100000
noncomputable section
namespace EV
open PySem PySem.Spec PyProof.Rows L2
section
variable {X : Cx} {Z : XK} {fr : Nat} {pos apos p : Pos} {a b o e : Expr} {fa fb fo fe : EF}
def eMtS (o2 : O2) (fo fa : EF) : EF := fun env W => (fo env W).bind fun x W1 => match x with
  | .str s => (fa env W1).bind fun y W2 => Res.ofO (o2 W2 (.str s) y) W2
  | _ => .stuck
def Sem2S (X : Cx) (fr : Nat) (o2 : O2) (r : V → List V → Hp → VK → Prop) : Prop := ∀ (H0 : Hp) (A : List Addr) (G H : Hp) (A1 : List Addr) (G1 H1 : Hp) (W : World) (s : Str) (u : V) (y z : D) (Q : VK), GS X.K A1 G1 H1 W → Ext A G H A1 G1 H1 → SIs X.K H0 A1 G1 H1 u y →
  o2 W (.str s) y = some z → Pst X.K H0 A G H fr z W Q → r (.str s) [u] H1 Q
theorem mts_use {o2 : O2} {r : V → List V → Hp → VK → Prop} (hr : Sem2S X fr o2 r) {σ : L2.St} {H : Hp} {Q : VK} (h : tD X.K X.mg Z fr (eMtS o2 fo fa) σ H Q) : tM1 r (tD X.K X.mg Z 0 fo) (tD X.K X.mg Z 0 fa) σ H Q := by
  obtain ⟨H0, A, G, env, W, g, R, o⟩ := h
  refine tD_of0 (Ext.refl _ _ _) g R o fun x W1 v A1 G1 H1 g1 _ x1 R1 s1 o1 => ?_
  cases x with
  | str s =>
    have ev := sIs_str s1
    subst ev
    refine ⟨⟨_, rfl⟩, ?_⟩
    refine tD_of0 x1 g1 R1 o1 fun y W2 u A2 G2 H2 g2 y2 x2 R2 s2 o2' => ?_
    cases q2 : o2 W2 (.str s) y with
    | none => rw [q2] at o2'; exact o2'.elim
    | some z =>
      rw [q2] at o2'
      exact hr H0 A G H A2 G2 H2 W2 s u y z Q g2 x2 s2 q2 o2'
  | _ => exact o1.elim
/-- sep.join(xs) -/
def strsOf : List D → Option (List Str)
  | [] => some []
  | .str s :: ds => (strsOf ds).map fun ss => s :: ss
  | _ => none
theorem strsOf_is {K : PySem.W.Frag} {A : List Addr} {G : Hp} : ∀ {ds : List D} {ss : List Str} {vs : List V}, strsOf ds = some ss → IsAll K A G vs ds → vs = ss.map V.str
  | [], ss, vs, h, il => by cases h; cases il; rfl
  | d :: ds, ss, vs, h, il => by
    cases il with
    | cons i t =>
      cases d with
      | str s =>
        unfold strsOf at h
        obtain ⟨ss', h1, rfl⟩ := Option.map_eq_some_iff.mp h
        cases i
        rw [strsOf_is h1 t]
        rfl
      | _ => cases h
def joinD : O2 := fun W x y => match x with
  | .str a => match (match y with | .tup ys => some ys | y => seqL W y) with
    | some ys => match strsOf ys with
      | some ss => if (ss.map (·.length)).sum + ss.length * a.length ≤ 1000000 then some (.str (Txt.join a ss)) else none
      | none => none
    | none => none
  | _ => none
theorem sem_join : Sem2S X fr joinD (fun x xs H Q => ∃ a p, ∃ ys : List Str, x = .str a ∧ xs = [.ref p] ∧ (SqL X.K H p (ys.map V.str) ∨ SqT X.K H p (ys.map V.str)) ∧
      (ys.map (·.length)).sum + ys.length * a.length ≤ 16777216 ∧ Q (.str (Txt.join a ys)) H) := by
  intro H0 A G H A1 G1 H1 W s u y z Q g1 x1 s1 e q
  unfold joinD at e
  simp only at e
  split at e
  · rename_i ys hys
    cases hs : strsOf ys with
    | none => rw [hs] at e; cases e
    | some ss =>
      rw [hs] at e
      simp only at e
      split at e
      · rename_i hl
        cases e
        have fin : ∀ p vs, u = .ref p → (SqL X.K H1 p vs ∨ SqT X.K H1 p vs) → IsAll X.K A1 G1 vs ys → ∃ a p, ∃ ys : List Str, (V.str s) = .str a ∧ [u] = [.ref p] ∧ (SqL X.K H1 p (ys.map V.str) ∨ SqT X.K H1 p (ys.map V.str)) ∧ (ys.map (·.length)).sum + ys.length * a.length ≤ 16777216 ∧ Q (.str (Txt.join a ys)) H1 := fun p vs eu hp il => by
          subst eu
          rw [strsOf_is hs il] at hp
          exact ⟨s, p, ss, rfl, rfl, hp, by omega, q.str x1 g1⟩
        split at hys
        · rename_i ys'
          cases hys
          obtain ⟨p, vs, eu, hp, _, _, il⟩ := s1.tupl g1 (show tupL (.tup ys) = some ys from rfl)
          exact fin p vs eu (.inr hp) il
        · obtain ⟨p, vs, eu, hp, _, il⟩ := s1.seq g1 hys
          exact fin p vs eu (.inl hp) il
      · cases e
  · cases e
theorem d_join (ho : DE X Z 0 o fo) (he : DE X Z 0 e fe) (hs : starEach [e] X.env = [(false, eval e X.env)] := by rfl) (hbase : attributeBase o "join" X.env (eval o X.env) = eval o X.env := by rfl) (hline : (apos.endLine == pos.line) = true := by rfl) :
    DE X Z fr (.Call (.Attribute o "join" apos) [e] [] pos) (eMtS joinD fo fe) := PE.imp (pe_join ho he hs hbase hline) fun _ _ _ h => mts_use sem_join h
end
section
variable {env : Env} {W : World} {fo fa : EF} {o2 : O2}
@[simp] theorem eMtS_ap : eMtS o2 fo fa env W = (fo env W).bind fun x W1 => match x with
  | .str s => (fa env W1).bind fun y W2 => Res.ofO (o2 W2 (.str s) y) W2
  | _ => .stuck := id rfl
end
end EV

set_option maxRecDepth 100000
noncomputable section
namespace EV
open PySem PySem.Spec PyProof.Rows L2
def signs (s : Str) : List D := s.cps.toList.map fun c => D.str ⟨#[c]⟩
def iStrE (f : EF) : IF := fun env W => (f env W).bind fun d W1 => match d with
  | .str s => if s.cps.size ≤ LINE then .ok (signs s) W1 else .stuck
  | _ => .stuck
theorem wk_str {K : PySem.W.Frag} {A : List Addr} {G : Hp} {s : Str} : Wk K (Its s) A G (fun _ => True) (signs s) := by
  intro i A2 G2 H2 W2 pa pg g sH
  refine ⟨fun hi => ?_, fun d hd => ?_⟩
  · unfold signs at hi
    rw [List.length_map, Array.length_toList] at hi
    exact hi
  · unfold signs at hd
    rw [List.getElem?_map, Array.getElem?_toList] at hd
    cases hc : s.cps[i]? with
    | none => rw [hc] at hd; cases hd
    | some c =>
      rw [hc] at hd
      cases hd
      refine ⟨?_, fun x H3 y => ?_⟩
      · show i < s.cps.size
        exact (Array.getElem?_eq_some_iff.mp hc).1
      · obtain ⟨e, c', hc', rfl⟩ := y
        subst e
        rw [hc] at hc'
        cases hc'
        exact ⟨G2, Ext.refl _ _ _, g, .str _⟩
section
variable {X : Cx} {Z : XK} {fr : Nat} {tg a : Expr} {fa : EF} {strong : Bool}
theorem di_str (h : DE X Z 0 a fa) : DI X Z strong tg a (iStrE fa) := PI.imp (pi_str h) fun σ H R h => by
  obtain ⟨H0, A, G, env, W, g, rl, o⟩ := h
  unfold iStrE at o
  cases q : fa env W with
  | exc x' W1 =>
    rw [q] at o
    refine ⟨H0, A, G, env, W, g, rl, ?_⟩
    rw [q]
    exact o
  | stuck => rw [q] at o; exact o.elim
  | ok d W1 =>
    rw [q] at o
    simp only [Res.bind_ok] at o
    cases d with
    | str s =>
      simp only at o
      split at o
      · rename_i hl
        refine ⟨H0, A, G, env, W, g, rl, ?_⟩
        rw [q]
        intro v A1 G1 H1 g1 x1 s1
        cases s1
        exact ⟨s, rfl, o A1 G1 H1 _ _ g1 x1 (by unfold signs; rw [List.length_map, Array.length_toList]; exact hl) wk_str sts_true fun _ => sts_true⟩
      · exact o.elim
    | _ => exact o.elim
end
section
variable {env : Env} {W : World} {fa : EF}
@[simp] theorem iStrE_ap : iStrE fa env W = (fa env W).bind fun d W1 => match d with
  | .str s => if s.cps.size ≤ LINE then .ok (signs s) W1 else .stuck
  | _ => .stuck := id rfl
end
end EV

set_option maxRecDepth 100000
noncomputable section
namespace EV
open PySem PySem.Spec PyProof.Rows L2
section
variable {X : Cx} {Z : XK} {fr : Nat} {pos apos p : Pos} {a b o e : Expr} {fa fb fo fe : EF}
end
section
variable {env : Env} {W : World} {fa : EF} {lo hi : PF}
end
end EV

set_option maxRecDepth 100000
noncomputable section
namespace EV
open PySem PySem.Spec PyProof.Rows L2
section
variable {X : Cx} {Z : XK} {fr : Nat} {pos apos cpos p : Pos} {e i a : Expr} {fi fe fa : EF}
end
section
variable {X : Cx} {Z : XK} {fr : Nat} {pos apos cpos p : Pos} {e i a f o : Expr} {fi fe fa : EF} {ty tx : TE}
end
section
variable {env : Env} {W : World} {fi fe : EF} {ps : List (Str × Int)}
end
end EV

set_option maxRecDepth 100000
noncomputable section
namespace EV
open PySem PySem.Spec PyProof.Rows L2
abbrev AlH := (Bool × List He.FnV) × List (Option (List (Option (Str × Int))))
abbrev TabH := Str × List Str
def obsH (fa : List He.Fa) (fn : List He.FnD) (ts : List TabH) (ex : PySem.W.Frag → Bool) (K : PySem.W.Frag) : AlH :=
  (((fa.all fun f => f.ok K) && ((fn.all fun d => (He.Fa.code d.at_ d.qual).ok K) && ex K), fn.map fun d => He.fnObs K d.at_), ts.map fun t => He.dicW K (He.ga K t.1))
def valH (fn : List He.FnD) (ts : List TabH) (w : PySem.World) : AlH := ((true, fn.map He.FnD.val), ts.map fun t => some (He.keysIn w.params t.2))
def SaysH (fa : List He.Fa) (fn : List He.FnD) (ts : List TabH) (ex : PySem.W.Frag → Bool) (w : PySem.World) (K : PySem.W.Frag) : Prop := obsH fa fn ts ex K = valH fn ts w
/-- the objects that the walk leans on: the module's names, the codes of its functions, its classes' names and their functions' codes -/
def valsH (g : Addr → Option Obj) (a : Addr) : List Addr := match g a with
  | some ⟨_, _, .dict es _, _⟩ => es.toList.flatMap fun e => He.refV e.val
  | _ => []
def codeH (g : Addr → Option Obj) (a : Addr) : List Addr := match g a with
  | some ⟨_, _, .func fd, _⟩ => He.refV fd.code
  | _ => []
def clsH (g : Addr → Option Obj) (a : Addr) : List Addr := match g a with
  | some ⟨_, _, .cls cd, _⟩ => cd.ns :: (valsH g cd.ns ++ (valsH g cd.ns).flatMap (codeH g))
  | _ => []
def asH (g : Addr → Option Obj) : List Addr := mainGlobals :: cStatics :: (valsH g mainGlobals ++ ((valsH g mainGlobals).flatMap (codeH g) ++ (valsH g mainGlobals).flatMap (clsH g)))
def obsHG (n : Nat) (fa : List He.Fa) (fn : List He.FnD) (ts : List TabH) (ex : PySem.W.Frag → Bool) (g : Addr → Option Obj) : AlH := obsH fa fn ts ex (He.frG g (asH g))
def hookH (n : Nat) (fa : List He.Fa) (fn : List He.FnD) (ts : List TabH) (ex : PySem.W.Frag → Bool) : PySem.W.Hook where
  α := AlH
  obs := fun s => obsHG n fa fn ts ex s.heap.get?
  val := fun w => valH fn ts w
  says := fun w h => ∃ K : PySem.W.Frag, K.In h ∧ SaysH fa fn ts ex w K
  of := fun _ _ e => ⟨_, He.frG_in, e⟩
  keeps := fun _ _ _ ⟨K, hK, c⟩ k => ⟨K, PySem.W.Frag.In.keeps hK k, c⟩
theorem obsHG_eq {n : Nat} {fa : List He.Fa} {fn : List He.FnD} {ts : List TabH} {ex : PySem.W.Frag → Bool} {g : Addr → Option Obj} {s : Shared} (h : ∀ a, g a = s.heap.get? a) : obsHG n fa fn ts ex g = (hookH n fa fn ts ex).obs s := by
  have e : g = s.heap.get? := funext h
  rw [e] <;> rfl
section
variable {fa : List He.Fa} {fn : List He.FnD} {ts : List TabH} {ex : PySem.W.Frag → Bool} {w : PySem.World} {K : PySem.W.Frag}
theorem SaysH.bools (c : SaysH fa fn ts ex w K) : (fa.all fun f => f.ok K) = true ∧ (fn.all fun d => (He.Fa.code d.at_ d.qual).ok K) = true ∧ ex K = true := by
  have h : ((fa.all fun f => f.ok K) && ((fn.all fun d => (He.Fa.code d.at_ d.qual).ok K) && ex K)) = true := congrArg (fun z : AlH => z.1.1) c
  rw [Bool.and_eq_true, Bool.and_eq_true] at h
  exact h
theorem SaysH.fact (c : SaysH fa fn ts ex w K) (i : Nat) {f : He.Fa} (h : fa[i]? = some f := by rfl) : f.ok K = true :=
  List.all_eq_true.mp c.bools.1 f (List.mem_of_getElem? h)
theorem SaysH.exq (c : SaysH fa fn ts ex w K) : ex K = true := c.bools.2.2
theorem SaysH.def_ (c : SaysH fa fn ts ex w K) (i : Nat) {d : He.FnD} (h : fn[i]? = some d := by rfl) :
    ∃ oc od osl kV doc pm an cdv ct, K.lookup (He.fAd K d.at_) = some ⟨oc, od, .func (PySem.W.fnOf d.name d.qual d.params d.body d.scope .none kV doc pm an cdv ct), osl⟩ ∧ PySem.W.codeIn K cdv d.qual = true := by
  have c2 := c.bools.2.1
  have e : fn.map (fun d => He.fnObs K d.at_) = fn.map He.FnD.val := congrArg (fun z : AlH => z.1.2) c
  have e2 : (fn.map fun d => He.fnObs K d.at_)[i]? = (fn.map He.FnD.val)[i]? := by rw [e]
  rw [List.getElem?_map, List.getElem?_map, h] at e2
  exact He.fn_ok (Option.some.inj e2) (List.all_eq_true.mp c2 d (List.mem_of_getElem? h))
end
/-- the law's end -/
theorem walkH {l : PySem.W.OpenLaw} {n k : Nat} {q : Program} {loose : List Str} {XP : (Str → Option Value) → Heap → Prop} {YP : PySem.World → Heap → Prop} {d : DefRec} {x : Str} (φ : Den)
    (hn : l.most = some n) (hn2 : n ≤ sizeLine) (hdf : d.params.defaults = []) (hr : Room k callerA)
    (F : ∀ (w : PySem.World) (mg : Str → Option Value) (fa : Addr) (h : Heap), YP w h → h.Ns mainGlobals mg → mg d.name = some (.ref fa) →
      ∃ (K : PySem.W.Frag) (fd : FuncData), K.In h ∧ (∀ (s : Shared) (u : Value), BindsTo s fd ⟨[u], []⟩ [(x, u)]) ∧
        ∀ base : Heap, K.In base → base.Ns mainGlobals mg → FnOk l.prog w K mg base (L2.CX l.prog w) k fa fd [x] (spD K mg 1 0 φ))
    (hφ : ∀ ns : List Int, ns.length ≤ n → ∃ W, φ [.bo (ns.map D.int)] [] = .ok (.bl true) W) :
    PySem.W.WalkO q loose XP YP l.row.toRowW d [] (fun f vs => PySem.call f vs) := by
  refine Att.attach_call hn hdf fun w s₀ s₁ mg mb fa o pm cd doc a vs ns G Y ho hd hcd hmg hobj hints hlen hg => ?_
  obtain ⟨K, fd, KX, hb, hF⟩ := F w mg fa _ Y G.T.g hmg
  refine law_call KX G.T.g G.T.b G.T.builtins G.T.nolimit hg hobj hints (Nat.le_trans hlen hn2) hr hF hb (fun H hO hS => ?_) fun H e s' z => by
    obtain ⟨_, _, _, _, _, _, _, _, _, _, _, _, z⟩ := z
    exact z.elim
  obtain ⟨W, e⟩ := hφ ns hlen
  have gs : GS K [] (fun _ => none) H [] := ⟨fun _ _ h => (nomatch h), .nil, fun _ h => (nomatch h), rfl, fun _ _ _ h => by simp at h⟩
  refine ⟨[], fun _ => none, [], [.bo (ns.map D.int)], rfl, gs, ?_, rfl, ?_⟩
  · have hl : (ns.map D.int).length ≤ LINE := by rw [List.length_map, LINE_eq]; exact Nat.le_trans hlen hn2
    refine .cons ⟨a, ns.map V.int, rfl, hl, ints_is ns, ?_⟩ .nil
    rcases hS with hS | hS
    · exact .inl ⟨by simp, hS, hS⟩
    · exact .inr hS
  · rw [e]
    intro _ v A' G' H' g x i
    cases i.toS rfl
    rfl
/-- decided facts of a fragment, from a list of Bools -/
theorem and_all {bs : List Bool} (h : (bs.all id) = true) (i : Nat) {b : Bool} (hi : bs[i]? = some b := by rfl) : b = true := List.all_eq_true.mp h b (List.mem_of_getElem? hi)
section
variable {fa : List He.Fa} {fn : List He.FnD} {ts : List TabH} {ex : PySem.W.Frag → Bool} {w : PySem.World} {K : PySem.W.Frag} {h : Heap} {mg : Str → Option Value}
theorem H_glo (c : SaysH fa fn ts ex w K) {x : Str} (i : Nat) (hi : fa[i]? = some (.glo x) := by rfl) : PySem.W.nsIn K mainGlobals x = some (some (.ref (He.ga K x))) := He.eqO_ok (c.fact i hi)
abbrev dfn (at_ : Str × Option Str) (name qual : Str) (st : Stmt) : He.FnD := ⟨at_, name, qual, defArgs st, defBody st, defScope st⟩
abbrev HB (name qual : Str) (st : Stmt) (ps : List Str) : Prop := ∀ (kV doc pm : Value) (an : Option Addr) (cdv ct : Value) (us : List Value), us.length = ps.length → bindArgs (PySem.W.fnOf name qual (defArgs st) (defBody st) (defScope st) .none kV doc pm an cdv ct) ⟨us, []⟩ = pure (ps.zip us)
theorem H_fun (c : SaysH fa fn ts ex w K) {at_ : Str × Option Str} {name qual : Str} {st : Stmt} {ps : List Str} (k : Nat) (h3 : fn[k]? = some (dfn at_ name qual st)) (kp : PySem.W.keepIn K (.ref (He.fAd K at_)) = true) (hb : HB name qual st ps) :
    ∃ fd, Fun K name qual st (He.fAd K at_) fd ∧ Binds K fd ps [] := by
  obtain ⟨oc, od, osl, kV, doc, pm, an, cdv, ct, l, cc⟩ := c.def_ k h3
  exact ⟨_, fun_mk l cc kp, (fun_mk l cc kp).binds hb⟩
theorem H_def (X : K.In h) (G : h.Ns mainGlobals mg) (c : SaysH fa fn ts ex w K) {x : Str} {st : Stmt} {ps : List Str} (i j k : Nat) (hb : HB x x st ps) (h1 : fa[i]? = some (.glo x) := by rfl) (h2 : fa[j]? = some (.keep x) := by rfl) (h3 : fn[k]? = some (dfn (x, none) x x st) := by rfl) : DefIs K mg x st ps := by
  obtain ⟨fd, F, b⟩ := H_fun c k h3 (c.fact j h2) hb
  exact ⟨_, fd, F, PySem.W.mg_of X G (H_glo c i h1), b⟩
theorem H_cis (c : SaysH fa fn ts ex w K) {x : Str} (i : Nat) (hi : fa[i]? = some (.glo x) := by rfl) : CIs K x (He.ga K x) := H_glo c i hi
theorem H_r (X : K.In h) (G : h.Ns mainGlobals mg) (c : SaysH fa fn ts ex w K) {x : Str} (i : Nat) (b1 : xcB K (He.ga K x) = true) (b2 : decide (PySem.W.excIn K (He.ga K x) veMro "ValueError.__new__" = true) = true) (h1 : fa[i]? = some (.glo x) := by rfl) : R0 K mg x :=
  ⟨_, PySem.W.mg_of X G (H_glo c i h1), H_cis c i h1, b1, of_decide_eq_true b2⟩
theorem H_i (X : K.In h) (G : h.Ns mainGlobals mg) (c : SaysH fa fn ts ex w K) {x qual : Str} {st : Stmt} (i j k : Nat) (b1 : xcB K (He.ga K x) = true) (b2 : oexB K (He.ga K x) = true) (b3 : decide (PySem.W.findIn K (.ref (He.ga K x)) "__setattr__" = some (some (.builtin "object.__setattr__"))) = true)
    (hb : HB "__init__" qual st ["self", "place"]) (h1 : fa[i]? = some (.glo x) := by rfl) (h2 : fa[j]? = some (.meth x "__init__") := by rfl) (h3 : fn[k]? = some (dfn (x, some "__init__") "__init__" qual st) := by rfl) : I1 K mg x qual st := by
  have M := He.meth_ok (c.fact j h2)
  have kp : PySem.W.keepIn K (.ref (He.fAd K (x, some (Str.ofString "__init__")))) = true := M.kp
  obtain ⟨fd, F, b⟩ := H_fun c k h3 kp hb
  exact ⟨_, _, fd, PySem.W.mg_of X G (H_glo c i h1), H_cis c i h1, b1, b2, of_decide_eq_true b3, M.at_, eq_of_beq M.fn, F, b⟩
def lotB (K : PySem.W.Frag) (L : Addr) : Bool := decide (PySem.W.specialIn K (.ref L) "__getattribute__" = some (some (.builtin "type.__getattribute__"))) && (PySem.W.readsIn K L (.type "type") && (match PySem.W.findCls K (.ref L) (.type "type") "__init__" with
  | some (.val v) => decide (v = .builtin "ValueError.__init__")
  | _ => false))
theorem H_lot (X : K.In h) (G : h.Ns mainGlobals mg) (c : SaysH fa fn ts ex w K) (i : Nat) (b : lotB K (He.ga K "LotError") = true) (h1 : fa[i]? = some (.glo "LotError") := by rfl) : LotI K mg := by
  unfold lotB at b
  rw [Bool.and_eq_true, Bool.and_eq_true] at b
  obtain ⟨b1, b2, b3⟩ := b
  refine ⟨_, .type "type", PySem.W.mg_of X G (H_glo c i h1), of_decide_eq_true b1, b2, ?_⟩
  split at b3
  · rename_i v hv
    rw [hv, of_decide_eq_true b3]
  · cases b3
end
end EV

set_option maxRecDepth 100000
noncomputable section
namespace EV
open PySem PySem.Spec PyProof.Rows L2
section
variable {X : Cx} {Z : XK} {fr : Nat} {pos apos cpos : Pos} {e o i : Expr} {fe fo fi : EF}
end
section
variable {env : Env} {W : World} {fo fi fe : EF}
end
end EV

set_option maxRecDepth 100000
noncomputable section
namespace EV
open PySem PySem.Spec PyProof.Rows L2
section
variable {X : Cx} {Z : XK} {fr : Nat} {pos apos p : Pos} {a b o e : Expr} {fa fb fo fe : EF}
end
end EV

set_option maxRecDepth 100000
noncomputable section
namespace EV
open PySem PySem.Spec PyProof.Rows L2
theorem exT_okN {P : Program} {w : PySem.World} {H : Hp} {h : Heap} {a : Addr} {cls : Value} {d : Option Addr} {oe : Obj} {vs : Array Value} (e : h.get? a = some oe) (z : Zc cls d oe) (dd : oe.data = .fields vs) : ObjOk P w H h a (ExT cls d a) :=
  ⟨⟨oe, vs, e, z, dd⟩, ⟨oe, e⟩, fun _ _ ⟨o, v, q, r⟩ k => ⟨o, v, k o q, r⟩⟩
/-- what makes an exception to be raised gives it as a worth, too -/
theorem pe_of_pmk {X : Cx} {e : Expr} {t : L2.St → Hp → XK → Prop} (he : PMk X e t) : PE X e (fun σ H Q => t σ H fun cls d H' => ∀ a, H' a = none → Q (.ref a) (upd H' a (ExT cls d a))) := by
  refine ⟨fun pins s σ H Q I h => ?_⟩
  refine wpAny_mono (he pins s σ H _ I h) (fun u s1 hu => ?_) fun _ _ x => x
  obtain ⟨a, oe, vs, sI, H', cls, d, rfl, J, k, hne, ha, hz, hd, h1, na, os, ag, r, q⟩ := hu
  have J2 := J.laidN (h' := s1.heap) (o := ExT cls d a) (t' := s1.toks) k hne na (exT_okN ha hz hd)
  refine ⟨.ref a, upd H' a (ExT cls d a), ⟨J2.ok, os.trans J2.os, ag, J2.base, J2.loc, J2.cell, J2.free, J2.freeC, J2.pin, J2.hok, J2.len⟩, rfl, q a na⟩
theorem pe_excT {X : Cx} {C : Addr} {bmB : List Value} {B newId initId : String} {x : Str} {e : Expr} {ta : TE} {p pos : Pos} (F : ExcBaseFacts B newId initId bmB) (q : PySem.W.excIn X.K C bmB newId = true) (gC : X.mg x = some (.ref C)) (kC : PySem.W.keepIn X.K (.ref C) = true) (hg : Gl X x)
    (he : PE X e ta) (hs : starEach [e] X.env = (false, eval e X.env) :: starEach [] X.env := by rfl) (hdb : (x == ("__debug__" : Str)) = false := by decide) :
    PE X (.Call (.Name x p) [e] [] pos) (fun σ H Q => ta σ H fun _ H1 => ∀ a, H1 a = none → Q (.ref a) (upd H1 a (ExT (.ref C) none a))) := by
  refine ⟨fun pins s σ H Q I h => ?_⟩
  refine wpAny_Call_Name_kw (ld_glob I hg gC ?_ hdb)
  refine PySem.W.callWith_K (h₀ := X.base) I.ok.mod.kin kC ?_ hs (by rfl)
  rw [hs]
  show wpAny _ _ (spliced ((false, eval e X.env) :: backTo pos (starEach [] X.env))) _ _ s
  refine Calls.spliced_cons (thn (he.run pins s σ H _ I h) fun u s1 ⟨v, H1, I1, r1, q1⟩ => ?_)
  refine Calls.spliced_nil ⟨I1.kIn, ?_⟩
  show wpAny _ _ (call (.ref C) [u]) _ _ _
  obtain ⟨bm, N, nm, qn, bs, hdct, sn, sub, ab, col, dd, k0, k1, k2, k3, k5, mN, hC, hN, hni, T⟩ := exc_obj I1.kIn q
  refine wpAny_call_exc_subT F T hC hN hni (fun h' a hm => ?_) (by show 1 ≤ sizeLine; rw [sizeLine_eq]; omega)
  have hn : H1 a = none := I1.hok.gone hm.new
  obtain ⟨t, ht, _, _⟩ := hm.there
  exact ⟨.ref a, upd H1 a (ExT (.ref C) none a), I1.laidN hm.keeps hm.new hn (exT_okN ht ⟨rfl, rfl⟩ rfl), rfl, q1 a hn⟩
def eExn0 (c : Str) (f : EF) : EF := fun env W => (f env W).bind fun d W1 => match d with
  | .str _ => .ok (.exn c none) W1
  | _ => .stuck
def eExn1 (c : Str) (f : EF) : EF := fun env W => (f env W).bind fun d W1 => match d with
  | .int i => .ok (.exn c (some i)) W1
  | _ => .stuck
section
variable {X : Cx} {Z : XK} {fr : Nat} {pos pos' p p2 : Pos} {e : Expr} {fe : EF}
theorem d_exn0 {c : Str} (h : R0 X.K X.mg c) (he : DE X Z 0 e fe) (hg : Gl X c := by rfl)
    (hdb : (c == ("__debug__" : Str)) = false := by decide) (hs : starEach [e] X.env = (false, eval e X.env) :: starEach [] X.env := by rfl) : DE X Z fr (.Call (.Name c p) [e] [] pos) (eExn0 c fe) := by
  obtain ⟨C, g, n, b, q⟩ := h.ex
  have k := xcB_ok b
  refine PE.imp (pe_excT F.excBase_ValueError q g k.kC hg he hs hdb) fun σ H Q h => ?_
  obtain ⟨H0, A, G, env, W, g', R, o⟩ := h
  refine tD_of0 (Ext.refl _ _ _) g' R o fun d W1 v A1 G1 H1 g1 y x1 R1 s1 o1 => ?_
  cases d with
  | str s =>
    intro a na
    exact Pst.flat o1 (x1.trans (Ext.alloc g1 na)) (g1.alloc na) (.exn n upd_same rfl) rfl
  | _ => exact o1.elim
theorem d_exn1 {c : Str} (h : R1 X.prog X.w X.K X.mg X.base c) (hr : Room 2 X.A) (he : DE X Z 0 e fe) (hg : Gl X c := by rfl)
    (hdb : (c == ("__debug__" : Str)) = false := by decide) (hs : starEach (e :: []) X.env = (false, eval e X.env) :: starEach [] X.env := by rfl) (hpl : (backTo pos (starEach [] X.env)).any (·.1) = false := by rfl) :
    DE X Z fr (.Call (.Name c p) [e] [] pos) (eExn1 c fe) := by
  obtain ⟨C, g, n, b, I⟩ := h.ex
  obtain ⟨fI, fd, iC, tI, F1, hb⟩ := I.ex
  have k := xcB_ok b
  refine PE.imp (pe_of_pmk (pmk_oex I.cl iC tI F1 hr hb .nil passL hg g (pa_cons he pa_nil hs) hdb hs hpl)) fun σ H Q h => ?_
  obtain ⟨H0, A, G, env, W, g', R, o⟩ := h
  refine tD_of0 (Ext.refl _ _ _) g' R o fun d W1 v A1 G1 H1 g1 y x1 R1 s1 o1 => ?_
  cases d with
  | int i =>
    have ev := sIs_int s1
    subst ev
    refine ⟨(show (1 : Nat) ≤ 1000 by decide), fun a na => ⟨a, .int i, rfl, I.cl, I.np, upd_same, fun dx nd ne => ⟨rfl, dx, [("place", .int i)], ?_, ?_, ?_, ?_⟩⟩⟩
    · rw [upd_same]
    · rw [upd_ne ne, upd_same]
    · rw [upd_ne ne] at nd
      exact nd
    · rw [upd_ne ne] at nd
      have eH : upd (del (upd (upd (upd H1 a (exo a C none)) dx (exd dx [("place", .int i)])) a (exo a C (some dx))) a) dx (.xd [("place", .int i)]) = upd H1 dx (.xd [("place", .int i)]) := by
        funext b
        by_cases hb : b = dx
        · rw [hb, upd_same, upd_same]
        · rw [upd_ne hb, upd_ne hb]
          by_cases hba : b = a
          · rw [hba, del_same, na]
          · rw [del_ne hba, upd_ne hba, upd_ne hb, upd_ne hba]
      rw [eH]
      intro a' na'
      have ndx : dx ≠ a' := fun z => by
        rw [← z, upd_same] at na'
        cases na'
      have g2 := g1.alloc (o := .xd [("place", .int i)]) nd
      have e2 := x1.trans (Ext.alloc (o := .xd [("place", .int i)]) g1 nd)
      exact Pst.flat o1 (e2.trans (Ext.alloc g2 na')) (g2.alloc na') (.exn n upd_same ⟨dx, rfl, by rw [upd_ne ndx, upd_same]⟩) rfl
  | _ => exact o1.elim
end
def lotXB (K : PySem.W.Frag) (L : Addr) (cs : List (Str × Addr)) : Bool :=
  xcB K L && (decide (PySem.W.kitOne K (.ref L) (.ref L) = some true) && (decide (PySem.W.kitOne K (.ref L) (.type "ValueError") = some true) && (decide (("LotError" : Str) ∉ cs.map (·.1)) && cs.all fun q => decide (PySem.W.kitOne K (.ref L) (.ref q.2) = some false))))
structure LotX (K : PySem.W.Frag) (mg : Str → Option Value) (ns : List Str) : Prop where
  ex : ∃ L cs, Excs K mg L cs ∧ cs.map (·.1) = ns ∧ CIs K "LotError" L ∧ lotXB K L cs = true
theorem LotX.mk' {K : PySem.W.Frag} {mg : Str → Option Value} {L : Addr} {cs : List (Str × Addr)} {ns : List Str} (hn : cs.map (·.1) = ns) (h1 : ∀ p, p ∈ cs → CIs K p.1 p.2) (h2 : ∀ p, p ∈ cs → mg p.1 = some (.ref p.2)) (h3 : mg "LotError" = some (.ref L)) (h4 : excsB K L cs = true) (h5 : CIs K "LotError" L) (h6 : lotXB K L cs = true) : LotX K mg ns :=
  ⟨L, cs, ⟨h1, h2, h3, h4⟩, hn, h5, h6⟩
def eIsE2 (ns : List Str) (b : Str → Bool) (bL : Bool) (f : EF) : EF := fun env W => (f env W).bind fun d W1 => match d with
  | .exn c _ => if c ∈ ns then .ok (.bl (b c)) W1 else if c = Str.ofString "LotError" then .ok (.bl bL) W1 else .stuck
  | _ => .stuck
section
variable {X : Cx} {Z : XK} {fr : Nat} {pos p p2 : Pos} {a : Expr} {fa : EF} {L : Addr} {cs : List (Str × Addr)} {ns : List Str}
theorem d_isXL {D : V} {u : Value} {b : Str → Bool} {bL : Bool} {ec : Expr} {p : Pos} (T : Excs X.K X.mg L cs) (hL : CIs X.K "LotError" L) (hx : XcC X.K L) (hm : X.mg "isinstance" = none) (hc : ∀ {te : TE}, (∀ σ H Q, te σ H Q → Q D H) → PE X ec te) (kD : ClsV D u)
    (hb : ∀ c C, (c, C) ∈ cs → PySem.W.kitOne X.K (.ref C) u = some (b c)) (hbL : PySem.W.kitOne X.K (.ref L) u = some bL) (ha : DE X Z 0 a fa) (hg : Gl X "isinstance" := by rfl)
    (hs1 : starEach [a, ec] X.env = (false, eval a X.env) :: starEach [ec] X.env := by rfl) (hs2 : starEach [ec] X.env = (false, eval ec X.env) :: starEach [] X.env := by rfl) (hpl : (backTo pos (starEach [ec] X.env)).any (·.1) = false := by rfl) :
    DE X Z fr (.Call (.Name "isinstance" p) [a, ec] [] pos) (eIsE2 (cs.map (·.1)) b bL fa) :=
  PE.imp (pe_callB call_isX hg hm boot_isinstance (pa_cons ha (pa_cons (hc (te := fun σ H Q => Q D H) fun _ _ _ q => q) pa_nil hs2) hs1) (by decide) (by decide) hs1 hpl) fun σ H Q h => by
  obtain ⟨H0, A, G, env, W, g, R, o⟩ := h
  refine tD_of0 (Ext.refl _ _ _) g R o fun d W1 v A1 G1 H1 g1 _ x1 R1 s1 o1 => ?_
  cases d with
  | exn c p =>
    by_cases hm : c ∈ cs.map (·.1)
    · simp only [if_pos hm] at o1
      obtain ⟨C', hC'⟩ := mem_names hm
      cases SIs.is s1 rfl with
      | exn h1 h2 h3 =>
        have e := cIs_eq h1 (T.ns _ hC')
        subst e
        exact ⟨_, _, _, p, D, u, b c, rfl, g1.sub _ _ h2, h3.sub g1.sub, T.cls hC', kD, hb c _ hC', T.gt, T.tk, o1.bl x1 g1⟩
    · by_cases hl : c = Str.ofString "LotError"
      · simp only [if_neg hm, if_pos hl] at o1
        cases SIs.is s1 rfl with
        | exn h1 h2 h3 =>
          rw [hl] at h1
          have e := cIs_eq h1 hL
          subst e
          exact ⟨_, _, _, p, D, u, bL, rfl, g1.sub _ _ h2, h3.sub g1.sub, hx, kD, hbL, T.gt, T.tk, o1.bl x1 g1⟩
      · simp only [if_neg hm, if_neg hl] at o1; exact o1.elim
  | _ => exact o1.elim
theorem lotXB_ok {K : PySem.W.Frag} (h : lotXB K L cs = true) : XcC K L ∧ PySem.W.kitOne K (.ref L) (.ref L) = some true ∧ PySem.W.kitOne K (.ref L) (.type "ValueError") = some true ∧ ∀ d D, (d, D) ∈ cs → PySem.W.kitOne K (.ref L) (.ref D) = some false := by
  unfold lotXB at h
  simp only [Bool.and_eq_true, decide_eq_true_eq] at h
  obtain ⟨h1, h2, h3, _, h5⟩ := h
  exact ⟨xcB_ok h1, h2, h3, fun d D hd => of_decide_eq_true (List.all_eq_true.mp h5 _ hd)⟩
theorem r_isC2 {c : Str} (T : LotX X.K X.mg ns) (hcn : c ∈ ns) (hm : X.mg "isinstance" = none) (ha : DE X Z 0 a fa) (hgc : Gl X c := by rfl) (hdc : (c == ("__debug__" : Str)) = false := by decide) (hg : Gl X "isinstance" := by rfl)
    (hs1 : starEach [a, .Name c p2] X.env = (false, eval a X.env) :: starEach [.Name c p2] X.env := by rfl) (hs2 : starEach [.Name c p2] X.env = (false, eval (.Name c p2) X.env) :: starEach [] X.env := by rfl) (hpl : (backTo pos (starEach [.Name c p2] X.env)).any (·.1) = false := by rfl) :
    DE X Z fr (.Call (.Name "isinstance" p) [a, .Name c p2] [] pos) (eIsE2 ns (fun x => x == c) false fa) := by
  obtain ⟨L, cs, T', rfl, hL, hB⟩ := T.ex
  obtain ⟨D, hD⟩ := mem_names hcn
  obtain ⟨b1, b2, b3, b4⟩ := lotXB_ok hB
  exact d_isXL T' hL b1 hm (fun {te} hw => PE.imp (pe_glob (v := .ref D) hgc (T'.gl _ hD) rfl hdc) hw) (.own D) (fun c' C' h' => (T'.rel h').2.2.2 c D hD) (b4 c D hD) ha hg hs1 hs2 hpl
theorem r_isL2 (T : LotX X.K X.mg ns) (hm : X.mg "isinstance" = none) (ha : DE X Z 0 a fa) (hgc : Gl X "LotError" := by rfl) (hg : Gl X "isinstance" := by rfl)
    (hs1 : starEach [a, .Name "LotError" p2] X.env = (false, eval a X.env) :: starEach [.Name "LotError" p2] X.env := by rfl) (hs2 : starEach [.Name "LotError" p2] X.env = (false, eval (.Name "LotError" p2) X.env) :: starEach [] X.env := by rfl) (hpl : (backTo pos (starEach [.Name "LotError" p2] X.env)).any (·.1) = false := by rfl) :
    DE X Z fr (.Call (.Name "isinstance" p) [a, .Name "LotError" p2] [] pos) (eIsE2 ns (fun _ => true) true fa) := by
  obtain ⟨L, cs, T', rfl, hL, hB⟩ := T.ex
  obtain ⟨b1, b2, b3, b4⟩ := lotXB_ok hB
  exact d_isXL T' hL b1 hm (fun {te} hw => PE.imp (pe_glob (v := .ref L) hgc T'.lot rfl (by decide)) hw) (.own L) (fun c' C' h' => (T'.rel h').2.1) b2 ha hg hs1 hs2 hpl
theorem r_isV2 (T : LotX X.K X.mg ns) (hm : X.mg "isinstance" = none) (hmV : X.mg "ValueError" = none) (ha : DE X Z 0 a fa) (hgc : Gl X "ValueError" := by rfl) (hg : Gl X "isinstance" := by rfl)
    (hs1 : starEach [a, .Name "ValueError" p2] X.env = (false, eval a X.env) :: starEach [.Name "ValueError" p2] X.env := by rfl) (hs2 : starEach [.Name "ValueError" p2] X.env = (false, eval (.Name "ValueError" p2) X.env) :: starEach [] X.env := by rfl) (hpl : (backTo pos (starEach [.Name "ValueError" p2] X.env)).any (·.1) = false := by rfl) :
    DE X Z fr (.Call (.Name "isinstance" p) [a, .Name "ValueError" p2] [] pos) (eIsE2 ns (fun _ => true) true fa) := by
  obtain ⟨L, cs, T', rfl, hL, hB⟩ := T.ex
  obtain ⟨b1, b2, b3, b4⟩ := lotXB_ok hB
  exact d_isXL T' hL b1 hm (fun {te} hw => PE.imp (pe_bltn (v := .ty "ValueError") hgc hmV PyProof.Rows.Boot.«ValueError» rfl (by decide) (by decide)) hw) (.ty "ValueError") (fun c' C' h' => (T'.rel h').2.2.1) b3 ha hg hs1 hs2 hpl
end
@[simp] theorem eIsE2_ap {ns : List Str} {b : Str → Bool} {bL : Bool} {f : EF} {env : Env} {W : World} : eIsE2 ns b bL f env W = (f env W).bind fun d W1 => match d with
  | .exn c _ => if c ∈ ns then .ok (.bl (b c)) W1 else if c = Str.ofString "LotError" then .ok (.bl bL) W1 else .stuck
  | _ => .stuck := id rfl
@[simp] theorem eExn0_ap {c : Str} {f : EF} {env : Env} {W : World} : eExn0 c f env W = (f env W).bind fun d W1 => match d with
  | .str _ => .ok (.exn c none) W1
  | _ => .stuck := id rfl
@[simp] theorem eExn1_ap {c : Str} {f : EF} {env : Env} {W : World} : eExn1 c f env W = (f env W).bind fun d W1 => match d with
  | .int i => .ok (.exn c (some i)) W1
  | _ => .stuck := id rfl
end EV


set_option maxRecDepth 100000
set_option maxHeartbeats 0
noncomputable section
namespace NS
open PySem PySem.Spec PyProof.Rows L2 EV
def topS (i : Nat) : Stmt := PySem.Challenge.pw_lotjoin_k06_refusals_apart.main.body.getD i (.Pass ⟨0, 0, 0, 0⟩)
abbrev s_L_spread : Stmt := topS 16
abbrev n_L_spread : List Str := ["cell", "at", "primes", "one", "two", "three"]
abbrev p_L_spread : List Str := ["cell", "at"]
theorem sc_L_spread : FnScope n_L_spread p_L_spread (defScope s_L_spread) := ⟨rfl, rfl, rfl, by decide +kernel, rfl, by decide +kernel, by decide +kernel⟩
abbrev s_L_open : Stmt := topS 17
abbrev n_L_open : List Str := ["script", "cells", "k", "cell"]
abbrev p_L_open : List Str := ["script"]
theorem sc_L_open : FnScope n_L_open p_L_open (defScope s_L_open) := ⟨rfl, rfl, rfl, by decide +kernel, rfl, by decide +kernel, by decide +kernel⟩
abbrev s_L_anew : Stmt := topS 18
abbrev n_L_anew : List Str := ["pen"]
abbrev p_L_anew : List Str := ["pen"]
theorem sc_L_anew : FnScope n_L_anew p_L_anew (defScope s_L_anew) := ⟨rfl, rfl, rfl, by decide +kernel, rfl, by decide +kernel, by decide +kernel⟩
abbrev s_L_take : Stmt := topS 19
abbrev n_L_take : List Str := ["pen", "many", "at", "cell", "found"]
abbrev p_L_take : List Str := ["pen", "many"]
theorem sc_L_take : FnScope n_L_take p_L_take (defScope s_L_take) := ⟨rfl, rfl, rfl, by decide +kernel, rfl, by decide +kernel, by decide +kernel⟩
abbrev s_L_sign_but : Stmt := topS 20
abbrev n_L_sign_but : List Str := ["pen", "others", "all_signs", "some", "sign"]
abbrev p_L_sign_but : List Str := ["pen", "others"]
theorem sc_L_sign_but : FnScope n_L_sign_but p_L_sign_but (defScope s_L_sign_but) := ⟨rfl, rfl, rfl, by decide +kernel, rfl, by decide +kernel, by decide +kernel⟩
abbrev s_L_any_sign : Stmt := topS 21
abbrev n_L_any_sign : List Str := ["pen"]
abbrev p_L_any_sign : List Str := ["pen"]
theorem sc_L_any_sign : FnScope n_L_any_sign p_L_any_sign (defScope s_L_any_sign) := ⟨rfl, rfl, rfl, by decide +kernel, rfl, by decide +kernel, by decide +kernel⟩
abbrev s_L_same : Stmt := topS 22
abbrev n_L_same : List Str := ["found", "due", "one", "other"]
abbrev p_L_same : List Str := ["found", "due"]
theorem sc_L_same : FnScope n_L_same p_L_same (defScope s_L_same) := ⟨rfl, rfl, rfl, by decide +kernel, rfl, by decide +kernel, by decide +kernel⟩
abbrev s_L_refusal : Stmt := topS 23
abbrev n_L_refusal : List Str := ["caught", "some", "words", "at"]
abbrev p_L_refusal : List Str := ["caught"]
theorem sc_L_refusal : FnScope n_L_refusal p_L_refusal (defScope s_L_refusal) := ⟨rfl, rfl, rfl, by decide +kernel, rfl, by decide +kernel, by decide +kernel⟩
abbrev s_law : Stmt := topS 24
abbrev n_law : List Str := ["script", "pen", "turn", "many", "text", "k", "place", "some", "due", "one"]
abbrev p_law : List Str := ["script"]
theorem sc_law : FnScope n_law p_law (defScope s_law) := ⟨rfl, rfl, rfl, by decide +kernel, rfl, by decide +kernel, by decide +kernel⟩
abbrev s_i_NoHouse : Stmt := inClass (topS 5) 0
theorem sc_i_NoHouse : FnScope ["self", "place"] ["self", "place"] (defScope s_i_NoHouse) := ⟨rfl, rfl, rfl, by decide +kernel, rfl, by decide +kernel, by decide +kernel⟩
abbrev s_i_NoJoin : Stmt := inClass (topS 3) 0
theorem sc_i_NoJoin : FnScope ["self", "place"] ["self", "place"] (defScope s_i_NoJoin) := ⟨rfl, rfl, rfl, by decide +kernel, rfl, by decide +kernel, by decide +kernel⟩
abbrev s_i_NoStep : Stmt := inClass (topS 4) 0
theorem sc_i_NoStep : FnScope ["self", "place"] ["self", "place"] (defScope s_i_NoStep) := ⟨rfl, rfl, rfl, by decide +kernel, rfl, by decide +kernel, by decide +kernel⟩
abbrev s_i_NoWay : Stmt := inClass (topS 2) 0
theorem sc_i_NoWay : FnScope ["self", "place"] ["self", "place"] (defScope s_i_NoWay) := ⟨rfl, rfl, rfl, by decide +kernel, rfl, by decide +kernel, by decide +kernel⟩

set_option maxHeartbeats 0
def faH0 : List He.Fa := [.glo (Str.ofString "_law_spread"),
  .keep (Str.ofString "_law_spread"),
  .glo (Str.ofString "_law_open"),
  .keep (Str.ofString "_law_open"),
  .glo (Str.ofString "_law_anew"),
  .keep (Str.ofString "_law_anew"),
  .glo (Str.ofString "_law_take"),
  .keep (Str.ofString "_law_take"),
  .glo (Str.ofString "_law_sign_but"),
  .keep (Str.ofString "_law_sign_but"),
  .glo (Str.ofString "_law_any_sign"),
  .keep (Str.ofString "_law_any_sign"),
  .glo (Str.ofString "_law_same"),
  .keep (Str.ofString "_law_same"),
  .glo (Str.ofString "_law_refusal"),
  .keep (Str.ofString "_law_refusal"),
  .free (Str.ofString "ValueError"),
  .free (Str.ofString "bool"),
  .free (Str.ofString "enumerate"),
  .free (Str.ofString "int")]
def faH1 : List He.Fa := [.free (Str.ofString "isinstance"),
  .free (Str.ofString "len"),
  .free (Str.ofString "list"),
  .free (Str.ofString "range"),
  .free (Str.ofString "str"),
  .free (Str.ofString "tuple"),
  .free (Str.ofString "zip"),
  .glo (Str.ofString "LotError"),
  .glo (Str.ofString "NoWay"),
  .glo (Str.ofString "NoJoin"),
  .glo (Str.ofString "NoStep"),
  .glo (Str.ofString "NoHouse"),
  .glo (Str.ofString "NoWeb"),
  .glo (Str.ofString "NoPrice"),
  .glo (Str.ofString "Closed"),
  .glo (Str.ofString "Free"),
  .glo (Str.ofString "Nothing"),
  .glo (Str.ofString "NoNumber"),
  .glo (Str.ofString "NoText"),
  .glo (Str.ofString "NoLine")]
def faH2 : List He.Fa := [.glo (Str.ofString "TooMany"),
  .meth (Str.ofString "NoHouse") (Str.ofString "__init__"),
  .meth (Str.ofString "NoJoin") (Str.ofString "__init__"),
  .meth (Str.ofString "NoStep") (Str.ofString "__init__"),
  .meth (Str.ofString "NoWay") (Str.ofString "__init__"),
  .glo (Str.ofString "law"),
  .keep (Str.ofString "law")]
def faH : List He.Fa := faH0 ++ faH1 ++ faH2
def fnH0 : List He.FnD := [dfn (Str.ofString "_law_spread", none) (Str.ofString "_law_spread") (Str.ofString "_law_spread") s_L_spread,
  dfn (Str.ofString "_law_open", none) (Str.ofString "_law_open") (Str.ofString "_law_open") s_L_open,
  dfn (Str.ofString "_law_anew", none) (Str.ofString "_law_anew") (Str.ofString "_law_anew") s_L_anew,
  dfn (Str.ofString "_law_take", none) (Str.ofString "_law_take") (Str.ofString "_law_take") s_L_take,
  dfn (Str.ofString "_law_sign_but", none) (Str.ofString "_law_sign_but") (Str.ofString "_law_sign_but") s_L_sign_but,
  dfn (Str.ofString "_law_any_sign", none) (Str.ofString "_law_any_sign") (Str.ofString "_law_any_sign") s_L_any_sign,
  dfn (Str.ofString "_law_same", none) (Str.ofString "_law_same") (Str.ofString "_law_same") s_L_same,
  dfn (Str.ofString "_law_refusal", none) (Str.ofString "_law_refusal") (Str.ofString "_law_refusal") s_L_refusal,
  dfn (Str.ofString "NoHouse", some (Str.ofString "__init__")) (Str.ofString "__init__") (Str.ofString "NoHouse.__init__") s_i_NoHouse,
  dfn (Str.ofString "NoJoin", some (Str.ofString "__init__")) (Str.ofString "__init__") (Str.ofString "NoJoin.__init__") s_i_NoJoin,
  dfn (Str.ofString "NoStep", some (Str.ofString "__init__")) (Str.ofString "__init__") (Str.ofString "NoStep.__init__") s_i_NoStep,
  dfn (Str.ofString "NoWay", some (Str.ofString "__init__")) (Str.ofString "__init__") (Str.ofString "NoWay.__init__") s_i_NoWay,
  dfn (Str.ofString "law", none) (Str.ofString "law") (Str.ofString "law") s_law]
def fnH : List He.FnD := fnH0
def tsH : List TabH := []
def exL (K : PySem.W.Frag) : List Bool := [excsB K (He.ga K (Str.ofString "LotError")) [("NoWay", (He.ga K (Str.ofString "NoWay"))), ("NoJoin", (He.ga K (Str.ofString "NoJoin"))), ("NoStep", (He.ga K (Str.ofString "NoStep"))), ("NoHouse", (He.ga K (Str.ofString "NoHouse"))), ("NoWeb", (He.ga K (Str.ofString "NoWeb"))), ("NoPrice", (He.ga K (Str.ofString "NoPrice"))), ("Closed", (He.ga K (Str.ofString "Closed"))), ("Free", (He.ga K (Str.ofString "Free"))), ("Nothing", (He.ga K (Str.ofString "Nothing"))), ("NoNumber", (He.ga K (Str.ofString "NoNumber"))), ("NoText", (He.ga K (Str.ofString "NoText"))), ("NoLine", (He.ga K (Str.ofString "NoLine"))), ("TooMany", (He.ga K (Str.ofString "TooMany")))],
  lotXB K (He.ga K (Str.ofString "LotError")) [("NoWay", (He.ga K (Str.ofString "NoWay"))), ("NoJoin", (He.ga K (Str.ofString "NoJoin"))), ("NoStep", (He.ga K (Str.ofString "NoStep"))), ("NoHouse", (He.ga K (Str.ofString "NoHouse"))), ("NoWeb", (He.ga K (Str.ofString "NoWeb"))), ("NoPrice", (He.ga K (Str.ofString "NoPrice"))), ("Closed", (He.ga K (Str.ofString "Closed"))), ("Free", (He.ga K (Str.ofString "Free"))), ("Nothing", (He.ga K (Str.ofString "Nothing"))), ("NoNumber", (He.ga K (Str.ofString "NoNumber"))), ("NoText", (He.ga K (Str.ofString "NoText"))), ("NoLine", (He.ga K (Str.ofString "NoLine"))), ("TooMany", (He.ga K (Str.ofString "TooMany")))],
  xcB K (He.ga K (Str.ofString "Closed")),
  decide (PySem.W.excIn K (He.ga K (Str.ofString "Closed")) veMro "ValueError.__new__" = true),
  xcB K (He.ga K (Str.ofString "Free")),
  decide (PySem.W.excIn K (He.ga K (Str.ofString "Free")) veMro "ValueError.__new__" = true),
  xcB K (He.ga K (Str.ofString "LotError")),
  decide (PySem.W.excIn K (He.ga K (Str.ofString "LotError")) veMro "ValueError.__new__" = true),
  xcB K (He.ga K (Str.ofString "NoLine")),
  decide (PySem.W.excIn K (He.ga K (Str.ofString "NoLine")) veMro "ValueError.__new__" = true),
  xcB K (He.ga K (Str.ofString "NoNumber")),
  decide (PySem.W.excIn K (He.ga K (Str.ofString "NoNumber")) veMro "ValueError.__new__" = true),
  xcB K (He.ga K (Str.ofString "NoPrice")),
  decide (PySem.W.excIn K (He.ga K (Str.ofString "NoPrice")) veMro "ValueError.__new__" = true),
  xcB K (He.ga K (Str.ofString "NoText")),
  decide (PySem.W.excIn K (He.ga K (Str.ofString "NoText")) veMro "ValueError.__new__" = true),
  xcB K (He.ga K (Str.ofString "NoWeb")),
  decide (PySem.W.excIn K (He.ga K (Str.ofString "NoWeb")) veMro "ValueError.__new__" = true),
  xcB K (He.ga K (Str.ofString "Nothing")),
  decide (PySem.W.excIn K (He.ga K (Str.ofString "Nothing")) veMro "ValueError.__new__" = true),
  xcB K (He.ga K (Str.ofString "TooMany")),
  decide (PySem.W.excIn K (He.ga K (Str.ofString "TooMany")) veMro "ValueError.__new__" = true),
  xcB K (He.ga K (Str.ofString "NoHouse")),
  oexB K (He.ga K (Str.ofString "NoHouse")),
  decide (PySem.W.findIn K (.ref (He.ga K (Str.ofString "NoHouse"))) "__setattr__" = some (some (.builtin "object.__setattr__"))),
  xcB K (He.ga K (Str.ofString "NoJoin")),
  oexB K (He.ga K (Str.ofString "NoJoin")),
  decide (PySem.W.findIn K (.ref (He.ga K (Str.ofString "NoJoin"))) "__setattr__" = some (some (.builtin "object.__setattr__"))),
  xcB K (He.ga K (Str.ofString "NoStep")),
  oexB K (He.ga K (Str.ofString "NoStep")),
  decide (PySem.W.findIn K (.ref (He.ga K (Str.ofString "NoStep"))) "__setattr__" = some (some (.builtin "object.__setattr__"))),
  xcB K (He.ga K (Str.ofString "NoWay")),
  oexB K (He.ga K (Str.ofString "NoWay")),
  decide (PySem.W.findIn K (.ref (He.ga K (Str.ofString "NoWay"))) "__setattr__" = some (some (.builtin "object.__setattr__"))),
  lotB K (He.ga K (Str.ofString "LotError"))]
def exH (K : PySem.W.Frag) : Bool := (exL K).all id
def nmH0 : List PySem.Str := [PySem.Str.ofString "LotError",
  PySem.Str.ofString "NoWay",
  PySem.Str.ofString "NoJoin",
  PySem.Str.ofString "NoStep",
  PySem.Str.ofString "NoHouse",
  PySem.Str.ofString "NoWeb",
  PySem.Str.ofString "NoPrice",
  PySem.Str.ofString "Closed",
  PySem.Str.ofString "Free",
  PySem.Str.ofString "Nothing",
  PySem.Str.ofString "NoNumber",
  PySem.Str.ofString "NoText",
  PySem.Str.ofString "NoLine",
  PySem.Str.ofString "TooMany",
  PySem.Str.ofString "_law_spread",
  PySem.Str.ofString "_law_open",
  PySem.Str.ofString "_law_anew",
  PySem.Str.ofString "_law_take",
  PySem.Str.ofString "_law_sign_but",
  PySem.Str.ofString "_law_any_sign"]
def nmH1 : List PySem.Str := [PySem.Str.ofString "_law_same",
  PySem.Str.ofString "_law_refusal"]
def nmH : List PySem.Str := nmH0 ++ nmH1
abbrev RH : PySem.W.OpenRow := PySem.W.OpenLaw.row PySem.Challenge.rw_lotjoin_k06_refusals_apart
abbrev qv : Program := PySem.W.view RH.prog [24]
abbrev hk : PySem.W.Hook := hookH 5 faH fnH tsH exH
def ob (s : PySem.W.SharedT) : AlH := obsHG 5 faH fnH tsH exH (HandSHeadRun.getT s)
theorem ob_eq (s : PySem.W.SharedT) : ob s = hk.obs s.abs := obsHG_eq (HandSHeadRun.getT_eq s)
theorem run_f (w : PySem.World) : HandSHeadRun.RunEq RH qv hk ob 14000 nmH (w.withFollow "special-get-raises" false) := by
  intro os
  kernel_rfl
theorem run_t (w : PySem.World) : HandSHeadRun.RunEq RH qv hk ob 14000 nmH (w.withFollow "special-get-raises" true) := by
  intro os
  kernel_rfl
theorem run (w : PySem.World) : HandSHeadRun.RunEq RH qv hk ob 14000 nmH w := PySem.W.byRow2 "special-get-raises" (P := fun w => HandSHeadRun.RunEq RH qv hk ob 14000 nmH w) run_f run_t w
set_option maxHeartbeats 200000

set_option maxHeartbeats 0
structure Facts (w : PySem.World) (K : PySem.W.Frag) (mg : Str → Option Value) : Prop where
  d_L_spread : DefIs K mg "_law_spread" s_L_spread p_L_spread
  d_L_open : DefIs K mg "_law_open" s_L_open p_L_open
  d_L_anew : DefIs K mg "_law_anew" s_L_anew p_L_anew
  d_L_take : DefIs K mg "_law_take" s_L_take p_L_take
  d_L_sign_but : DefIs K mg "_law_sign_but" s_L_sign_but p_L_sign_but
  d_L_any_sign : DefIs K mg "_law_any_sign" s_L_any_sign p_L_any_sign
  d_L_same : DefIs K mg "_law_same" s_L_same p_L_same
  d_L_refusal : DefIs K mg "_law_refusal" s_L_refusal p_L_refusal
  z_ValueError : mg "ValueError" = none
  z_bool : mg "bool" = none
  z_enumerate : mg "enumerate" = none
  z_int : mg "int" = none
  z_isinstance : mg "isinstance" = none
  z_len : mg "len" = none
  z_list : mg "list" = none
  z_range : mg "range" = none
  z_str : mg "str" = none
  z_tuple : mg "tuple" = none
  z_zip : mg "zip" = none
  xn : ExcN K mg ["NoWay", "NoJoin", "NoStep", "NoHouse", "NoWeb", "NoPrice", "Closed", "Free", "Nothing", "NoNumber", "NoText", "NoLine", "TooMany"]
  xl : LotX K mg ["NoWay", "NoJoin", "NoStep", "NoHouse", "NoWeb", "NoPrice", "Closed", "Free", "Nothing", "NoNumber", "NoText", "NoLine", "TooMany"]
  r_Closed : R0 K mg "Closed"
  r_Free : R0 K mg "Free"
  r_LotError : R0 K mg "LotError"
  r_NoLine : R0 K mg "NoLine"
  r_NoNumber : R0 K mg "NoNumber"
  r_NoPrice : R0 K mg "NoPrice"
  r_NoText : R0 K mg "NoText"
  r_NoWeb : R0 K mg "NoWeb"
  r_Nothing : R0 K mg "Nothing"
  r_TooMany : R0 K mg "TooMany"
  i_NoHouse : I1 K mg "NoHouse" "NoHouse.__init__" s_i_NoHouse
  i_NoJoin : I1 K mg "NoJoin" "NoJoin.__init__" s_i_NoJoin
  i_NoStep : I1 K mg "NoStep" "NoStep.__init__" s_i_NoStep
  i_NoWay : I1 K mg "NoWay" "NoWay.__init__" s_i_NoWay
  lot : LotI K mg
/-! ### the mirrors -/
def exNs : List Str := ["NoWay", "NoJoin", "NoStep", "NoHouse", "NoWeb", "NoPrice", "Closed", "Free", "Nothing", "NoNumber", "NoText", "NoLine", "TooMany"]
def b_L_spread : SF :=
  (sSeq (sIf (bV (eBin geD (eVar 0) (eBin powD (eC (.int 10)) (eC (.int 18))))) (sRet (eVar 0)) sNil)
  (sSeq (sSet 2 (eLst [(eC (.int 2147483629)), (eC (.int 2147483587)), (eC (.int 2147483579)), (eC (.int 2147483563)), (eC (.int 2147483549)), (eC (.int 2147483543)), (eC (.int 2147483497)), (eC (.int 2147483489))]))
  (sSeq (sSet 2 (eBin addD (eVar 2) (eLst [(eC (.int 2147483477)), (eC (.int 2147483423)), (eC (.int 2147483399)), (eC (.int 2147483353)), (eC (.int 2147483323))])))
  (sSeq (sSet 3 (eBin modD (eBin powD (eBin addD (eBin addD (eBin mulD (eBin modD (eVar 0) (eC (.int 1000000007))) (eBin addD (eBin mulD (eC (.int 2)) (eVar 1)) (eC (.int 69069)))) (eBin mulD (eVar 1) (eC (.int 40503)))) (eC (.int 977))) (eC (.int 3))) (eBin idxD (eVar 2) (eBin modD (eVar 1) (eC (.int 13))))))
  (sSeq (sSet 4 (eBin modD (eBin powD (eBin addD (eBin addD (eBin mulD (eVar 3) (eBin addD (eVar 1) (eC (.int 3)))) (eBin modD (eVar 0) (eC (.int 65537)))) (eC (.int 5))) (eC (.int 5))) (eBin idxD (eVar 2) (eBin modD (eBin addD (eVar 1) (eC (.int 5))) (eC (.int 13))))))
  (sSeq (sSet 5 (eBin modD (eBin powD (eBin addD (eBin addD (eVar 4) (eBin modD (eVar 3) (eC (.int 1009)))) (eVar 1)) (eC (.int 3))) (eBin idxD (eVar 2) (eBin modD (eBin addD (eVar 1) (eC (.int 7))) (eC (.int 13))))))
  (sRet (eBin addD (eBin mulD (eBin addD (eBin mulD (eVar 3) (eC (.int 2147483647))) (eVar 4)) (eC (.int 2147483647))) (eVar 5)))))))))
def den_L_spread : Den := runB 6 b_L_spread
def b_L_open : SF :=
  (sSeq (sOb 1 (eFn oList [(eSlc (eVar 0) pNone (pSome (eC (.int 12))))]))
  (sSeq (sFor (iEnumL true (eSlc (eVar 0) (pSome (eC (.int 12))) (pSome (eC (.int 63))))) (.tup [2, 3]) (sIxW (eVar 1) (eBin modD (eVar 2) (eC (.int 12))) (eBin addD (eBin idxD (eVar 1) (eBin modD (eVar 2) (eC (.int 12)))) (eVar 3))))
  (sRetOb (eLst [(eVar 1), (eC (.int 0)), (eC (.int 0))]))))
def den_L_open : Den := runB 4 b_L_open
def b_L_anew : SF :=
  (sSeq (sIxW (eVar 0) (eC (.int 2)) (eC (.int 0)))
  (sRet (eVar 0)))
def den_L_anew : Den := runB 1 b_L_anew
def b_L_take : SF :=
  (sSeq (sIf (bV (eBin ltD (eBin idxD (eVar 0) (eC (.int 2))) (eVar 1))) (sSeq (sSet 2 (eBin idxD (eVar 0) (eC (.int 1))))
  (sSeq (sSet 3 (eC (.int 0)))
  (sSeq (sIf (bV (eBin ltD (eVar 2) (eFn oLen [(eBin idxD (eVar 0) (eC (.int 0)))]))) (sSet 3 (eBin idxD (eBin idxD (eVar 0) (eC (.int 0))) (eVar 2))) (sIf (bV (eBin gtD (eFn oLen [(eBin idxD (eVar 0) (eC (.int 0)))]) (eC (.int 0)))) (sSet 3 (eBin modD (eBin idxD (eBin idxD (eVar 0) (eC (.int 0))) (eBin modD (eBin addD (eBin mulD (eVar 2) (eC (.int 5))) (eC (.int 3))) (eFn oLen [(eBin idxD (eVar 0) (eC (.int 0)))]))) (eBin addD (eBin powD (eC (.int 10)) (eC (.int 17))) (eVar 2)))) sNil))
  (sSeq (sIxW (eVar 0) (eC (.int 1)) (eBin addD (eVar 2) (eC (.int 1))))
  (sIxW (eVar 0) (eC (.int 2)) (eCall den_L_spread 2 [(eVar 3), (eVar 2)])))))) sNil)
  (sSeq (sSet 4 (eBin modD (eBin idxD (eVar 0) (eC (.int 2))) (eVar 1)))
  (sSeq (sIxW (eVar 0) (eC (.int 2)) (eBin fdvD (eBin idxD (eVar 0) (eC (.int 2))) (eVar 1)))
  (sRet (eVar 4)))))
def den_L_take : Den := runB 5 b_L_take
def b_L_sign_but : SF :=
  (sSeq (sSet 2 (eC (.str " !\"#$&'()*+,-./0123456789:;<=>?@ABCDEFGHIJKLMNOPQRSTUVWXYZ[\\]^_`")))
  (sSeq (sSet 2 (eBin addD (eVar 2) (eC (.str "abcdefghijklmnopqrstuvwxyz{|}~	\n"))))
  (sSeq (sSet 3 (eComp (iStrE (eVar 2)) [4] (.nm 4) (bV (eBin (inO true) (eVar 4) (eVar 1))) (eVar 4)))
  (sRet (eBin idxD (eVar 3) (eCall den_L_take 2 [(eVar 0), (eFn oLen [(eVar 3)])]))))))
def den_L_sign_but : Den := runB 5 b_L_sign_but
def b_L_any_sign : SF :=
  (sRet (eCall den_L_sign_but 2 [(eVar 0), (eC (.str ""))]))
def den_L_any_sign : Den := runB 1 b_L_any_sign
def b_L_same (φ : Den) : SF :=
  (sSeq (sIf (bV (eBin isND (eVar 1) (eC .non))) (sRet (eBin isND (eVar 0) (eC .non))) sNil)
  (sSeq (sIf (bOr (bV (eIsi "bool" (eVar 1))) (bV (eIsi "bool" (eVar 0)))) (sRet (eAnd (eIsi "bool" (eVar 1)) (eAnd (eIsi "bool" (eVar 0)) (eBin eqD (eVar 0) (eVar 1))))) sNil)
  (sSeq (sIf (bV (eIsi "int" (eVar 1))) (sRet (eAnd (eIsi "int" (eVar 0)) (eBin eqD (eVar 0) (eVar 1)))) sNil)
  (sSeq (sIf (bV (eIsi "str" (eVar 1))) (sRet (eAnd (eIsi "str" (eVar 0)) (eBin eqD (eVar 0) (eVar 1)))) sNil)
  (sSeq (sIf (bOr (bV (eBin neD (eIsi "tuple" (eVar 1)) (eIsi "tuple" (eVar 0)))) (bV (eBin neD (eIsi "list" (eVar 1)) (eIsi "list" (eVar 0))))) (sRet (eC (.bl false))) sNil)
  (sSeq (sIf (bV (eBin neD (eFn oLen [(eVar 0)]) (eFn oLen [(eVar 1)]))) (sRet (eC (.bl false))) sNil)
  (sRet (eBin (inO true) (eC (.bl false)) (eComp (iZipL (eVar 0) (eVar 1)) [2, 3] (.tup [2, 3]) bYes (eCall φ 2 [(eVar 2), (eVar 3)]))))))))))
def den_L_same' : Nat → Den
  | 0 => fun _ _ => .stuck
  | n + 1 => runB 4 (b_L_same (den_L_same' n))
def den_L_same : Den := den_L_same' 8
def b_L_refusal : SF :=
  (sSeq (sSet 1 (eLst [(eIsE2 exNs (fun x => x == "NoWay") false (eVar 0)), (eIsE2 exNs (fun x => x == "NoJoin") false (eVar 0)), (eIsE2 exNs (fun x => x == "NoStep") false (eVar 0))]))
  (sSeq (sSet 1 (eBin addD (eVar 1) (eLst [(eIsE2 exNs (fun x => x == "NoHouse") false (eVar 0)), (eIsE2 exNs (fun x => x == "NoWeb") false (eVar 0)), (eIsE2 exNs (fun x => x == "NoPrice") false (eVar 0))])))
  (sSeq (sSet 1 (eBin addD (eVar 1) (eLst [(eIsE2 exNs (fun x => x == "TooMany") false (eVar 0)), (eIsE2 exNs (fun x => x == "Closed") false (eVar 0)), (eIsE2 exNs (fun x => x == "Free") false (eVar 0))])))
  (sSeq (sSet 1 (eBin addD (eVar 1) (eLst [(eIsE2 exNs (fun x => x == "Nothing") false (eVar 0)), (eIsE2 exNs (fun x => x == "NoNumber") false (eVar 0)), (eIsE2 exNs (fun x => x == "NoText") false (eVar 0))])))
  (sSeq (sSet 1 (eBin addD (eVar 1) (eLst [(eIsE2 exNs (fun x => x == "NoLine") false (eVar 0))])))
  (sSeq (sIf (bOr (bV (eBin neD (eMtL cntD (eVar 1) (eC (.bl true))) (eC (.int 1)))) (bOr (bNot (bV (eIsE2 exNs (fun _ => true) true (eVar 0)))) (bNot (bV (eIsE2 exNs (fun _ => true) true (eVar 0)))))) (sRet (eLst [(eC (.str "odd"))])) sNil)
  (sSeq (sSet 2 (eLst [(eC (.str "way")), (eC (.str "join")), (eC (.str "step")), (eC (.str "house")), (eC (.str "web")), (eC (.str "price")), (eC (.str "many")), (eC (.str "closed")), (eC (.str "free")), (eC (.str "nothing")), (eC (.str "number")), (eC (.str "text"))]))
  (sSeq (sSet 3 (eMtL indD (eVar 1) (eC (.bl true))))
  (sRet (eIf (bV (eBin ltD (eVar 3) (eC (.int 4)))) (eLst [(eBin idxD (eVar 2) (eVar 3)), (ePlace exNs (eVar 0))]) (eLst [(eBin idxD (eBin addD (eVar 2) (eLst [(eC (.str "line"))])) (eVar 3))])))))))))))
def den_L_refusal : Den := runB 4 b_L_refusal
def b_law : SF :=
  (sSeq (sSet 1 (eCall den_L_open 1 [(eVar 0)]))
  (sSeq (sFor (iRng1' (eC (.int 3))) (.nm 2) (sSeq (sSet 3 (eBin addD (eC (.int 1)) (eCall den_L_take 2 [(eCall den_L_anew 1 [(eVar 1)]), (eC (.int 5))])))
  (sSeq (sSet 4 (eMtS joinD (eC (.str "")) (eComp (iRng1' (eVar 3)) [5] (.nm 5) bYes (eCall den_L_any_sign 1 [(eVar 1)]))))
  (sSeq (sSet 6 (eBin subD (eCall den_L_take 2 [(eVar 1), (eBin powD (eC (.int 10)) (eC (.int 6)))]) (eC (.int 9))))
  (sSeq (sSet 7 (eLst [(eExn1 "NoWay" (eVar 6)), (eExn1 "NoJoin" (eVar 6)), (eExn1 "NoStep" (eVar 6)), (eExn1 "NoHouse" (eVar 6)), (eExn0 "NoWeb" (eVar 4)), (eExn0 "NoPrice" (eVar 4)), (eExn0 "TooMany" (eVar 4))]))
  (sSeq (sSet 7 (eBin addD (eVar 7) (eLst [(eExn0 "Closed" (eVar 4)), (eExn0 "Free" (eVar 4)), (eExn0 "Nothing" (eVar 4)), (eExn0 "NoNumber" (eVar 4)), (eExn0 "NoText" (eVar 4)), (eExn0 "NoLine" (eVar 4))])))
  (sSeq (sSet 8 (eLst [(eLst [(eC (.str "way")), (eVar 6)]), (eLst [(eC (.str "join")), (eVar 6)]), (eLst [(eC (.str "step")), (eVar 6)]), (eLst [(eC (.str "house")), (eVar 6)]), (eLst [(eC (.str "web"))]), (eLst [(eC (.str "price"))]), (eLst [(eC (.str "many"))])]))
  (sSeq (sSet 8 (eBin addD (eVar 8) (eLst [(eLst [(eC (.str "closed"))]), (eLst [(eC (.str "free"))]), (eLst [(eC (.str "nothing"))]), (eLst [(eC (.str "number"))]), (eLst [(eC (.str "text"))]), (eLst [(eC (.str "line"))])])))
  (sIf (bNot (bV (eCall den_L_same 2 [(eComp (iSeq false (eVar 7)) [9] (.nm 9) bYes (eCall den_L_refusal 1 [(eVar 9)])), (eVar 8)]))) (sRet (eC (.bl false))) sNil)))))))))
  (sRet (eBin eqD (eCall den_L_refusal 1 [(eExn0 "LotError" (eC (.str "a")))]) (eLst [(eC (.str "odd"))])))))
def den_law : Den := runB 10 b_law
section
variable {P : Program} {w : PySem.World} {K : PySem.W.Frag} {mg : Str → Option Value} {base : Heap}
theorem ini_NoHouse (T : Facts w K mg) : R1 P w K mg base "NoHouse" := by
  obtain ⟨L, mc, hL, gL, rL, vL⟩ := T.lot.ex
  refine T.i_NoHouse.r1 fun C fI fd O np F => ?_
  refine Fun.okX F sc_i_NoHouse (fun vs H Q E h => spIni_len h) fun cdv A outer s H vs Q E hr h => ⟨_, pss_cons (ps_expr (pe_otherinit rfl hL gL rL vL (pa_cons (pv 0) (pa_cons pe_str pa_nil)))) (pss_one (ps_ost (pv 0) (pv 1))), ?_⟩
  obtain ⟨a, v, rfl, _, _, ea, q⟩ := h
  exact ⟨.ref a, rfl, a, C, [_], rfl, (by decide), O, ea, v, rfl, .ref a, rfl, a, C, rfl, O, np, .inl ⟨ea, fun dx n ne => q dx n ne⟩⟩
theorem ini_NoJoin (T : Facts w K mg) : R1 P w K mg base "NoJoin" := by
  obtain ⟨L, mc, hL, gL, rL, vL⟩ := T.lot.ex
  refine T.i_NoJoin.r1 fun C fI fd O np F => ?_
  refine Fun.okX F sc_i_NoJoin (fun vs H Q E h => spIni_len h) fun cdv A outer s H vs Q E hr h => ⟨_, pss_cons (ps_expr (pe_otherinit rfl hL gL rL vL (pa_cons (pv 0) (pa_cons pe_str pa_nil)))) (pss_one (ps_ost (pv 0) (pv 1))), ?_⟩
  obtain ⟨a, v, rfl, _, _, ea, q⟩ := h
  exact ⟨.ref a, rfl, a, C, [_], rfl, (by decide), O, ea, v, rfl, .ref a, rfl, a, C, rfl, O, np, .inl ⟨ea, fun dx n ne => q dx n ne⟩⟩
theorem ini_NoStep (T : Facts w K mg) : R1 P w K mg base "NoStep" := by
  obtain ⟨L, mc, hL, gL, rL, vL⟩ := T.lot.ex
  refine T.i_NoStep.r1 fun C fI fd O np F => ?_
  refine Fun.okX F sc_i_NoStep (fun vs H Q E h => spIni_len h) fun cdv A outer s H vs Q E hr h => ⟨_, pss_cons (ps_expr (pe_otherinit rfl hL gL rL vL (pa_cons (pv 0) (pa_cons pe_str pa_nil)))) (pss_one (ps_ost (pv 0) (pv 1))), ?_⟩
  obtain ⟨a, v, rfl, _, _, ea, q⟩ := h
  exact ⟨.ref a, rfl, a, C, [_], rfl, (by decide), O, ea, v, rfl, .ref a, rfl, a, C, rfl, O, np, .inl ⟨ea, fun dx n ne => q dx n ne⟩⟩
theorem ini_NoWay (T : Facts w K mg) : R1 P w K mg base "NoWay" := by
  obtain ⟨L, mc, hL, gL, rL, vL⟩ := T.lot.ex
  refine T.i_NoWay.r1 fun C fI fd O np F => ?_
  refine Fun.okX F sc_i_NoWay (fun vs H Q E h => spIni_len h) fun cdv A outer s H vs Q E hr h => ⟨_, pss_cons (ps_expr (pe_otherinit rfl hL gL rL vL (pa_cons (pv 0) (pa_cons pe_str pa_nil)))) (pss_one (ps_ost (pv 0) (pv 1))), ?_⟩
  obtain ⟨a, v, rfl, _, _, ea, q⟩ := h
  exact ⟨.ref a, rfl, a, C, [_], rfl, (by decide), O, ea, v, rfl, .ref a, rfl, a, C, rfl, O, np, .inl ⟨ea, fun dx n ne => q dx n ne⟩⟩
theorem f_L_spread (T : Facts w K mg) : FnF P w K mg base 1 "_law_spread" 2 0 den_L_spread :=
  have S := sc_L_spread
  FnF.mk' T.d_L_spread sc_L_spread rfl fun f cdv A outer s H E hr =>
  (b_cons (s_if (dt_cmp op_ge sem_ge (nomark _) (d_var 0) (d_pow d_int d_int)) (b_one (s_ret (d_var 0))) b_nil)
  (b_cons (s_set 2 S.nd (DE.mono (d_lst (frm := 0) (da_cons d_int (da_cons d_int (da_cons d_int (da_cons d_int (da_cons d_int (da_cons d_int (da_cons d_int (da_cons d_int da_nil))))))))) (Nat.zero_le _)))
  (b_cons (s_set 2 S.nd (DE.mono (d_add (d_var 2) (DE.mono (d_lst (frm := 0) (da_cons d_int (da_cons d_int (da_cons d_int (da_cons d_int (da_cons d_int da_nil)))))) (Nat.zero_le _))) (Nat.zero_le _)))
  (b_cons (s_set 3 S.nd (d_mod (d_pow (DE.mono (d_add (DE.mono (d_add (d_mul (d_mod (d_var 0) d_int) (DE.mono (d_add (d_mul d_int (d_var 1)) d_int) (Nat.zero_le _))) (d_mul (d_var 1) d_int)) (Nat.zero_le _)) d_int) (Nat.zero_le _)) d_int) (d_idx (d_var 2) (d_mod (d_var 1) d_int))))
  (b_cons (s_set 4 S.nd (d_mod (d_pow (DE.mono (d_add (DE.mono (d_add (d_mul (d_var 3) (DE.mono (d_add (d_var 1) d_int) (Nat.zero_le _))) (d_mod (d_var 0) d_int)) (Nat.zero_le _)) d_int) (Nat.zero_le _)) d_int) (d_idx (d_var 2) (d_mod (DE.mono (d_add (d_var 1) d_int) (Nat.zero_le _)) d_int))))
  (b_cons (s_set 5 S.nd (d_mod (d_pow (DE.mono (d_add (DE.mono (d_add (d_var 4) (d_mod (d_var 3) d_int)) (Nat.zero_le _)) (d_var 1)) (Nat.zero_le _)) d_int) (d_idx (d_var 2) (d_mod (DE.mono (d_add (d_var 1) d_int) (Nat.zero_le _)) d_int))))
  (b_one (s_ret (DE.mono (d_add (d_mul (DE.mono (d_add (d_mul (d_var 3) d_int) (d_var 4)) (Nat.zero_le _)) d_int) (d_var 5)) (Nat.zero_le _))))))))))
theorem f_L_open (T : Facts w K mg) : FnF P w K mg base 1 "_law_open" 1 0 den_L_open :=
  have S := sc_L_open
  FnF.mk' T.d_L_open sc_L_open rfl fun f cdv A outer s H E hr =>
  (b_cons (s_ob 1 S.nd (d_list T.z_list (da_cons (DE.mono (d_slc (d_var 0) dp_none (dp_some d_int)) (Nat.zero_le _)) da_nil)))
  (b_cons (s_for (passes_of rfl) rfl (di_enum T.z_enumerate (DE.mono (d_slc (d_var 0) (dp_some d_int) (dp_some d_int)) (Nat.zero_le _))) (dg_tup (is := [2, 3]) rfl (pgs_cons (pg_name (i := 2) S.nd rfl (by first | exact Or.inl rfl | exact Or.inr rfl) (by first | exact .inl rfl | exact .inr rfl)) (pgs_cons (pg_name (i := 3) S.nd rfl (by first | exact Or.inl rfl | exact Or.inr rfl) (by first | exact .inl rfl | exact .inr rfl)) pgs_nil))) (b_one (s_ixW (d_var 1) (d_mod (d_var 2) d_int) (DE.mono (d_add (d_idx (d_var 1) (d_mod (d_var 2) d_int)) (d_var 3)) (Nat.zero_le _)))))
  (b_one (s_retOb (d_lst (frm := 0) (da_cons (d_var 1) (da_cons d_int (da_cons d_int da_nil))))))))
theorem f_L_anew (T : Facts w K mg) : FnF P w K mg base 1 "_law_anew" 1 0 den_L_anew :=
  have S := sc_L_anew
  FnF.mk' T.d_L_anew sc_L_anew rfl fun f cdv A outer s H E hr =>
  (b_cons (s_ixW (d_var 0) d_int d_int)
  (b_one (s_ret (d_var 0))))
theorem f_L_take (T : Facts w K mg) : FnF P w K mg base 2 "_law_take" 2 0 den_L_take :=
  have S := sc_L_take
  FnF.mk' T.d_L_take sc_L_take rfl fun f cdv A outer s H E hr =>
  (b_cons (s_if (dt_cmp op_lt sem_lt (nomark _) (d_idx (d_var 0) d_int) (d_var 1)) (b_cons (s_set 2 S.nd (d_idx (d_var 0) d_int))
  (b_cons (s_set 3 S.nd d_int)
  (b_cons (s_if (dt_cmp op_lt sem_lt (nomark _) (d_var 2) (d_len T.z_len (da_cons (d_idx (d_var 0) d_int) da_nil))) (b_one (s_set 3 S.nd (d_idx (d_idx (d_var 0) d_int) (d_var 2)))) (b_one (s_if (dt_cmp op_gt sem_gt (nomark _) (d_len T.z_len (da_cons (d_idx (d_var 0) d_int) da_nil)) d_int) (b_one (s_set 3 S.nd (d_mod (d_idx (d_idx (d_var 0) d_int) (d_mod (DE.mono (d_add (d_mul (d_var 2) d_int) d_int) (Nat.zero_le _)) (d_len T.z_len (da_cons (d_idx (d_var 0) d_int) da_nil)))) (DE.mono (d_add (d_pow d_int d_int) (d_var 2)) (Nat.zero_le _))))) b_nil)))
  (b_cons (s_ixW (d_var 0) d_int (DE.mono (d_add (d_var 2) d_int) (Nat.zero_le _)))
  (b_one (s_ixW (d_var 0) d_int (d_call (f_L_spread T) (hr.mono (by first | decide | omega)) (passes_call (takes_of rfl rfl rfl rfl) (fun _ _ _ _ h => h)) (da_cons (d_var 3) (da_cons (d_var 2) da_nil))))))))) b_nil)
  (b_cons (s_set 4 S.nd (d_mod (d_idx (d_var 0) d_int) (d_var 1)))
  (b_cons (s_ixW (d_var 0) d_int (d_fdv (d_idx (d_var 0) d_int) (d_var 1)))
  (b_one (s_ret (d_var 4))))))
theorem f_L_sign_but (T : Facts w K mg) : FnF P w K mg base 3 "_law_sign_but" 2 0 den_L_sign_but :=
  have S := sc_L_sign_but
  FnF.mk' T.d_L_sign_but sc_L_sign_but rfl fun f cdv A outer s H E hr =>
  (b_cons (s_set 2 S.nd d_str)
  (b_cons (s_set 2 S.nd (DE.mono (d_add (d_var 2) d_str) (Nat.zero_le _)))
  (b_cons (s_setLc (i := 3) (fre := 0) (own := [("sign", 4)]) rfl S.nd (di_str (d_var 2)) (blkOk_by rfl) rfl (fun _ _ _ _ _ => (dg_name (i := 4) S.nd)) (fun _ _ _ _ _ => (dts_one (dt_cmp (op_notin_all hr) (sem_in true) rfl (d_var 4) (d_var 1)))) (fun _ _ _ _ _ => (d_var 4)))
  (b_one (s_ret (d_idx (d_var 3) (d_call (f_L_take T) (hr.mono (by first | decide | omega)) (passes_call (takes_of rfl rfl rfl rfl) (fun _ _ _ _ h => h)) (da_cons (d_var 0) (da_cons (d_len T.z_len (da_cons (d_var 3) da_nil)) da_nil)))))))))
theorem f_L_any_sign (T : Facts w K mg) : FnF P w K mg base 4 "_law_any_sign" 1 0 den_L_any_sign :=
  have S := sc_L_any_sign
  FnF.mk' T.d_L_any_sign sc_L_any_sign rfl fun f cdv A outer s H E hr =>
  (b_one (s_ret (d_call (f_L_sign_but T) (hr.mono (by first | decide | omega)) (passes_call (takes_of rfl rfl rfl rfl) (fun _ _ _ _ h => h)) (da_cons (d_var 0) (da_cons d_str da_nil)))))
theorem f_L_same' (T : Facts w K mg) : ∀ n, FnF P w K mg base n "_law_same" 2 0 (den_L_same' n)
  | 0 => FnF.zero' T.d_L_same rfl
  | n + 1 => by
    have h := f_L_same' T n
    have S := sc_L_same
    unfold den_L_same'
    refine FnF.mk' T.d_L_same sc_L_same rfl fun f cdv A outer s H E hr => ?_
    unfold b_L_same
    exact (b_cons (s_if (dt_cmp op_isN sem_isN (nomark _) (d_var 1) d_non) (b_one (s_ret (d_cmp op_isN sem_isN (nomark _) (d_var 0) d_non))) b_nil)
  (b_cons (s_if (dt_w (dw_or (dt_v (d_isi T.z_isinstance T.z_bool boot_bool (d_var 1))) (dw_or1 (dt_v (d_isi T.z_isinstance T.z_bool boot_bool (d_var 0)))))) (b_one (s_ret (d_and (d_isi T.z_isinstance T.z_bool boot_bool (d_var 1)) (d_and (d_isi T.z_isinstance T.z_bool boot_bool (d_var 0)) (d_one (d_cmp (op_eqD hr.units) sem_eq (nomark _) (d_var 0) (d_var 1))))))) b_nil)
  (b_cons (s_if (dt_v (d_isi T.z_isinstance T.z_int boot_int (d_var 1))) (b_one (s_ret (d_and (d_isi T.z_isinstance T.z_int boot_int (d_var 0)) (d_one (d_cmp (op_eqD hr.units) sem_eq (nomark _) (d_var 0) (d_var 1)))))) b_nil)
  (b_cons (s_if (dt_v (d_isi T.z_isinstance T.z_str boot_str (d_var 1))) (b_one (s_ret (d_and (d_isi T.z_isinstance T.z_str boot_str (d_var 0)) (d_one (d_cmp (op_eqD hr.units) sem_eq (nomark _) (d_var 0) (d_var 1)))))) b_nil)
  (b_cons (s_if (dt_w (dw_or (dt_cmp (op_neD hr.units) sem_ne (nomark _) (d_isi T.z_isinstance T.z_tuple boot_tuple (d_var 1)) (d_isi T.z_isinstance T.z_tuple boot_tuple (d_var 0))) (dw_or1 (dt_cmp (op_neD hr.units) sem_ne (nomark _) (d_isi T.z_isinstance T.z_list boot_list (d_var 1)) (d_isi T.z_isinstance T.z_list boot_list (d_var 0)))))) (b_one (s_ret d_bl)) b_nil)
  (b_cons (s_if (dt_cmp (op_neD hr.units) sem_ne (nomark _) (d_len T.z_len (da_cons (d_var 0) da_nil)) (d_len T.z_len (da_cons (d_var 1) da_nil))) (b_one (s_ret d_bl)) b_nil)
  (b_one (s_ret (d_cmp (op_notin_all hr) (sem_in true) rfl d_bl (DE.mono (d_comp (fre := 0) (own := [("one", 2), ("other", 3)]) rfl S.nd (di_zip T.z_zip (d_var 0) (d_var 1)) (blkOk_by rfl) rfl (fun _ _ _ _ _ => (dg_tup (is := [2, 3]) rfl (pgs_cons (pg_name (i := 2) S.nd rfl (by first | exact Or.inl rfl | exact Or.inr rfl) (by first | exact .inl rfl | exact .inr rfl)) (pgs_cons (pg_name (i := 3) S.nd rfl (by first | exact Or.inl rfl | exact Or.inr rfl) (by first | exact .inl rfl | exact .inr rfl)) pgs_nil)))) (fun _ _ _ _ _ => dts_nil) (fun _ _ _ _ _ => (d_call h hr passL (da_cons (d_var 2) (da_cons (d_var 3) da_nil))))) (Nat.zero_le _)))))))))))
theorem f_L_same (T : Facts w K mg) : FnF P w K mg base 8 "_law_same" 2 0 den_L_same := f_L_same' T 8
theorem f_L_refusal (T : Facts w K mg) : FnF P w K mg base 1 "_law_refusal" 1 1 den_L_refusal :=
  have S := sc_L_refusal
  FnF.mk' T.d_L_refusal sc_L_refusal rfl fun f cdv A outer s H E hr =>
  (b_cons (s_set 1 S.nd (DE.mono (d_lst (frm := 0) (da_cons (r_isC2 (c := "NoWay") T.xl (by simp [exNs]) T.z_isinstance (d_var 0)) (da_cons (r_isC2 (c := "NoJoin") T.xl (by simp [exNs]) T.z_isinstance (d_var 0)) (da_cons (r_isC2 (c := "NoStep") T.xl (by simp [exNs]) T.z_isinstance (d_var 0)) da_nil)))) (Nat.zero_le _)))
  (b_cons (s_set 1 S.nd (DE.mono (d_add (d_var 1) (DE.mono (d_lst (frm := 0) (da_cons (r_isC2 (c := "NoHouse") T.xl (by simp [exNs]) T.z_isinstance (d_var 0)) (da_cons (r_isC2 (c := "NoWeb") T.xl (by simp [exNs]) T.z_isinstance (d_var 0)) (da_cons (r_isC2 (c := "NoPrice") T.xl (by simp [exNs]) T.z_isinstance (d_var 0)) da_nil)))) (Nat.zero_le _))) (Nat.zero_le _)))
  (b_cons (s_set 1 S.nd (DE.mono (d_add (d_var 1) (DE.mono (d_lst (frm := 0) (da_cons (r_isC2 (c := "TooMany") T.xl (by simp [exNs]) T.z_isinstance (d_var 0)) (da_cons (r_isC2 (c := "Closed") T.xl (by simp [exNs]) T.z_isinstance (d_var 0)) (da_cons (r_isC2 (c := "Free") T.xl (by simp [exNs]) T.z_isinstance (d_var 0)) da_nil)))) (Nat.zero_le _))) (Nat.zero_le _)))
  (b_cons (s_set 1 S.nd (DE.mono (d_add (d_var 1) (DE.mono (d_lst (frm := 0) (da_cons (r_isC2 (c := "Nothing") T.xl (by simp [exNs]) T.z_isinstance (d_var 0)) (da_cons (r_isC2 (c := "NoNumber") T.xl (by simp [exNs]) T.z_isinstance (d_var 0)) (da_cons (r_isC2 (c := "NoText") T.xl (by simp [exNs]) T.z_isinstance (d_var 0)) da_nil)))) (Nat.zero_le _))) (Nat.zero_le _)))
  (b_cons (s_set 1 S.nd (DE.mono (d_add (d_var 1) (DE.mono (d_lst (frm := 0) (da_cons (r_isC2 (c := "NoLine") T.xl (by simp [exNs]) T.z_isinstance (d_var 0)) da_nil)) (Nat.zero_le _))) (Nat.zero_le _)))
  (b_cons (s_if (dt_w (dw_or (dt_cmp (op_neD hr.units) sem_ne (nomark _) (d_count (d_var 1) d_bl) d_int) (dw_or (dt_not (dt_v (r_isL2 T.xl T.z_isinstance (d_var 0)))) (dw_or1 (dt_not (dt_v (r_isV2 T.xl T.z_isinstance T.z_ValueError (d_var 0)))))))) (b_one (s_ret (d_lst (frm := 0) (da_cons d_str da_nil)))) b_nil)
  (b_cons (s_set 2 S.nd (DE.mono (d_lst (frm := 0) (da_cons d_str (da_cons d_str (da_cons d_str (da_cons d_str (da_cons d_str (da_cons d_str (da_cons d_str (da_cons d_str (da_cons d_str (da_cons d_str (da_cons d_str (da_cons d_str da_nil))))))))))))) (Nat.zero_le _)))
  (b_cons (s_set 3 S.nd (d_index (d_var 1) d_bl))
  (b_one (s_ret (d_if (dt_cmp op_lt sem_lt (nomark _) (d_var 3) d_int) (d_lst (frm := 0) (da_cons (d_idx (d_var 2) (d_var 3)) (da_cons (r_place T.xn (d_var 0)) da_nil))) (d_lst (frm := 0) (da_cons (d_idx (DE.mono (d_add (d_var 2) (DE.mono (d_lst (frm := 0) (da_cons d_str da_nil)) (Nat.zero_le _))) (Nat.zero_le _)) (d_var 3)) da_nil)))))))))))))
theorem ok_law (T : Facts w K mg) {f : Addr} {fd : FuncData} (F : Fun K "law" "law" s_law f fd) : FnOk P w K mg base (L2.CX P w) 9 f fd p_law (spD K mg 1 0 den_law) :=
  have S := sc_law
  fn_ok F sc_law fun cdv A outer s H E hr =>
  (b_cons (s_set 1 S.nd (d_call (f_L_open T) (hr.mono (by first | decide | omega)) (passes_call (takes_of rfl rfl rfl rfl) (fun _ _ _ _ h => h)) (da_cons (d_var 0) da_nil)))
  (b_cons (s_for (passes_of rfl) rfl (di_range1 T.z_range d_int) (dg_name (i := 2) S.nd) (b_cons (s_set 3 S.nd (DE.mono (d_add d_int (d_call (f_L_take T) (hr.mono (by first | decide | omega)) (passes_call (takes_of rfl rfl rfl rfl) (fun _ _ _ _ h => h)) (da_cons (d_call (f_L_anew T) (hr.mono (by first | decide | omega)) (passes_call (takes_of rfl rfl rfl rfl) (fun _ _ _ _ h => h)) (da_cons (d_var 1) da_nil)) (da_cons d_int da_nil)))) (Nat.zero_le _)))
  (b_cons (s_set 4 S.nd (d_join d_str (DE.mono (d_comp (fre := 0) (own := [("k", 5)]) rfl S.nd (di_range1 T.z_range (d_var 3)) (blkOk_by rfl) rfl (fun _ _ _ _ _ => (dg_name (i := 5) S.nd)) (fun _ _ _ _ _ => dts_nil) (fun _ _ _ _ _ => (d_call (f_L_any_sign T) (hr.mono (by first | decide | omega)) passL (da_cons (d_var 1) da_nil)))) (Nat.zero_le _))))
  (b_cons (s_set 6 S.nd (d_sub (d_call (f_L_take T) (hr.mono (by first | decide | omega)) (passes_call (takes_of rfl rfl rfl rfl) (fun _ _ _ _ h => h)) (da_cons (d_var 1) (da_cons (d_pow d_int d_int) da_nil))) d_int))
  (b_cons (s_set 7 S.nd (DE.mono (d_lst (frm := 0) (da_cons (d_exn1 (ini_NoWay T) (hr.mono (by first | decide | omega)) (d_var 6)) (da_cons (d_exn1 (ini_NoJoin T) (hr.mono (by first | decide | omega)) (d_var 6)) (da_cons (d_exn1 (ini_NoStep T) (hr.mono (by first | decide | omega)) (d_var 6)) (da_cons (d_exn1 (ini_NoHouse T) (hr.mono (by first | decide | omega)) (d_var 6)) (da_cons (d_exn0 T.r_NoWeb (d_var 4)) (da_cons (d_exn0 T.r_NoPrice (d_var 4)) (da_cons (d_exn0 T.r_TooMany (d_var 4)) da_nil)))))))) (Nat.zero_le _)))
  (b_cons (s_set 7 S.nd (DE.mono (d_add (d_var 7) (DE.mono (d_lst (frm := 0) (da_cons (d_exn0 T.r_Closed (d_var 4)) (da_cons (d_exn0 T.r_Free (d_var 4)) (da_cons (d_exn0 T.r_Nothing (d_var 4)) (da_cons (d_exn0 T.r_NoNumber (d_var 4)) (da_cons (d_exn0 T.r_NoText (d_var 4)) (da_cons (d_exn0 T.r_NoLine (d_var 4)) da_nil))))))) (Nat.zero_le _))) (Nat.zero_le _)))
  (b_cons (s_set 8 S.nd (DE.mono (d_lst (frm := 0) (da_cons (DE.mono (d_lst (frm := 0) (da_cons d_str (da_cons (d_var 6) da_nil))) (Nat.zero_le _)) (da_cons (DE.mono (d_lst (frm := 0) (da_cons d_str (da_cons (d_var 6) da_nil))) (Nat.zero_le _)) (da_cons (DE.mono (d_lst (frm := 0) (da_cons d_str (da_cons (d_var 6) da_nil))) (Nat.zero_le _)) (da_cons (DE.mono (d_lst (frm := 0) (da_cons d_str (da_cons (d_var 6) da_nil))) (Nat.zero_le _)) (da_cons (DE.mono (d_lst (frm := 0) (da_cons d_str da_nil)) (Nat.zero_le _)) (da_cons (DE.mono (d_lst (frm := 0) (da_cons d_str da_nil)) (Nat.zero_le _)) (da_cons (DE.mono (d_lst (frm := 0) (da_cons d_str da_nil)) (Nat.zero_le _)) da_nil)))))))) (Nat.zero_le _)))
  (b_cons (s_set 8 S.nd (DE.mono (d_add (d_var 8) (DE.mono (d_lst (frm := 0) (da_cons (DE.mono (d_lst (frm := 0) (da_cons d_str da_nil)) (Nat.zero_le _)) (da_cons (DE.mono (d_lst (frm := 0) (da_cons d_str da_nil)) (Nat.zero_le _)) (da_cons (DE.mono (d_lst (frm := 0) (da_cons d_str da_nil)) (Nat.zero_le _)) (da_cons (DE.mono (d_lst (frm := 0) (da_cons d_str da_nil)) (Nat.zero_le _)) (da_cons (DE.mono (d_lst (frm := 0) (da_cons d_str da_nil)) (Nat.zero_le _)) (da_cons (DE.mono (d_lst (frm := 0) (da_cons d_str da_nil)) (Nat.zero_le _)) da_nil))))))) (Nat.zero_le _))) (Nat.zero_le _)))
  (b_one (s_if (dt_not (dt_v (d_call (f_L_same T) (hr.mono (by first | decide | omega)) (passes_call (takes_of rfl rfl rfl rfl) (fun _ _ _ _ h => h)) (da_cons (DE.mono (d_comp (fre := 0) (own := [("one", 9)]) rfl S.nd (di_seq (d_var 7)) (blkOk_by rfl) rfl (fun _ _ _ _ _ => (dg_name (i := 9) S.nd)) (fun _ _ _ _ _ => dts_nil) (fun _ _ _ _ _ => (DE.mono (d_call (f_L_refusal T) (hr.mono (by first | decide | omega)) passL (da_cons (d_var 9) da_nil)) (Nat.zero_le _)))) (Nat.zero_le _)) (da_cons (d_var 8) da_nil))))) (b_one (s_ret d_bl)) b_nil))))))))))
  (b_one (s_ret (d_cmp (op_eqD hr.units) sem_eq (nomark _) (DE.mono (d_call (f_L_refusal T) (hr.mono (by first | decide | omega)) (passes_call (takes_of rfl rfl rfl rfl) (fun _ _ _ _ h => h)) (da_cons (d_exn0 T.r_LotError d_str) da_nil)) (Nat.zero_le _)) (DE.mono (d_lst (frm := 0) (da_cons d_str da_nil)) (Nat.zero_le _)))))))
end
end NS

noncomputable section
namespace NS
open PySem PySem.Spec PyProof.Rows L2 EV
set_option maxHeartbeats 0
theorem facts {l : PySem.W.OpenLaw} {w : PySem.World} {K : PySem.W.Frag} {h : Heap} {mg : Str → Option Value} {f : Addr} (X : K.In h) (G : h.Ns mainGlobals mg) (hfa : mg "law" = some (.ref f)) (c : SaysH faH fnH tsH exH w K) :
    ∃ fd : FuncData, (∀ (s : Shared) (v : Value), BindsTo s fd ⟨[v], []⟩ [("script", v)]) ∧ ∀ base : Heap, K.In base → base.Ns mainGlobals mg → FnOk l.prog w K mg base (L2.CX l.prog w) 9 f fd ["script"] (spD K mg 1 0 den_law) := by
  have E : ((exL K).all id) = true := c.exq
  have T : Facts w K mg := ⟨
    H_def X G c 0 1 0 (fun _ _ _ _ _ _ us hl => match us, hl with | [_, _], _ => rfl),
    H_def X G c 2 3 1 (fun _ _ _ _ _ _ us hl => match us, hl with | [_], _ => rfl),
    H_def X G c 4 5 2 (fun _ _ _ _ _ _ us hl => match us, hl with | [_], _ => rfl),
    H_def X G c 6 7 3 (fun _ _ _ _ _ _ us hl => match us, hl with | [_, _], _ => rfl),
    H_def X G c 8 9 4 (fun _ _ _ _ _ _ us hl => match us, hl with | [_, _], _ => rfl),
    H_def X G c 10 11 5 (fun _ _ _ _ _ _ us hl => match us, hl with | [_], _ => rfl),
    H_def X G c 12 13 6 (fun _ _ _ _ _ _ us hl => match us, hl with | [_, _], _ => rfl),
    H_def X G c 14 15 7 (fun _ _ _ _ _ _ us hl => match us, hl with | [_], _ => rfl),
    He.free_ok X G (c.fact 16 (f := .free (Str.ofString "ValueError")) rfl),
    He.free_ok X G (c.fact 17 (f := .free (Str.ofString "bool")) rfl),
    He.free_ok X G (c.fact 18 (f := .free (Str.ofString "enumerate")) rfl),
    He.free_ok X G (c.fact 19 (f := .free (Str.ofString "int")) rfl),
    He.free_ok X G (c.fact 20 (f := .free (Str.ofString "isinstance")) rfl),
    He.free_ok X G (c.fact 21 (f := .free (Str.ofString "len")) rfl),
    He.free_ok X G (c.fact 22 (f := .free (Str.ofString "list")) rfl),
    He.free_ok X G (c.fact 23 (f := .free (Str.ofString "range")) rfl),
    He.free_ok X G (c.fact 24 (f := .free (Str.ofString "str")) rfl),
    He.free_ok X G (c.fact 25 (f := .free (Str.ofString "tuple")) rfl),
    He.free_ok X G (c.fact 26 (f := .free (Str.ofString "zip")) rfl),
    .mk' (L := He.ga K (Str.ofString "LotError")) (cs := [("NoWay", (He.ga K (Str.ofString "NoWay"))), ("NoJoin", (He.ga K (Str.ofString "NoJoin"))), ("NoStep", (He.ga K (Str.ofString "NoStep"))), ("NoHouse", (He.ga K (Str.ofString "NoHouse"))), ("NoWeb", (He.ga K (Str.ofString "NoWeb"))), ("NoPrice", (He.ga K (Str.ofString "NoPrice"))), ("Closed", (He.ga K (Str.ofString "Closed"))), ("Free", (He.ga K (Str.ofString "Free"))), ("Nothing", (He.ga K (Str.ofString "Nothing"))), ("NoNumber", (He.ga K (Str.ofString "NoNumber"))), ("NoText", (He.ga K (Str.ofString "NoText"))), ("NoLine", (He.ga K (Str.ofString "NoLine"))), ("TooMany", (He.ga K (Str.ofString "TooMany")))]) rfl (by simp only [List.forall_mem_cons, List.not_mem_nil, false_implies, implies_true, and_true]; exact ⟨H_glo c 28, H_glo c 29, H_glo c 30, H_glo c 31, H_glo c 32, H_glo c 33, H_glo c 34, H_glo c 35, H_glo c 36, H_glo c 37, H_glo c 38, H_glo c 39, H_glo c 40⟩) (by simp only [List.forall_mem_cons, List.not_mem_nil, false_implies, implies_true, and_true]; exact ⟨PySem.W.mg_of X G (H_glo c 28), PySem.W.mg_of X G (H_glo c 29), PySem.W.mg_of X G (H_glo c 30), PySem.W.mg_of X G (H_glo c 31), PySem.W.mg_of X G (H_glo c 32), PySem.W.mg_of X G (H_glo c 33), PySem.W.mg_of X G (H_glo c 34), PySem.W.mg_of X G (H_glo c 35), PySem.W.mg_of X G (H_glo c 36), PySem.W.mg_of X G (H_glo c 37), PySem.W.mg_of X G (H_glo c 38), PySem.W.mg_of X G (H_glo c 39), PySem.W.mg_of X G (H_glo c 40)⟩) (PySem.W.mg_of X G (H_glo c 27)) (and_all E 0),
    .mk' (L := He.ga K (Str.ofString "LotError")) (cs := [("NoWay", (He.ga K (Str.ofString "NoWay"))), ("NoJoin", (He.ga K (Str.ofString "NoJoin"))), ("NoStep", (He.ga K (Str.ofString "NoStep"))), ("NoHouse", (He.ga K (Str.ofString "NoHouse"))), ("NoWeb", (He.ga K (Str.ofString "NoWeb"))), ("NoPrice", (He.ga K (Str.ofString "NoPrice"))), ("Closed", (He.ga K (Str.ofString "Closed"))), ("Free", (He.ga K (Str.ofString "Free"))), ("Nothing", (He.ga K (Str.ofString "Nothing"))), ("NoNumber", (He.ga K (Str.ofString "NoNumber"))), ("NoText", (He.ga K (Str.ofString "NoText"))), ("NoLine", (He.ga K (Str.ofString "NoLine"))), ("TooMany", (He.ga K (Str.ofString "TooMany")))]) rfl (by simp only [List.forall_mem_cons, List.not_mem_nil, false_implies, implies_true, and_true]; exact ⟨H_glo c 28, H_glo c 29, H_glo c 30, H_glo c 31, H_glo c 32, H_glo c 33, H_glo c 34, H_glo c 35, H_glo c 36, H_glo c 37, H_glo c 38, H_glo c 39, H_glo c 40⟩) (by simp only [List.forall_mem_cons, List.not_mem_nil, false_implies, implies_true, and_true]; exact ⟨PySem.W.mg_of X G (H_glo c 28), PySem.W.mg_of X G (H_glo c 29), PySem.W.mg_of X G (H_glo c 30), PySem.W.mg_of X G (H_glo c 31), PySem.W.mg_of X G (H_glo c 32), PySem.W.mg_of X G (H_glo c 33), PySem.W.mg_of X G (H_glo c 34), PySem.W.mg_of X G (H_glo c 35), PySem.W.mg_of X G (H_glo c 36), PySem.W.mg_of X G (H_glo c 37), PySem.W.mg_of X G (H_glo c 38), PySem.W.mg_of X G (H_glo c 39), PySem.W.mg_of X G (H_glo c 40)⟩) (PySem.W.mg_of X G (H_glo c 27)) (and_all E 0) (H_cis c 27) (and_all E 1),
    H_r X G c 34 (and_all E 2) (and_all E 3),
    H_r X G c 35 (and_all E 4) (and_all E 5),
    H_r X G c 27 (and_all E 6) (and_all E 7),
    H_r X G c 39 (and_all E 8) (and_all E 9),
    H_r X G c 37 (and_all E 10) (and_all E 11),
    H_r X G c 33 (and_all E 12) (and_all E 13),
    H_r X G c 38 (and_all E 14) (and_all E 15),
    H_r X G c 32 (and_all E 16) (and_all E 17),
    H_r X G c 36 (and_all E 18) (and_all E 19),
    H_r X G c 40 (and_all E 20) (and_all E 21),
    H_i X G c 31 41 8 (and_all E 22) (and_all E 23) (and_all E 24) (fun _ _ _ _ _ _ us hl => match us, hl with | [_, _], _ => rfl),
    H_i X G c 29 42 9 (and_all E 25) (and_all E 26) (and_all E 27) (fun _ _ _ _ _ _ us hl => match us, hl with | [_, _], _ => rfl),
    H_i X G c 30 43 10 (and_all E 28) (and_all E 29) (and_all E 30) (fun _ _ _ _ _ _ us hl => match us, hl with | [_, _], _ => rfl),
    H_i X G c 28 44 11 (and_all E 31) (and_all E 32) (and_all E 33) (fun _ _ _ _ _ _ us hl => match us, hl with | [_, _], _ => rfl),
    H_lot X G c 27 (and_all E 34)⟩
  obtain ⟨oc, od, osl, kV, doc, pm, an, cdv, ct, lk, cc⟩ := c.def_ 12 (d := dfn (Str.ofString "law", none) (Str.ofString "law") (Str.ofString "law") s_law) rfl
  have e := hfa.symm.trans (PySem.W.mg_of X G (H_glo c 45))
  cases e
  exact ⟨_, fun s v => .of_eq rfl, fun base _ _ => ok_law T (fun_mk (st := s_law) lk cc (c.fact 46 (f := .keep (Str.ofString "law")) rfl))⟩

set_option maxHeartbeats 200000
variable {rest : EV.World}
set_option maxHeartbeats 200000
abbrev WT := Int × Int × Int
section
variable {W : EV.World}
end
def primesD : List D := [.int 2147483629, .int 2147483587, .int 2147483579, .int 2147483563, .int 2147483549, .int 2147483543, .int 2147483497, .int 2147483489, .int 2147483477, .int 2147483423, .int 2147483399, .int 2147483353, .int 2147483323]
theorem primes_at {i : Int} (h0 : 0 ≤ i) (h1 : i < 13) : ∃ p : Int, atI primesD i = some (.int p) ∧ 0 < p ∧ p ≤ 2147483647 := by
  obtain ⟨k, rfl⟩ : ∃ k : Nat, i = (k : Int) := ⟨i.toNat, by omega⟩
  have hk : k < 13 := by omega
  match k, hk with
  | 0, _ => exact ⟨_, rfl, by decide, by decide⟩
  | 1, _ => exact ⟨_, rfl, by decide, by decide⟩
  | 2, _ => exact ⟨_, rfl, by decide, by decide⟩
  | 3, _ => exact ⟨_, rfl, by decide, by decide⟩
  | 4, _ => exact ⟨_, rfl, by decide, by decide⟩
  | 5, _ => exact ⟨_, rfl, by decide, by decide⟩
  | 6, _ => exact ⟨_, rfl, by decide, by decide⟩
  | 7, _ => exact ⟨_, rfl, by decide, by decide⟩
  | 8, _ => exact ⟨_, rfl, by decide, by decide⟩
  | 9, _ => exact ⟨_, rfl, by decide, by decide⟩
  | 10, _ => exact ⟨_, rfl, by decide, by decide⟩
  | 11, _ => exact ⟨_, rfl, by decide, by decide⟩
  | 12, _ => exact ⟨_, rfl, by decide, by decide⟩
  | k + 13, h => exact absurd h (by omega)
section
variable {W : EV.World}
theorem pow3 {i : Int} (h : 0 ≤ i) (h2 : i < 2 ^ 64) : powD W (.int i) (.int 3) = some (.int (i ^ 3)) := powD_i (k := 3) (by decide) (by omega)
theorem pow5 {i : Int} (h : 0 ≤ i) (h2 : i < 2 ^ 64) : powD W (.int i) (.int 5) = some (.int (i ^ 5)) := powD_i (k := 5) (by decide) (by omega)
theorem pow18 : powD W (.int 10) (.int 18) = some (.int 1000000000000000000) := powD_i (k := 18) (by decide) (by decide)
theorem pow17 : powD W (.int 10) (.int 17) = some (.int 100000000000000000) := powD_i (k := 17) (by decide) (by decide)
theorem add_primes : addD W (.lst [.int 2147483629, .int 2147483587, .int 2147483579, .int 2147483563, .int 2147483549, .int 2147483543, .int 2147483497, .int 2147483489]) (.lst [.int 2147483477, .int 2147483423, .int 2147483399, .int 2147483353, .int 2147483323]) = some (.lst primesD) := by unfold addD; simp [lstT, LINE_v, primesD]
theorem m_spread (c at_ : Int) (h0 : 0 ≤ at_) (h : at_ ≤ 1000000) : ∃ r, den_L_spread [.int c, .int at_] W = .ok (.int r) W := by
  by_cases hc : 1000000000000000000 ≤ c
  · exact ⟨c, by simp [den_L_spread, runB_ap, b_L_spread, pow18, hc]⟩
  · obtain ⟨p1, e1, l1, u1⟩ := primes_at (i := at_ % 13) (by omega) (by omega)
    obtain ⟨p2, e2, l2, u2⟩ := primes_at (i := (at_ + 5) % 13) (by omega) (by omega)
    obtain ⟨p3, e3, l3, u3⟩ := primes_at (i := (at_ + 7) % 13) (by omega) (by omega)
    have hA : 0 ≤ c % 1000000007 ∧ c % 1000000007 < 1000000007 := by omega
    generalize hAe : c % 1000000007 = A at hA
    have hB : 0 ≤ c % 65537 ∧ c % 65537 < 65537 := by omega
    have m1 : mulD W (.int A) (.int (2 * at_ + 69069)) = some (.int (A * (2 * at_ + 69069))) := mulD_l (by omega) (by omega)
    have m2 : mulD W (.int at_) (.int 40503) = some (.int (at_ * 40503)) := mulD_r (by decide) (by decide)
    have m0 : mulD W (.int 2) (.int at_) = some (.int (2 * at_)) := mulD_l (by decide) (by decide)
    have b1 : 0 ≤ A * (2 * at_ + 69069) + at_ * 40503 + 977 ∧ A * (2 * at_ + 69069) + at_ * 40503 + 977 < 2 ^ 64 := by
      have q1 : 0 ≤ A * (2 * at_ + 69069) := Int.mul_nonneg hA.1 (by omega)
      have q2 : A * (2 * at_ + 69069) ≤ 1000000007 * 2069069 := Int.mul_le_mul (by omega) (by omega) (by omega) (by omega)
      omega
    generalize hX : A * (2 * at_ + 69069) + at_ * 40503 + 977 = X1 at b1
    have hone : 0 ≤ X1 ^ 3 % p1 ∧ X1 ^ 3 % p1 < p1 := ⟨Int.emod_nonneg _ (by omega), Int.emod_lt_of_pos _ l1⟩
    generalize hoe : X1 ^ 3 % p1 = one at hone
    have m3 : mulD W (.int one) (.int (at_ + 3)) = some (.int (one * (at_ + 3))) := mulD_l (by omega) (by omega)
    have b2 : 0 ≤ one * (at_ + 3) + c % 65537 + 5 ∧ one * (at_ + 3) + c % 65537 + 5 < 2 ^ 64 := by
      have q1 : 0 ≤ one * (at_ + 3) := Int.mul_nonneg hone.1 (by omega)
      have q2 : one * (at_ + 3) ≤ 2147483647 * 1000003 := Int.mul_le_mul (by omega) (by omega) (by omega) (by omega)
      omega
    generalize hY : one * (at_ + 3) + c % 65537 + 5 = X2 at b2
    have htwo : 0 ≤ X2 ^ 5 % p2 ∧ X2 ^ 5 % p2 < p2 := ⟨Int.emod_nonneg _ (by omega), Int.emod_lt_of_pos _ l2⟩
    generalize hte : X2 ^ 5 % p2 = two at htwo
    have b3 : 0 ≤ two + one % 1009 + at_ ∧ two + one % 1009 + at_ < 2 ^ 64 := by omega
    generalize hZ : two + one % 1009 + at_ = X3 at b3
    have m4 : mulD W (.int one) (.int 2147483647) = some (.int (one * 2147483647)) := mulD_r (by decide) (by decide)
    have m5 : mulD W (.int (one * 2147483647 + two)) (.int 2147483647) = some (.int ((one * 2147483647 + two) * 2147483647)) := mulD_r (by decide) (by decide)
    refine ⟨(one * 2147483647 + two) * 2147483647 + X3 ^ 3 % p3, run_rt ?_⟩
    unfold b_L_spread
    rw [seq_nx (env' := [some (.int c), some (.int at_), none, none, none, none]) (W' := W) (by simp [pow18, hc])]
    rw [seq_nx (env' := [some (.int c), some (.int at_), some (.lst [.int 2147483629, .int 2147483587, .int 2147483579, .int 2147483563, .int 2147483549, .int 2147483543, .int 2147483497, .int 2147483489]), none, none, none]) (W' := W) (by simp)]
    rw [seq_nx (env' := [some (.int c), some (.int at_), some (.lst primesD), none, none, none]) (W' := W) (by simp [add_primes])]
    rw [seq_nx (env' := [some (.int c), some (.int at_), some (.lst primesD), some (.int one), none, none]) (W' := W) (by simp [m0, m1, m2, hAe, hX, pow3 b1.1 b1.2, modD_i, l1, e1, hoe])]
    rw [seq_nx (env' := [some (.int c), some (.int at_), some (.lst primesD), some (.int one), some (.int two), none]) (W' := W) (by simp [m3, hY, pow5 b2.1 b2.2, modD_i, l2, e2, hte])]
    rw [seq_nx (env' := [some (.int c), some (.int at_), some (.lst primesD), some (.int one), some (.int two), some (.int (X3 ^ 3 % p3))]) (W' := W) (by simp [hZ, pow3 b3.1 b3.2, modD_i, l3, e3])]
    simp [m4, m5]
end
def penW (rest : EV.World) (cells : List Int) (a key : Int) : EV.World := .lst (cells.map D.int) :: .lst [.ob 0, .int a, .int key] :: rest
def PenR (rest : EV.World) (n : Nat) (W : EV.World) : Prop := ∃ (cells : List Int) (a key : Int), W = penW rest cells a key ∧ 0 ≤ a ∧ a + n ≤ 1000000
theorem PenR.mono {n : Nat} {W : EV.World} (h : PenR rest (n + 1) W) : PenR rest n W := by
  obtain ⟨c, a, k, e, h1, h2⟩ := h
  exact ⟨c, a, k, e, h1, by omega⟩
theorem PenR.le {n m : Nat} {W : EV.World} (h : PenR rest n W) (l : m ≤ n) : PenR rest m W := by
  obtain ⟨c, a, k, e, h1, h2⟩ := h
  exact ⟨c, a, k, e, h1, by omega⟩
section
variable {cells : List Int} {a key : Int}
theorem pen_1 : (penW rest cells a key)[1]? = some (.lst [.ob 0, .int a, .int key]) := rfl
theorem pen_0 : (penW rest cells a key)[0]? = some (.lst (cells.map D.int)) := rfl
theorem pen_ix (i : Int) : idxD (penW rest cells a key) (.ob 1) (.int i) = atI [.ob 0, .int a, .int key] i := idx_ob pen_1
theorem pen_ix0 : atI [D.ob 0, .int a, .int key] 0 = some (.ob 0) := rfl
theorem pen_ix1 : atI [D.ob 0, .int a, .int key] 1 = some (.int a) := rfl
theorem pen_ix2 : atI [D.ob 0, .int a, .int key] 2 = some (.int key) := rfl
theorem pen_cell (i : Int) : idxD (penW rest cells a key) (.ob 0) (.int i) = atI (cells.map D.int) i := idx_ob pen_0
theorem pen_len {L : Int} (h : ((cells.length : Nat) : Int) = L) : oLen (penW rest cells a key) [.ob 0] = some (.int L) := by
  rw [oLen_ob pen_0, List.length_map, h]
theorem pen_set1 (b : Int) : (penW rest cells a key).set 1 (.lst [.ob 0, .int b, .int key]) = penW rest cells b key := rfl
theorem m_anew : den_L_anew [.ob 1] (penW rest cells a key) = .ok (.ob 1) (penW rest cells a 0) := by
  refine run_rt ?_
  unfold b_L_anew
  rw [seq_nx (sIxW_ok (k := 1) (d := .int 0) (m := 2) (xs := [.ob 0, .int a, .int key]) (ys := [.ob 0, .int a, .int 0]) (W1 := penW rest cells a key) (W2 := penW rest cells a key) (W3 := penW rest cells a key) rfl rfl rfl rfl rfl rfl)]
  rfl
theorem take_cell {L m : Int} (h0 : 0 ≤ a) (hL : ((cells.length : Nat) : Int) = L) : ∃ c : Int, (sIf (bV (eBin ltD (eVar 2) (eFn oLen [(eBin idxD (eVar 0) (eC (.int 0)))]))) (sSet 3 (eBin idxD (eBin idxD (eVar 0) (eC (.int 0))) (eVar 2))) (sIf (bV (eBin gtD (eFn oLen [(eBin idxD (eVar 0) (eC (.int 0)))]) (eC (.int 0)))) (sSet 3 (eBin modD (eBin idxD (eBin idxD (eVar 0) (eC (.int 0))) (eBin modD (eBin addD (eBin mulD (eVar 2) (eC (.int 5))) (eC (.int 3))) (eFn oLen [(eBin idxD (eVar 0) (eC (.int 0)))]))) (eBin addD (eBin powD (eC (.int 10)) (eC (.int 17))) (eVar 2)))) sNil))
    [some (.ob 1), some (.int m), some (.int a), some (.int 0), none] (penW rest cells a key) = .ok (.nx [some (.ob 1), some (.int m), some (.int a), some (.int c), none]) (penW rest cells a key) := by
  by_cases h1 : a < L
  · obtain ⟨x, _, e⟩ := atI_map D.int cells h0 (by rw [hL]; exact h1)
    exact ⟨x, by simp [pen_ix, pen_ix0, pen_len hL, h1, pen_cell, e]⟩
  · by_cases h2 : 0 < L
    · have hm : 0 ≤ (a * 5 + 3) % L ∧ (a * 5 + 3) % L < L := ⟨Int.emod_nonneg _ (by omega), Int.emod_lt_of_pos _ h2⟩
      obtain ⟨x, _, e⟩ := atI_map D.int cells hm.1 (by rw [hL]; exact hm.2)
      have q : 0 < 100000000000000000 + a := by omega
      have m5 : mulD (penW rest cells a key) (.int a) (.int 5) = some (.int (a * 5)) := mulD_r (by decide) (by decide)
      exact ⟨x % (100000000000000000 + a), by simp [pen_ix, pen_ix0, pen_len hL, h1, h2, pen_cell, e, m5, modD_i, pow17, q]⟩
    · exact ⟨0, by simp [pen_ix, pen_ix0, pen_len hL, h1, h2]⟩
theorem m_take {n : Nat} {W : EV.World} {m : Int} (p : PenR rest (n + 1) W) (h1 : 0 < m) (h2 : m < 1073741824) : ∃ r W', den_L_take [.ob 1, .int m] W = .ok (.int r) W' ∧ 0 ≤ r ∧ r < m ∧ PenR rest n W' := by
  obtain ⟨cells, a, key, rfl, a0, a1⟩ := p
  have body : ∀ (a' key' : Int) (env : EV.Env), env = [some (.ob 1), some (.int m)] ++ env.drop 2 → env.length = 5 → (sSeq (sSet 4 (eBin modD (eBin idxD (eVar 0) (eC (.int 2))) (eVar 1)))
      (sSeq (sIxW (eVar 0) (eC (.int 2)) (eBin fdvD (eBin idxD (eVar 0) (eC (.int 2))) (eVar 1))) (sRet (eVar 4)))) env (penW rest cells a' key') = .ok (.rt (.int (key' % m))) (penW rest cells a' (key' / m)) := by
    intro a' key' env he hl
    obtain ⟨x, y, z, rfl⟩ : ∃ x y z, env = [some (.ob 1), some (.int m), x, y, z] := by
      match env, hl with
      | [u, v, x, y, z], _ =>
        simp at he
        exact ⟨x, y, z, by rw [he.1, he.2]⟩
    rw [seq_nx (env' := [some (.ob 1), some (.int m), x, y, some (.int (key' % m))]) (W' := penW rest cells a' key') (by simp [pen_ix, pen_ix2, modD_i, h1])]
    rw [seq_nx (sIxW_ok (k := 1) (d := .int (key' / m)) (m := 2) (xs := [.ob 0, .int a', .int key']) (ys := [.ob 0, .int a', .int (key' / m)]) (W1 := penW rest cells a' key') (W2 := penW rest cells a' key') (W3 := penW rest cells a' key') (by simp [pen_ix, pen_ix2, fdvD_i, h1, h2]) rfl rfl rfl rfl rfl)]
    rfl
  by_cases hk : key < m
  · obtain ⟨c, hc⟩ := take_cell (cells := cells) (key := key) (m := m) a0 rfl
    obtain ⟨r, hr⟩ := m_spread (W := penW rest cells (a + 1) key) c a a0 (by omega)
    refine ⟨r % m, penW rest cells (a + 1) (r / m), run_rt ?_, Int.emod_nonneg _ (by omega), Int.emod_lt_of_pos _ h1, cells, a + 1, r / m, rfl, by omega, by omega⟩
    unfold b_L_take
    rw [seq_nx (env' := [some (.ob 1), some (.int m), some (.int a), some (.int c), none]) (W' := penW rest cells (a + 1) r)]
    · exact body (a + 1) r _ rfl rfl
    · have t1 : (bV (eBin ltD (eBin idxD (eVar 0) (eC (.int 2))) (eVar 1))) [some (.ob 1), some (.int m), none, none, none] (penW rest cells a key) = .ok true (penW rest cells a key) := by simp [pen_ix, pen_ix2, hk]
      show sIf _ _ _ [some (.ob 1), some (.int m), none, none, none] _ = _
      rw [sIf_ap, t1]
      simp only [Res.bind_ok, if_true]
      rw [seq_nx (env' := [some (.ob 1), some (.int m), some (.int a), none, none]) (W' := penW rest cells a key) (by simp [pen_ix, pen_ix1])]
      rw [seq_nx (env' := [some (.ob 1), some (.int m), some (.int a), some (.int 0), none]) (W' := penW rest cells a key) (by simp)]
      rw [seq_nx hc]
      rw [seq_nx (sIxW_ok (k := 1) (d := .int (a + 1)) (m := 1) (xs := [.ob 0, .int a, .int key]) (ys := [.ob 0, .int (a + 1), .int key]) (W1 := penW rest cells a key) (W2 := penW rest cells a key) (W3 := penW rest cells a key) (by simp) rfl rfl rfl rfl rfl)]
      rw [pen_set1]
      rw [sIxW_ok (k := 1) (d := .int r) (m := 2) (xs := [.ob 0, .int (a + 1), .int key]) (ys := [.ob 0, .int (a + 1), .int r]) (W1 := penW rest cells (a + 1) key) (W2 := penW rest cells (a + 1) key) (W3 := penW rest cells (a + 1) key) (by simp [hr]) rfl rfl rfl rfl rfl]
      rfl
  · refine ⟨key % m, penW rest cells a (key / m), run_rt ?_, Int.emod_nonneg _ (by omega), Int.emod_lt_of_pos _ h1, cells, a, key / m, rfl, a0, by omega⟩
    unfold b_L_take
    rw [seq_nx (env' := [some (.ob 1), some (.int m), none, none, none]) (W' := penW rest cells a key)]
    · exact body a key _ rfl rfl
    · show sIf _ _ _ [some (.ob 1), some (.int m), none, none, none] _ = _
      simp [pen_ix, pen_ix2, hk]
end
def pD (p : Int × Int) : D := .tup [.int p.1, .int p.2]
def enumL : Nat → List Int → List (Int × Int)
  | _, [] => []
  | k, x :: xs => ((k : Int), x) :: enumL (k + 1) xs
theorem enum_ints : ∀ (k : Nat) (xs : List Int), enumD k (xs.map D.int) = (enumL k xs).map pD
  | _, [] => rfl
  | k, x :: xs => by rw [List.map_cons, enumD, enumL, List.map_cons, enum_ints (k + 1) xs]; rfl
theorem enumL_nn : ∀ (k : Nat) (xs : List Int), ∀ p ∈ enumL k xs, 0 ≤ p.1
  | _, [], p, h => by cases h
  | k, x :: xs, p, h => by
    rcases List.mem_cons.mp h with rfl | h
    · exact Int.natCast_nonneg k
    · exact enumL_nn (k + 1) xs p h
theorem cut_map {α β : Type} (f : α → β) (xs : List α) (lo hi : Option Int) : cutL (xs.map f) lo hi = (cutL xs lo hi).map f := by
  unfold cutL
  rw [List.length_map, List.map_take, List.map_drop]
theorem cut_lo (xs : List Int) (h : xs.length ≤ 12) : cutL xs (some 12) (some 63) = [] := by
  unfold cutL
  rw [show HT.sIx xs.length 0 (some 12) = min 12 xs.length from HT.sIx_nat xs.length 0 12, Nat.min_eq_right h, List.drop_length, List.take_nil]
theorem cut_hi (xs : List Int) (h : 12 < xs.length) : (cutL xs none (some 12)).length = 12 := by
  unfold cutL
  rw [HT.sIx_none, show HT.sIx xs.length xs.length (some 12) = min 12 xs.length from HT.sIx_nat xs.length xs.length 12, List.drop_zero, List.length_take]
  omega
theorem m_open (ns : List Int) : ∃ cells, den_L_open [.bo (ns.map D.int)] [] = .ok (.ob 1) (penW [] cells 0 0) := by
  have loop : ∀ (cells xs : List Int), (xs = [] ∨ cells.length = 12) → ∃ (cells' : List Int) (x y : Option D), forGo (.tup [2, 3]) (sIxW (eVar 1) (eBin modD (eVar 2) (eC (.int 12))) (eBin addD (eBin idxD (eVar 1) (eBin modD (eVar 2) (eC (.int 12)))) (eVar 3))) (enumD 0 (xs.map D.int))
      [some (.bo (ns.map D.int)), some (.ob 0), none, none] [.lst (cells.map D.int)] = .ok (.nx [some (.bo (ns.map D.int)), some (.ob 0), x, y]) [.lst (cells'.map D.int)] := by
    intro cells xs hx
    rcases hx with rfl | hc
    · exact ⟨cells, none, none, by rw [List.map_nil, enumD, forGo]⟩
    · rw [enum_ints]
      obtain ⟨env', W', h1, h2⟩ := forGo_inv (tg := .tup [2, 3]) (body := sIxW (eVar 1) (eBin modD (eVar 2) (eC (.int 12))) (eBin addD (eBin idxD (eVar 1) (eBin modD (eVar 2) (eC (.int 12)))) (eVar 3))) pD
        (fun ys env W => (∀ p ∈ ys, 0 ≤ p.1) ∧ ∃ (cs : List Int) (x y : Option D), cs.length = 12 ∧ env = [some (.bo (ns.map D.int)), some (.ob 0), x, y] ∧ W = [.lst (cs.map D.int)])
        (fun p ys env W ⟨hn, cs, x, y, h1, h2, h3⟩ => by
          subst h2 h3
          have hp := hn p (List.mem_cons_self ..)
          have hm : 0 ≤ p.1 % 12 ∧ p.1 % 12 < 12 := ⟨Int.emod_nonneg _ (by decide), Int.emod_lt_of_pos _ (by decide)⟩
          obtain ⟨k, hk⟩ : ∃ k : Int, p.1 % 12 = k := ⟨_, rfl⟩
          rw [hk] at hm
          obtain ⟨v, _, e⟩ := atI_map D.int cs hm.1 (by rw [h1]; exact hm.2)
          have e0 : ([WO.lst (cs.map D.int)] : EV.World)[0]? = some (.lst (cs.map D.int)) := rfl
          have m1 : ∀ W' : EV.World, modD W' (.int p.1) (.int 12) = some (.int k) := fun W' => by rw [modD_i (by decide), hk]
          have e5 : ixSet (cs.map D.int) k (.int (v + p.2)) = some ((cs.set k.toNat (v + p.2)).map D.int) := by
            unfold ixSet ixN
            rw [if_pos hm.1, if_pos (by rw [List.length_map, h1]; exact hm.2), Option.map_some, List.map_set]
          refine ⟨[some (.bo (ns.map D.int)), some (.ob 0), some (.int p.1), some (.int p.2)], [some (.bo (ns.map D.int)), some (.ob 0), some (.int p.1), some (.int p.2)], [.lst ((cs.set k.toNat (v + p.2)).map D.int)], by simp [pD], ?_, fun q hq => hn q (List.mem_cons_of_mem _ hq), cs.set k.toNat (v + p.2), _, _, by rw [List.length_set]; exact h1, rfl, rfl⟩
          rw [sIxW_ok (k := 0) (d := .int (v + p.2)) (m := k) (xs := cs.map D.int) (ys := (cs.set k.toNat (v + p.2)).map D.int) (W1 := [.lst (cs.map D.int)]) (W2 := [.lst (cs.map D.int)]) (W3 := [.lst (cs.map D.int)]) (by simp [m1, idx_ob e0, e]) rfl (by simp [m1]) rfl rfl e5]
          rfl) (enumL 0 xs) [some (.bo (ns.map D.int)), some (.ob 0), none, none] [.lst (cells.map D.int)] ⟨enumL_nn 0 xs, cells, none, none, hc, rfl, rfl⟩
      obtain ⟨_, cs, x, y, _, rfl, rfl⟩ := h2
      exact ⟨cs, x, y, h1⟩
  obtain ⟨cells, x, y, hl⟩ := loop (cutL ns none (some 12)) (cutL ns (some 12) (some 63)) (by
    by_cases h : 12 < ns.length
    · exact .inr (cut_hi ns h)
    · exact .inl (cut_lo ns (by omega)))
  refine ⟨cells, run_rt ?_⟩
  unfold b_L_open
  rw [seq_nx (env' := [some (.bo (ns.map D.int)), some (.ob 0), none, none]) (W' := [.lst ((cutL ns none (some 12)).map D.int)]) (by simp [slcD, seqL, cut_map, oList])]
  rw [seq_nx (env' := [some (.bo (ns.map D.int)), some (.ob 0), x, y]) (W' := [.lst (cells.map D.int)]) (by
    rw [sFor_ap]
    have e : iEnumL true (eSlc (eVar 0) (pSome (eC (.int 12))) (pSome (eC (.int 63)))) [some (.bo (ns.map D.int)), some (.ob 0), none, none] [.lst ((cutL ns none (some 12)).map D.int)] = .ok (enumD 0 ((cutL ns (some 12) (some 63)).map D.int)) [.lst ((cutL ns none (some 12)).map D.int)] := by
      simp [iEnumL, slcD, seqL, cut_map, seqI2]
    rw [e]
    exact hl)]
  rfl

structure PairsOk (m : Int) (ps : List (Int × Int)) : Prop where
  nd : ps.Nodup
  ok : ∀ p ∈ ps, 0 ≤ p.1 ∧ p.1 < p.2 ∧ p.2 < m
  len : ps.length ≤ 200
theorem PairsOk.sub {m : Int} {ps qs : List (Int × Int)} (h : PairsOk m ps) (s : qs.Sublist ps) : PairsOk m qs := ⟨h.nd.sublist s, fun p hp => h.ok p (s.subset hp), Nat.le_trans s.length_le h.len⟩
def f2 (t : WT) : Int × Int := (t.1, t.2.1)
theorem erase_perm {α : Type} : ∀ (ps : List α) (k : Nat) (p : α), ps[k]? = some p → (p :: ps.eraseIdx k).Perm ps
  | [], _, _, h => by simp at h
  | x :: xs, 0, p, h => by simp at h; subst h; exact .refl _
  | x :: xs, k + 1, p, h => by
    have ih := erase_perm xs k p (by simpa using h)
    exact (List.Perm.swap x p _).trans (ih.cons x)
structure Mid (M : Int) (ps : List (Int × Int)) (ws : List WT) : Prop where
  nd : (ps ++ ws.map f2).Nodup
  ok : ∀ p ∈ ps, 0 ≤ p.1 ∧ p.1 < p.2 ∧ p.2 < M
  ow : ∀ t ∈ ws, 0 ≤ t.1 ∧ t.1 < t.2.1 ∧ t.2.1 < M ∧ 0 ≤ t.2.2 ∧ t.2.2 ≤ 1000000000
  len : ps.length ≤ 200
theorem Mid.step {M : Int} {ps : List (Int × Int)} {ws : List WT} (h : Mid M ps ws) {k : Nat} {p : Int × Int} {q : Int} (hk : ps[k]? = some p) (h0 : 0 ≤ q) (h1 : q ≤ 1000000000) : Mid M (ps.eraseIdx k) (ws ++ [(p.1, p.2, q)]) := by
  obtain ⟨hl, e⟩ := List.getElem?_eq_some_iff.mp hk
  have pm := erase_perm ps k p hk
  have hp := h.ok p (List.mem_of_getElem? hk)
  refine ⟨?_, fun x hx => h.ok x ((List.eraseIdx_sublist ps k).subset hx), fun t ht => ?_, Nat.le_trans (List.length_eraseIdx_le _ _) h.len⟩
  · have e2 : (ws ++ [(p.1, p.2, q)]).map f2 = ws.map f2 ++ [p] := by rw [List.map_append]; rfl
    rw [e2]
    refine List.Perm.nodup ?_ h.nd
    refine (pm.symm.append_right _).trans ?_
    rw [← List.append_assoc]
    exact (List.perm_append_singleton p (ps.eraseIdx k ++ ws.map f2)).symm
  · rcases List.mem_append.mp ht with ht | ht
    · exact h.ow t ht
    · rw [List.mem_singleton] at ht
      subst ht
      exact ⟨hp.1, hp.2.1, hp.2.2, h0, h1⟩
def wy (ws : List WT) (i : Nat) : WT := (ws[i]?).getD (0, 0, 0)
section
variable {W : EV.World} {m : Int} {ws : List WT}
end
section
variable {W : EV.World} {m : Int} {ws : List WT}
end
section
variable {W : EV.World} {m : Nat} {ws : List WT}
end
theorem wp_anew {n : Nat} {W : EV.World} {Q : D → EV.World → Prop} (p : PenR rest n W) (q : ∀ W', PenR rest n W' → Q (.ob 1) W') : Wp (den_L_anew [.ob 1] W) Q := by
  obtain ⟨cells, a, key, rfl, h1, h2⟩ := p
  exact Wp.of m_anew (q _ ⟨cells, a, 0, rfl, h1, h2⟩)
theorem rg_k (k : Nat) (h : k ≤ 16777216) : rngD 0 (k : Int) = some ((List.range k).map fun (i : Nat) => .int (i : Int)) := rng_ok (by rw [LINE_v]; exact h)
theorem wp_take {n : Nat} {W : EV.World} {m : Int} {Q : D → EV.World → Prop} (p : PenR rest (n + 1) W) (h1 : 0 < m) (h2 : m < 1073741824) (q : ∀ r W', 0 ≤ r → r < m → PenR rest n W' → Q (.int r) W') : Wp (den_L_take [.ob 1, .int m] W) Q := by
  obtain ⟨r, W', e, a, b, c⟩ := m_take p h1 h2
  exact Wp.of e (q r W' a b c)

theorem wp_comp {α : Type} {t : Tg} {ft : BF} {fe : EF} {env : EV.Env} (g : α → D) (I : List α → EV.World → Prop) (K : List α → List D → Prop) (k0 : K [] [])
    (step : ∀ x xs W, I (x :: xs) W → ∃ env', setT W t (g x) env = some env' ∧ Wp (ft env' W) fun b W1 => if b then Wp (fe env' W1) fun r W2 => isTree r = true ∧ I xs W2 ∧ ∀ rs, K xs rs → K (x :: xs) (r :: rs) else I xs W1 ∧ ∀ rs, K xs rs → K (x :: xs) rs) :
    ∀ (xs : List α) (W : EV.World), I xs W → Wp (compGo t ft fe env (xs.map g) W) fun rs W' => K xs rs ∧ I [] W'
  | [], W, h => ⟨k0, h⟩
  | x :: xs, W, h => by
    obtain ⟨env', e, h2⟩ := step x xs W h
    rw [List.map_cons]
    unfold compGo
    rw [e]
    dsimp only
    rw [wp_bind, wp_nx]
    refine h2.mono fun b W1 hb => ?_
    cases b with
    | true =>
      simp only [if_true] at hb ⊢
      rw [wp_bind, wp_nx]
      refine hb.mono fun r W2 hr => ?_
      obtain ⟨r1, r2, r3⟩ := hr
      rw [if_pos r1, wp_bind]
      exact (wp_comp g I K k0 step xs W2 r2).mono fun rs W3 hk => ⟨r3 rs hk.1, hk.2⟩
    | false =>
      simp only [Bool.false_eq_true, if_false] at hb ⊢
      exact (wp_comp g I K k0 step xs W1 hb.1).mono fun rs W3 hk => ⟨hb.2 rs hk.1, hk.2⟩

section
variable {ws : List WT} {S S' : Nat → Prop} {a b c n m : Nat}
def ea (ws : List WT) (n : Nat) : Nat := (wy ws n).1.toNat
def eb (ws : List WT) (n : Nat) : Nat := (wy ws n).2.1.toNat
inductive Cn (ws : List WT) (S : Nat → Prop) : Nat → Nat → Prop
  | refl (a : Nat) : Cn ws S a a
  | edge {n : Nat} : S n → Cn ws S (ea ws n) (eb ws n)
  | symm {a b : Nat} : Cn ws S a b → Cn ws S b a
  | trans {a b c : Nat} : Cn ws S a b → Cn ws S b c → Cn ws S a c
theorem Cn.sub (h : ∀ n, S n → Cn ws S' (ea ws n) (eb ws n)) (x : Cn ws S a b) : Cn ws S' a b := by
  induction x with
  | refl a => exact .refl a
  | edge hs => exact h _ hs
  | symm _ ih => exact .symm ih
  | trans _ _ i1 i2 => exact .trans i1 i2
theorem Cn.mono (h : ∀ n, S n → S' n) (x : Cn ws S a b) : Cn ws S' a b := x.sub fun n hs => .edge (h n hs)
def mkA (f : List Int) (i : Nat) : Int := (f[i]?).getD 0
structure MarkOk (ws : List WT) (m : Nat) (S : Nat → Prop) (f : List Int) : Prop where
  len : f.length = m
  iff : ∀ i j, i < m → j < m → (mkA f i = mkA f j ↔ Cn ws S i j)
theorem MarkOk.congr {f : List Int} (h : MarkOk ws m S f) (e : ∀ k, S k ↔ S' k) : MarkOk ws m S' f where
  len := h.len
  iff := fun i j hi hj => (h.iff i j hi hj).trans ⟨fun z => z.mono fun k => (e k).mp, fun z => z.mono fun k => (e k).mpr⟩
end
section
variable {W : EV.World} {m : Nat} {ws : List WT} {ns : List Nat}
end
section
variable {W : EV.World} {m : Nat} {ws : List WT} {ns : List Nat}
end
section
variable {W : EV.World} {m : Nat} {ws : List WT}
end
section
variable {m : Nat} {ws : List WT} {ns : List Nat}
theorem nd_sub {α : Type} [DecidableEq α] : ∀ {xs ys : List α}, xs.Nodup → (∀ x ∈ xs, x ∈ ys) → xs.length ≤ ys.length
  | [], ys, _, _ => Nat.zero_le _
  | x :: xs, ys, nd, hs => by
    obtain ⟨h1, h2⟩ := List.nodup_cons.mp nd
    have hx := hs x (List.mem_cons_self ..)
    have ih := nd_sub (ys := ys.erase x) h2 fun y hy => (List.mem_erase_of_ne (fun e => h1 (by rw [← e]; exact hy))).mpr (hs y (List.mem_cons_of_mem _ hy))
    rw [List.length_erase_of_mem hx] at ih
    have := List.length_pos_of_mem hx
    rw [List.length_cons]
    omega
theorem nd_len {n : Nat} : ∀ {xs : List Nat}, xs.Nodup → (∀ x ∈ xs, x < n) → xs.length ≤ n := fun {xs} nd hl => by
  have := nd_sub nd (ys := List.range n) fun x hx => List.mem_range.mpr (hl x hx)
  rwa [List.length_range] at this
end
section
variable {m : Nat} {ws : List WT} {ns : List Nat}
open Classical in
end
def flatT : D → Bool
  | .non => true
  | .bl _ => true
  | .int _ => true
  | .str x => PyData.strOk x
  | _ => false
/-- at most h within one another, no list or tuple longer than w -/
def Thg (w : Nat) : Nat → D → Prop
  | 0, d => flatT d = true
  | h + 1, d => flatT d = true ∨ ∃ xs : List D, (d = .lst xs ∨ d = .tup xs) ∧ xs.length ≤ w ∧ ∀ x ∈ xs, Thg w h x
theorem Thg.flat {w : Nat} {d : D} (f : flatT d = true) : ∀ h, Thg w h d
  | 0 => f
  | _ + 1 => .inl f
theorem Thg.mono {w w' : Nat} (hw : w ≤ w') : ∀ {h h' : Nat} {d : D}, Thg w h d → h ≤ h' → Thg w' h' d
  | 0, h', d, t, _ => .flat t h'
  | h + 1, 0, d, t, l => absurd l (by omega)
  | h + 1, h' + 1, d, t, l => by
    rcases t with f | ⟨xs, e, lx, hx⟩
    · exact .inl f
    · exact .inr ⟨xs, e, by omega, fun x hm => (hx x hm).mono hw (by omega)⟩
theorem Thg.tup {w h : Nat} {xs : List D} (l : xs.length ≤ w) (hx : ∀ x ∈ xs, Thg w h x) : Thg w (h + 1) (.tup xs) := .inr ⟨xs, .inr rfl, l, hx⟩
theorem Thg.lst {w h : Nat} {xs : List D} (l : xs.length ≤ w) (hx : ∀ x ∈ xs, Thg w h x) : Thg w (h + 1) (.lst xs) := .inr ⟨xs, .inl rfl, l, hx⟩
theorem Thg.items {w h : Nat} {xs : List D} (t : Thg w h (.tup xs)) : ∃ k, h = k + 1 ∧ xs.length ≤ w ∧ ∀ x ∈ xs, Thg w k x := by
  cases h with
  | zero => cases t
  | succ k =>
    rcases t with f | ⟨ys, e, lx, hx⟩
    · cases f
    · rcases e with e | e
      · cases e
      · cases e; exact ⟨k, rfl, lx, hx⟩
theorem Thg.itemsL {w h : Nat} {xs : List D} (t : Thg w h (.lst xs)) : ∃ k, h = k + 1 ∧ xs.length ≤ w ∧ ∀ x ∈ xs, Thg w k x := by
  cases h with
  | zero => cases t
  | succ k =>
    rcases t with f | ⟨ys, e, lx, hx⟩
    · cases f
    · rcases e with e | e
      · cases e; exact ⟨k, rfl, lx, hx⟩
      · cases e
theorem Thg.kind {w h : Nat} {d : D} (t : Thg w h d) : flatT d = true ∨ (∃ xs, d = .lst xs) ∨ ∃ xs, d = .tup xs := by
  cases h with
  | zero => exact .inl t
  | succ k =>
    rcases t with f | ⟨xs, e | e, _⟩
    · exact .inl f
    · exact .inr (.inl ⟨xs, e⟩)
    · exact .inr (.inr ⟨xs, e⟩)
theorem Thg.tree {w h : Nat} {d : D} (t : Thg w h d) : isTree d = true := by
  rcases t.kind with f | ⟨xs, rfl⟩ | ⟨xs, rfl⟩
  · cases d <;> first | rfl | cases f
  · rfl
  · rfl
theorem Thg.lend {w h : Nat} {d : D} (t : Thg w h d) : EV.lend d = d := by
  rcases t.kind with f | ⟨xs, rfl⟩ | ⟨xs, rfl⟩
  · cases d <;> first | rfl | cases f
  · rfl
  · rfl
theorem Thg.arg {w h : Nat} {d : D} (t : Thg w h d) : isArg d = true := by
  rcases t.kind with f | ⟨xs, rfl⟩ | ⟨xs, rfl⟩
  · cases d <;> first | rfl | cases f
  · rfl
  · rfl
theorem toPs_lay : ∀ {xs : List D}, (∀ x ∈ xs, PyData.canLay0 (toP x) = true) → PyData.canLayAll0 (toPs xs) = true
  | [], _ => by simp [toPs, PyData.canLayAll0]
  | x :: xs, h => by
    simp only [toPs, PyData.canLayAll0, Bool.and_eq_true]
    exact ⟨h x (List.mem_cons_self ..), toPs_lay fun y hy => h y (List.mem_cons_of_mem _ hy)⟩
theorem toPs_depth {h : Nat} : ∀ {xs : List D}, (∀ x ∈ xs, PyData.depth (toP x) ≤ h) → PyData.depthAll (toPs xs) ≤ h
  | [], _ => by simp [toPs, PyData.depthAll]
  | x :: xs, hx => by
    simp only [toPs, PyData.depthAll]
    have h1 := hx x (List.mem_cons_self ..)
    have h2 := toPs_depth (xs := xs) fun y hy => hx y (List.mem_cons_of_mem _ hy)
    omega
theorem flat_lay {d : D} (f : flatT d = true) (h : Nat) : PyData.canLay0 (toP d) = true ∧ PyData.depth (toP d) ≤ h := by
  cases d with
  | str x => simp only [toP, PyData.canLay0, PyData.depth]; exact ⟨f, Nat.zero_le _⟩
  | non => simp [toP, PyData.canLay0, PyData.depth]
  | bl b => simp [toP, PyData.canLay0, PyData.depth]
  | int b => simp [toP, PyData.canLay0, PyData.depth]
  | _ => cases f
theorem Thg.lay {w : Nat} : ∀ {h : Nat} {d : D}, Thg w h d → PyData.canLay0 (toP d) = true ∧ PyData.depth (toP d) ≤ h
  | 0, d, t => flat_lay t 0
  | h + 1, d, t => by
    rcases t with f | ⟨xs, e, _, hx⟩
    · exact flat_lay f _
    · have h1 := toPs_lay fun x hm => (hx x hm).lay.1
      have h2 := toPs_depth fun x hm => (hx x hm).lay.2
      rcases e with rfl | rfl <;> simp only [toP, PyData.canLay0, PyData.depth] <;> exact ⟨h1, by omega⟩
theorem Thg.shaped {w h : Nat} {d : D} (t : Thg w h d) (l : h ≤ 64) : SeqAt.shaped (toP d) = true := by
  obtain ⟨h1, h2⟩ := t.lay
  unfold SeqAt.shaped
  rw [h1, Bool.true_and]
  exact decide_eq_true (by omega)
section
variable {W : EV.World} {w h : Nat} {d : D} {m : Int}
end
section
variable {W : EV.World} {w h : Nat} {d : D} {m : Int}
open Classical in
end
/-- f writes things of a kind as worths: they lie within 32 levels, and are equal where the things are -/
structure Cod {α : Type} [DecidableEq α] (f : α → D) : Prop where
  lay : ∀ a, PyData.canLay0 (toP (f a)) = true ∧ PyData.depth (toP (f a)) ≤ 32
  eqv : ∀ a b, PyData.eqv (toP (f a)) (toP (f b)) = decide (a = b)
section
variable {α : Type} [DecidableEq α] {f : α → D} {W : EV.World}
theorem Cod.shaped (c : Cod f) (a : α) : SeqAt.shaped (toP (f a)) = true := by
  unfold SeqAt.shaped
  rw [(c.lay a).1, Bool.true_and]
  exact decide_eq_true (by have := (c.lay a).2; omega)
theorem Cod.all (c : Cod f) : ∀ xs : List α, PyData.canLayAll0 (toPs (xs.map f)) = true ∧ PyData.depthAll (toPs (xs.map f)) ≤ 32
  | [] => by simp [toPs, PyData.canLayAll0, PyData.depthAll]
  | x :: xs => by
    obtain ⟨h1, h2⟩ := c.all xs
    obtain ⟨h3, h4⟩ := c.lay x
    rw [List.map_cons, toPs]
    simp only [PyData.canLayAll0, PyData.depthAll, h1, h3, Bool.and_self, true_and]
    omega
theorem Cod.eqvs (c : Cod f) : ∀ xs ys : List α, PyData.eqvAll (toPs (xs.map f)) (toPs (ys.map f)) = decide (xs = ys)
  | [], [] => by simp [toPs, PyData.eqvAll]
  | [], y :: ys => by simp [toPs, PyData.eqvAll]
  | x :: xs, [] => by simp [toPs, PyData.eqvAll]
  | x :: xs, y :: ys => by
    rw [List.map_cons, List.map_cons, toPs, toPs, PyData.eqvAll, c.eqv x y, c.eqvs xs ys]
    by_cases h1 : x = y <;> by_cases h2 : xs = ys <;> simp [h1, h2]
theorem Cod.lst (c : Cod f) (h : ∀ a, PyData.depth (toP (f a)) ≤ 16) : Cod fun xs : List α => D.lst (xs.map f) := by
  have d16 : ∀ xs : List α, PyData.depthAll (toPs (xs.map f)) ≤ 16 := fun xs => by
    induction xs with
    | nil => simp [toPs, PyData.depthAll]
    | cons x xs ih => rw [List.map_cons, toPs]; simp only [PyData.depthAll]; have := h x; omega
  refine ⟨fun xs => ?_, fun xs ys => ?_⟩
  · simp only [toP, PyData.canLay0, PyData.depth]
    exact ⟨(c.all xs).1, by have := d16 xs; omega⟩
  · simp only [toP, PyData.eqv]
    exact c.eqvs xs ys
end
section
variable {W : EV.World} {w h : Nat} {d : D} {m : Int}
end
section
variable {W : EV.World} {w h : Nat} {d : D} {m : Int}
open Classical in
end
section
variable {W : EV.World}
theorem add_l3 {xs ys : List D} (h : xs.length + ys.length ≤ LINE) : addD W (.lst xs) (.lst ys) = some (.lst (xs ++ ys)) := by unfold addD; simp [lstT, h]
end
def rdK (rs : List (Nat × List Nat)) : List Nat := rs.map (·.1)
def Nb (ws : List WT) (n h t : Nat) : Prop := h = ea ws n ∧ t = eb ws n ∨ h = eb ws n ∧ t = ea ws n
/-- a road: ways, each from where the last one led, to a house not met before -/
inductive Road (ws : List WT) (ns : List Nat) (one : Nat) : List Nat → Nat → List Nat → Prop
  | nil : Road ws ns one [] one [one]
  | snoc {r vs : List Nat} {h n t : Nat} : Road ws ns one r h vs → n ∈ ns → Nb ws n h t → t ∉ vs → Road ws ns one (r ++ [n]) t (vs ++ [t])
section
variable {ws : List WT} {ns : List Nat} {one k : Nat} {rs : List (Nat × List Nat)} {r vs : List Nat}
theorem Road.len (x : Road ws ns one r k vs) : vs.length = r.length + 1 := by
  induction x with
  | nil => rfl
  | snoc _ _ _ _ ih => rw [List.length_append, List.length_append, ih]; rfl
theorem Road.nd (x : Road ws ns one r k vs) : vs.Nodup := by
  induction x with
  | nil => exact List.pairwise_singleton _ _
  | snoc _ _ _ h ih => exact List.nodup_append.mpr ⟨ih, List.pairwise_singleton _ _, fun a ha b hb e => by rw [List.mem_singleton.mp hb] at e; rw [e] at ha; exact h ha⟩
theorem Road.sub (x : Road ws ns one r k vs) : ∀ n ∈ r, n ∈ ns := by
  induction x with
  | nil => exact fun _ h => (List.not_mem_nil h).elim
  | snoc _ hn _ _ ih => exact fun n h => (List.mem_append.mp h).elim (ih n) fun h => by rw [List.mem_singleton.mp h]; exact hn
end
structure RInv (ws : List WT) (m : Nat) (ns : List Nat) (one : Nat) (rs : List (Nat × List Nat)) (due : List Nat) : Prop where
  nd : (rdK rs).Nodup
  lt : ∀ k ∈ rdK rs, k < m
  dnd : due.Nodup
  dsub : ∀ k ∈ due, k ∈ rdK rs
  road : ∀ p ∈ rs, ∃ vs, Road ws ns one p.2 p.1 vs ∧ ∀ v ∈ vs, v ∈ rdK rs
  one : one ∈ rdK rs
section
variable {ws : List WT} {m : Nat} {ns : List Nat} {one : Nat} {rs : List (Nat × List Nat)} {due : List Nat}
theorem RInv.len (x : RInv ws m ns one rs due) : rs.length ≤ m := by
  have := nd_len x.nd x.lt
  unfold rdK at this
  rwa [List.length_map] at this
end
section
variable {W : EV.World} {m : Nat} {ws : List WT} {ns : List Nat}
end
section
variable {W : EV.World} {m : Int} {ws : List WT}
end
section
variable {ws : List WT} {ns : List Nat} {one k : Nat} {r vs : List Nat}
theorem Nb.two {n h t : Nat} (x : Nb ws n h t) {vs : List Nat} (h1 : ea ws n ∈ vs) (h2 : eb ws n ∈ vs) : t ∈ vs := by
  rcases x with ⟨_, rfl⟩ | ⟨_, rfl⟩
  · exact h2
  · exact h1
theorem Nb.swap {S : Nat → Prop} {g a b : Nat} (nb : Nb ws g a b) (c : Cn ws S a b) : Cn ws S (ea ws g) (eb ws g) := by
  rcases nb with ⟨rfl, rfl⟩ | ⟨rfl, rfl⟩
  · exact c
  · exact c.symm
end
section
variable {W : EV.World} {m : Nat} {ws : List WT} {w h w' h' : Nat} {d d' : D}
end
section
variable {W : EV.World} {m : Nat} {ws : List WT}
end
section
variable {W : EV.World} {m : Int} {ws : List WT}
end
section
variable {W : EV.World} {m : Int}
end
section
variable {W : EV.World} {m : Int}
end
section
variable {W : EV.World} {m : Nat} {ws : List WT} {ns : List Nat}
end
section
variable {W : EV.World} {m : Nat} {ws : List WT} {w h : Nat} {d : D}
end
section
variable {W : EV.World} {m : Nat} {ws : List WT} {ns : List Nat}
end
section
variable {W : EV.World} {m : Int} {ws : List WT}
end
section
variable {W : EV.World} {m : Nat} {ws : List WT}
end
section
variable {W : EV.World} {m : Int} {ws : List WT}
end
section
variable {W : EV.World} {m : Nat} {ws : List WT}
end
section
variable {W : EV.World} {m : Nat} {ws : List WT}
end
section
variable {W : EV.World} {m : Nat} {ws : List WT}
end
section
variable {ws : List WT}
end
section
variable {ws : List WT} {e : Nat}
end
section
variable {m : Nat} {ws : List WT} {e : Nat}
end
section
variable {m : Nat} {ws : List WT} {g : Nat → Nat}
end
section
variable {m : Nat} {ws : List WT} {i j x : Nat} {xs vs : List Nat}
end
section
variable {W : EV.World} {m : Nat} {ws : List WT} {g : Nat → Nat}
end
section
variable {W : EV.World} {m : Nat} {ws : List WT} {ns : List Nat}
end
section
variable {W : EV.World} {m : Nat} {ws : List WT} {ns : List Nat}
end
section
variable {W : EV.World}
end
section
variable {m : Nat} {ws : List WT} {ns : List Nat}
end
section
variable {m : Nat} {ws : List WT} {ns : List Nat}
end
section
variable {m : Nat} {ws : List WT} {i j : Nat} {ns : List Nat}
end
section
variable {W : EV.World}
end
section
variable {W : EV.World}
end
section
variable {W : EV.World}
end
section
variable {m : Nat} {ws : List WT}
end
def PenX (n : Nat) (W : EV.World) : Prop := ∃ rest, PenR rest n W
theorem PenX.le {n m : Nat} {W : EV.World} (h : PenX n W) (l : m ≤ n) : PenX m W := by
  obtain ⟨r, h⟩ := h
  exact ⟨r, h.le l⟩
theorem PenX.two {n : Nat} {W : EV.World} (h : PenX n W) : 2 ≤ W.length := by
  obtain ⟨r, c, a, k, rfl, h1, h2⟩ := h
  show 2 ≤ r.length + 1 + 1
  omega
theorem PenX.set {n : Nat} {W : EV.World} (h : PenX n W) {k : Nat} (hk : 2 ≤ k) (o : WO) : PenX n (W.set k o) := by
  obtain ⟨r, c, a, key, rfl, h1, h2⟩ := h
  obtain ⟨j, rfl⟩ : ∃ j, k = j + 2 := ⟨k - 2, by omega⟩
  exact ⟨r.set j o, c, a, key, rfl, h1, h2⟩
theorem PenX.of {n : Nat} {W : EV.World} {r : EV.World} (h : PenR r n W) : PenX n W := ⟨r, h⟩
theorem wpx_anew {n : Nat} {W : EV.World} {Q : D → EV.World → Prop} (p : PenX n W) (q : ∀ W', PenX n W' → Q (.ob 1) W') : Wp (den_L_anew [.ob 1] W) Q := by
  obtain ⟨r, p⟩ := p
  exact wp_anew p fun W' h => q W' ⟨r, h⟩
theorem wpx_take {n : Nat} {W : EV.World} {m : Int} {Q : D → EV.World → Prop} (p : PenX (n + 1) W) (h1 : 0 < m) (h2 : m < 1073741824) (q : ∀ r W', 0 ≤ r → r < m → PenX n W' → Q (.int r) W') : Wp (den_L_take [.ob 1, .int m] W) Q := by
  obtain ⟨r, p⟩ := p
  exact wp_take p h1 h2 fun x W' a b c => q x W' a b ⟨r, c⟩

section
variable {W : EV.World} {m : Nat} {ws : List WT} {ns : List Nat}
end
section
variable {m : Nat} {ws : List WT}
end
section
variable {W : EV.World} {env : EV.Env} {fa fb : EF}
@[simp] theorem eNeg_ap : eNeg fa env W = (fa env W).bind fun d W1 => match d with | .int i => .ok (.int (-i)) W1 | _ => .stuck := id rfl
@[simp] theorem eListRg1_ap : eListRg1 fa env W = (fa env W).bind fun d W1 => match d with | .int n => (Res.ofO (rngD 0 n) W1).bind fun ds W2 => .ok (.lst ds) W2 | _ => .stuck := id rfl
@[simp] theorem eOr_ap : eOr fa fb env W = (fa env W).bind fun d W1 => match d with | .bl true => .ok (.bl true) W1 | .bl false => fb env W1 | _ => .stuck := id rfl
end
theorem wp_seq_mono {f g : SF} {env : EV.Env} {W : EV.World} {Q R : Fl → EV.World → Prop} (h : Wp (f env W) R) (i : ∀ r W, R r W → kSeq g Q r W) : Wp (sSeq f g env W) Q := by
  rw [wp_seq]
  exact h.mono i

section
variable {W : EV.World} {m n e : Nat} {ws ws' : List WT} {shut shut' : List Nat} {el : List (List WT × List Nat)}
def setP (ws : List WT) (i : Nat) (p : Int) : List WT := ws.set i ((wy ws i).1, (wy ws i).2.1, p)
end
def Agree (W W' : EV.World) : Prop := W'.length = W.length ∧ ∀ k, 2 ≤ k → W'[k]? = W[k]?
theorem Agree.refl (W : EV.World) : Agree W W := ⟨rfl, fun _ _ => rfl⟩
theorem Agree.trans {A B C : EV.World} (h : Agree A B) (g : Agree B C) : Agree A C := ⟨g.1.trans h.1, fun k hk => (g.2 k hk).trans (h.2 k hk)⟩
theorem agree_pen {rest : EV.World} {c c' : List Int} {a a' k k' : Int} : Agree (penW rest c a k) (penW rest c' a' k') := ⟨rfl, fun k hk => by
  obtain ⟨j, rfl⟩ : ∃ j, k = j + 2 := ⟨k - 2, by omega⟩
  rfl⟩
theorem agree_R {rest : EV.World} {n n' : Nat} {W W' : EV.World} (h : PenR rest n W) (h' : PenR rest n' W') : Agree W W' := by
  obtain ⟨c, a, k, rfl, _⟩ := h
  obtain ⟨c', a', k', rfl, _⟩ := h'
  exact agree_pen
theorem wpa_take {n : Nat} {W : EV.World} {m : Int} {Q : D → EV.World → Prop} (p : PenX (n + 1) W) (h1 : 0 < m) (h2 : m < 1073741824) (q : ∀ r W', 0 ≤ r → r < m → PenX n W' → Agree W W' → Q (.int r) W') : Wp (den_L_take [.ob 1, .int m] W) Q := by
  obtain ⟨r, p⟩ := p
  exact wp_take p h1 h2 fun x W' a b c => q x W' a b ⟨r, c⟩ (agree_R p c)
section
variable {W : EV.World} {m : Nat}
abbrev ST2 := List (List WT × List Nat)
inductive Ch where
  | price (i : Nat) (p : Int) | close (i : Nat) | free (i : Nat) | back
/-- what may be done where (ws, shut) stands on el -/
def ChOk (el : ST2) (ws : List WT) (shut : List Nat) : Ch → Prop
  | .price i p => i < ws.length ∧ 0 ≤ p ∧ p ≤ 1000000000
  | .close i => i < ws.length ∧ i ∉ shut
  | .free i => i < ws.length ∧ i ∈ shut
  | .back => el ≠ []
end
section
variable {W : EV.World} {m n e : Nat} {ws : List WT} {shut : List Nat} {el : ST2}
end
section
variable {W : EV.World} {m n e : Nat} {ws : List WT} {shut : List Nat} {el : ST2}
structure KS where
  el : ST2
  ws : List WT
  shut : List Nat
def nextK (k : KS) : Ch → KS
  | .price i p => ⟨k.el ++ [(k.ws, k.shut)], setP k.ws i p, k.shut⟩
  | .close i => ⟨k.el ++ [(k.ws, k.shut)], k.ws, k.shut ++ [i]⟩
  | .free i => ⟨k.el ++ [(k.ws, k.shut)], k.ws, k.shut.filter fun j => !decide (j = i)⟩
  | .back => match k.el.getLast? with
    | some p => ⟨k.el.dropLast, p.1, p.2⟩
    | none => k
end
section
variable {W : EV.World} {env : EV.Env}
end
section
variable {W : EV.World} {m s : Nat} {ws : List WT}
def runK (k : KS) (cs : List Ch) : KS := cs.foldl nextK k
def OkK : KS → List Ch → Prop
  | _, [] => True
  | k, c :: cs => ChOk k.el k.ws k.shut c ∧ OkK (nextK k c) cs
theorem OkK.snoc : ∀ {k : KS} {as : List Ch} {c : Ch}, OkK k as → ChOk (runK k as).el (runK k as).ws (runK k as).shut c → OkK k (as ++ [c])
  | _, [], _, _, h => ⟨h, trivial⟩
  | k, a :: as, c, h, o => ⟨h.1, OkK.snoc (k := nextK k a) (as := as) h.2 o⟩
end
section
variable {m : Nat} {ws : List WT}
end
section
variable {W : EV.World} {w : Nat}
theorem zip_self : ∀ xs : List D, zipD xs xs = xs.map fun a => D.tup [a, a]
  | [] => rfl
  | x :: xs => by rw [zipD, zip_self xs, List.map_cons]
theorem ne_bl (a : Bool) : neD W (.bl a) (.bl a) = some (.bl false) := by
  unfold neD
  cases a <;> simp [toP, SeqAt.shaped, PyData.canLay0, PyData.depth, PyData.eqv]
theorem eq_flat {d : D} (f : flatT d = true) : eqD W d d = some (.bl true) := by
  obtain ⟨h1, h2⟩ := flat_lay f 0
  have hs : SeqAt.shaped (toP d) = true := by
    unfold SeqAt.shaped
    rw [h1, Bool.true_and]
    exact decide_eq_true (by omega)
  have he : PyData.eqv (toP d) (toP d) = true := by
    cases d <;> first | (cases f; done) | simp [toP, PyData.eqv]
  unfold eqD
  rw [hs, Bool.and_self, if_pos rfl, he]
theorem m_sameT : ∀ (h n : Nat) (d : D), Thg w h d → h < n → den_L_same' n [d, d] W = .ok (.bl true) W := by
  intro h
  induction h with
  | zero =>
    intro n d t hn
    obtain ⟨n, rfl⟩ : ∃ m, n = m + 1 := ⟨n - 1, by omega⟩
    have f : flatT d = true := t
    have ef := eq_flat (W := W) f
    refine Wp.run ?_
    simp only [b_L_same]
    cases d <;> first | (cases f; done) | simp [isND, EV.isNon, isiD, ef]
  | succ h ih =>
    intro n d t hn
    obtain ⟨n, rfl⟩ : ∃ m, n = m + 1 := ⟨n - 1, by omega⟩
    rcases t.kind with f | ⟨xs, rfl⟩ | ⟨xs, rfl⟩
    · have ef := eq_flat (W := W) f
      refine Wp.run ?_
      simp only [b_L_same]
      cases d <;> first | (cases f; done) | simp [isND, EV.isNon, isiD, ef]
    · obtain ⟨k, e, l, hx⟩ := t.itemsL
      obtain rfl : h = k := by omega
      refine Wp.run ?_
      simp only [b_L_same]
      have z : zipO (.lst xs) (.lst xs) = some (xs.map fun a => D.tup [a, a]) := by rw [← zip_self]; rfl
      have c1 : compGo (.tup [2, 3]) bYes (eCall (den_L_same' n) 2 [(eVar 2), (eVar 3)]) [some (.lst xs), some (.lst xs), none, none] (xs.map fun a => D.tup [a, a]) W = .ok ((xs.map fun _ => true).map D.bl) W := by
        rw [List.map_map]
        refine compGo_map _ _ xs fun x hm => ⟨[some (.lst xs), some (.lst xs), some x, some x], ?_, ?_, rfl⟩
        · simp [setT, setAll, (hx x hm).tree]
        · simp [(hx x hm).lend, (hx x hm).arg, ih n x (hx x hm) (by omega)]
      simp [isND, EV.isNon, isiD, ne_bl, iZipL, z, wipeE, -List.map_map]
      rw [c1]
      simp only [wp_ok]
      exact ⟨_, notin_bls _, by simp⟩
    · obtain ⟨k, e, l, hx⟩ := t.items
      obtain rfl : h = k := by omega
      refine Wp.run ?_
      simp only [b_L_same]
      have z : zipO (.tup xs) (.tup xs) = some (xs.map fun a => D.tup [a, a]) := by rw [← zip_self]; rfl
      have c1 : compGo (.tup [2, 3]) bYes (eCall (den_L_same' n) 2 [(eVar 2), (eVar 3)]) [some (.tup xs), some (.tup xs), none, none] (xs.map fun a => D.tup [a, a]) W = .ok ((xs.map fun _ => true).map D.bl) W := by
        rw [List.map_map]
        refine compGo_map _ _ xs fun x hm => ⟨[some (.tup xs), some (.tup xs), some x, some x], ?_, ?_, rfl⟩
        · simp [setT, setAll, (hx x hm).tree]
        · simp [(hx x hm).lend, (hx x hm).arg, ih n x (hx x hm) (by omega)]
      simp [isND, EV.isNon, isiD, ne_bl, iZipL, z, wipeE, -List.map_map]
      rw [c1]
      simp only [wp_ok]
      exact ⟨_, notin_bls _, by simp⟩
end
section
variable {W : EV.World} {w : Nat}
end
theorem eqv_self : ∀ {w h : Nat} {d : D}, Thg w h d → PyData.eqv (toP d) (toP d) = true := by
  intro w h
  have fl : ∀ {d : D}, flatT d = true → PyData.eqv (toP d) (toP d) = true := fun {d} f => by
    cases d <;> first | (cases f; done) | simp [toP, PyData.eqv]
  induction h with
  | zero => exact fun t => fl t
  | succ h ih =>
    intro d t
    have all : ∀ {xs : List D}, (∀ x ∈ xs, Thg w h x) → PyData.eqvAll (toPs xs) (toPs xs) = true := fun {xs} hx => by
      induction xs with
      | nil => simp [toPs, PyData.eqvAll]
      | cons x xs ih2 =>
        simp only [toPs, PyData.eqvAll, Bool.and_eq_true]
        exact ⟨ih (hx x (List.mem_cons_self ..)), ih2 fun y hy => hx y (List.mem_cons_of_mem _ hy)⟩
    rcases t with f | ⟨xs, e, _, hx⟩
    · exact fl f
    · rcases e with rfl | rfl <;> simp only [toP, PyData.eqv] <;> exact all hx
section
variable {m : Nat} {ws : List WT} {shut : List Nat}
end
section
variable {W : EV.World} {m : Nat} {ws : List WT} {sh : List Nat}
end
section
variable {W : EV.World}
theorem isE2_ok {b : Str → Bool} {bL : Bool} {f : EF} {env : EV.Env} {c : Str} {p : Option Int} (h : f env W = .ok (.exn c p) W) (hm : c ∈ exNs) : eIsE2 exNs b bL f env W = .ok (.bl (b c)) W := by
  unfold eIsE2
  rw [h, Res.bind_ok]
  dsimp only
  rw [if_pos hm]
theorem isE2_L {b : Str → Bool} {bL : Bool} {f : EF} {env : EV.Env} {p : Option Int} (h : f env W = .ok (.exn "LotError" p) W) : eIsE2 exNs b bL f env W = .ok (.bl bL) W := by
  unfold eIsE2
  rw [h, Res.bind_ok]
  dsimp only
  rw [if_neg (by decide +kernel), if_pos rfl]
theorem cnt_bls (bs : List Bool) : cntD W (.lst (bs.map D.bl)) (.bl true) = some (.int ((bs.countP id : Nat) : Int)) := by
  unfold cntD
  have f : (bs.map D.bl).all flatD = true := by rw [List.all_map]; exact List.all_eq_true.mpr fun _ _ => rfl
  simp only [seqL, f]
  rw [if_pos (by rfl), List.countP_map]
  congr 3
  congr 1
  funext b
  cases b <;> simp [toP, PyData.eqv]
theorem ind_bls (bs : List Bool) : indD W (.lst (bs.map D.bl)) (.bl true) = (bs.findIdx? id).map fun (j : Nat) => D.int (j : Int) := by
  unfold indD
  have f : (bs.map D.bl).all flatD = true := by rw [List.all_map]; exact List.all_eq_true.mpr fun _ _ => rfl
  simp only [seqL, f]
  rw [if_pos (by rfl), List.findIdx?_map]
  congr 1
  congr 1
  funext b
  cases b <;> simp [toP, PyData.eqv]
def rowB (c : Str) : List Bool := [c == "NoWay", c == "NoJoin", c == "NoStep", c == "NoHouse", c == "NoWeb", c == "NoPrice", c == "TooMany", c == "Closed", c == "Free", c == "Nothing", c == "NoNumber", c == "NoText", c == "NoLine"]
theorem add_l4 {xs ys : List D} (h : xs.length + ys.length ≤ 1000) : addD W (.lst xs) (.lst ys) = some (.lst (xs ++ ys)) := add_l3 (by rw [LINE_v]; omega)
theorem m_refusal {c : Str} {p : Option Int} {at_ : Nat} {w : Str} (hm : c ∈ exNs) (h1 : (rowB c).countP id = 1) (h2 : (rowB c).findIdx? id = some at_)
    (hw : ([D.str "way", .str "join", .str "step", .str "house", .str "web", .str "price", .str "many", .str "closed", .str "free", .str "nothing", .str "number", .str "text", .str "line"] : List D)[at_]? = some (.str w)) (hp : at_ < 4 ↔ p.isSome = true) :
    den_L_refusal [.exn c p] W = .ok (.lst (.str w :: (match p with | some i => [.int i] | none => []))) W := by
  have cb := cnt_bls (W := W) (rowB c)
  have ib := ind_bls (W := W) (rowB c)
  rw [h1] at cb
  rw [h2] at ib
  have e : ∀ (b : Str → Bool) (bL : Bool) (x1 x2 x3 : Option D), eIsE2 exNs b bL (eVar 0) [some (.exn c p), x1, x2, x3] W = .ok (.bl (b c)) W := fun b bL x1 x2 x3 => isE2_ok rfl hm
  have cb' : cntD W (.lst [.bl (c == "NoWay"), .bl (c == "NoJoin"), .bl (c == "NoStep"), .bl (c == "NoHouse"), .bl (c == "NoWeb"), .bl (c == "NoPrice"), .bl (c == "TooMany"), .bl (c == "Closed"), .bl (c == "Free"), .bl (c == "Nothing"), .bl (c == "NoNumber"), .bl (c == "NoText"), .bl (c == "NoLine")]) (.bl true) = some (.int 1) := cb
  have ib' : indD W (.lst [.bl (c == "NoWay"), .bl (c == "NoJoin"), .bl (c == "NoStep"), .bl (c == "NoHouse"), .bl (c == "NoWeb"), .bl (c == "NoPrice"), .bl (c == "TooMany"), .bl (c == "Closed"), .bl (c == "Free"), .bl (c == "Nothing"), .bl (c == "NoNumber"), .bl (c == "NoText"), .bl (c == "NoLine")]) (.bl true) = some (.int (at_ : Int)) := ib
  refine run_rt ?_
  unfold b_L_refusal
  rw [seq_nx (env' := [some (.exn c p), some (.lst [.bl (c == "NoWay"), .bl (c == "NoJoin"), .bl (c == "NoStep")]), none, none]) (W' := W) (by simp [e, -eIsE2_ap])]
  rw [seq_nx (env' := [some (.exn c p), some (.lst [.bl (c == "NoWay"), .bl (c == "NoJoin"), .bl (c == "NoStep"), .bl (c == "NoHouse"), .bl (c == "NoWeb"), .bl (c == "NoPrice")]), none, none]) (W' := W) (by simp [e, -eIsE2_ap]; rw [add_l4 (by simp)]; rfl)]
  rw [seq_nx (env' := [some (.exn c p), some (.lst [.bl (c == "NoWay"), .bl (c == "NoJoin"), .bl (c == "NoStep"), .bl (c == "NoHouse"), .bl (c == "NoWeb"), .bl (c == "NoPrice"), .bl (c == "TooMany"), .bl (c == "Closed"), .bl (c == "Free")]), none, none]) (W' := W) (by simp [e, -eIsE2_ap]; rw [add_l4 (by simp)]; rfl)]
  rw [seq_nx (env' := [some (.exn c p), some (.lst [.bl (c == "NoWay"), .bl (c == "NoJoin"), .bl (c == "NoStep"), .bl (c == "NoHouse"), .bl (c == "NoWeb"), .bl (c == "NoPrice"), .bl (c == "TooMany"), .bl (c == "Closed"), .bl (c == "Free"), .bl (c == "Nothing"), .bl (c == "NoNumber"), .bl (c == "NoText")]), none, none]) (W' := W) (by simp [e, -eIsE2_ap]; rw [add_l4 (by simp)]; rfl)]
  rw [seq_nx (env' := [some (.exn c p), some (.lst [.bl (c == "NoWay"), .bl (c == "NoJoin"), .bl (c == "NoStep"), .bl (c == "NoHouse"), .bl (c == "NoWeb"), .bl (c == "NoPrice"), .bl (c == "TooMany"), .bl (c == "Closed"), .bl (c == "Free"), .bl (c == "Nothing"), .bl (c == "NoNumber"), .bl (c == "NoText"), .bl (c == "NoLine")]), none, none]) (W' := W) (by simp [e, -eIsE2_ap]; rw [add_l4 (by simp)]; rfl)]
  rw [seq_nx (env' := [some (.exn c p), some (.lst [.bl (c == "NoWay"), .bl (c == "NoJoin"), .bl (c == "NoStep"), .bl (c == "NoHouse"), .bl (c == "NoWeb"), .bl (c == "NoPrice"), .bl (c == "TooMany"), .bl (c == "Closed"), .bl (c == "Free"), .bl (c == "Nothing"), .bl (c == "NoNumber"), .bl (c == "NoText"), .bl (c == "NoLine")]), none, none]) (W' := W) (by simp [e, -eIsE2_ap, eMtL, seqL, cb'])]
  rw [seq_nx (env' := [some (.exn c p), some (.lst [.bl (c == "NoWay"), .bl (c == "NoJoin"), .bl (c == "NoStep"), .bl (c == "NoHouse"), .bl (c == "NoWeb"), .bl (c == "NoPrice"), .bl (c == "TooMany"), .bl (c == "Closed"), .bl (c == "Free"), .bl (c == "Nothing"), .bl (c == "NoNumber"), .bl (c == "NoText"), .bl (c == "NoLine")]), some (.lst [.str "way", .str "join", .str "step", .str "house", .str "web", .str "price", .str "many", .str "closed", .str "free", .str "nothing", .str "number", .str "text"]), none]) (W' := W) (by simp)]
  rw [seq_nx (env' := [some (.exn c p), some (.lst [.bl (c == "NoWay"), .bl (c == "NoJoin"), .bl (c == "NoStep"), .bl (c == "NoHouse"), .bl (c == "NoWeb"), .bl (c == "NoPrice"), .bl (c == "TooMany"), .bl (c == "Closed"), .bl (c == "Free"), .bl (c == "Nothing"), .bl (c == "NoNumber"), .bl (c == "NoText"), .bl (c == "NoLine")]), some (.lst [.str "way", .str "join", .str "step", .str "house", .str "web", .str "price", .str "many", .str "closed", .str "free", .str "nothing", .str "number", .str "text"]), some (.int (at_ : Int))]) (W' := W) (by simp [eMtL, seqL, ib'])]
  have hl : at_ < 13 := by
    have := (List.getElem?_eq_some_iff.mp hw).1
    simpa using this
  by_cases h4 : at_ < 4
  · obtain ⟨i, rfl⟩ := Option.isSome_iff_exists.mp (hp.mp h4)
    have h5 : (at_ : Int) < 4 := by omega
    have ep : ePlace exNs (eVar 0) [some (.exn c (some i)), some (.lst [.bl (c == "NoWay"), .bl (c == "NoJoin"), .bl (c == "NoStep"), .bl (c == "NoHouse"), .bl (c == "NoWeb"), .bl (c == "NoPrice"), .bl (c == "TooMany"), .bl (c == "Closed"), .bl (c == "Free"), .bl (c == "Nothing"), .bl (c == "NoNumber"), .bl (c == "NoText"), .bl (c == "NoLine")]), some (.lst [.str "way", .str "join", .str "step", .str "house", .str "web", .str "price", .str "many", .str "closed", .str "free", .str "nothing", .str "number", .str "text"]), some (.int (at_ : Int))] W = .ok (.int i) W := by
      unfold ePlace
      rw [eVar_ok (d := .exn c (some i)) rfl, Res.bind_ok]
      dsimp only
      rw [if_pos hm]
    have ew : atI [D.str "way", .str "join", .str "step", .str "house", .str "web", .str "price", .str "many", .str "closed", .str "free", .str "nothing", .str "number", .str "text"] (at_ : Int) = some (.str w) := by
      refine atI_nat ?_
      rw [← hw]
      match at_, h4 with
      | 0, _ => rfl
      | 1, _ => rfl
      | 2, _ => rfl
      | 3, _ => rfl
    simp [h5, ew, ep]
  · have hn : p = none := by
      cases p with
      | none => rfl
      | some i => exact absurd (hp.mpr rfl) h4
    subst hn
    have h5 : ¬ (at_ : Int) < 4 := by omega
    have a1 := add_l4 (W := W) (xs := [D.str "way", .str "join", .str "step", .str "house", .str "web", .str "price", .str "many", .str "closed", .str "free", .str "nothing", .str "number", .str "text"]) (ys := [.str "line"]) (by simp)
    have ew : atI [D.str "way", .str "join", .str "step", .str "house", .str "web", .str "price", .str "many", .str "closed", .str "free", .str "nothing", .str "number", .str "text", .str "line"] (at_ : Int) = some (.str w) := atI_nat hw
    simp [h5, a1, ew]
theorem m_refusalL : den_L_refusal [.exn "LotError" none] W = .ok (.lst [.str "odd"]) W := by
  have cb := cnt_bls (W := W) [false, false, false, false, false, false, false, false, false, false, false, false, false]
  have e : ∀ (b : Str → Bool) (bL : Bool) (x1 x2 x3 : Option D), eIsE2 exNs b bL (eVar 0) [some (.exn "LotError" none), x1, x2, x3] W = .ok (.bl bL) W := fun b bL x1 x2 x3 => isE2_L rfl
  have cb' : cntD W (.lst [.bl false, .bl false, .bl false, .bl false, .bl false, .bl false, .bl false, .bl false, .bl false, .bl false, .bl false, .bl false, .bl false]) (.bl true) = some (.int 0) := cb
  have al : ∀ xs ys : List D, xs.length + ys.length ≤ 1000 → addD W (.lst xs) (.lst ys) = some (.lst (xs ++ ys)) := fun xs ys h => add_l4 h
  refine run_rt ?_
  unfold b_L_refusal
  simp [e, -eIsE2_ap, al, eMtL, seqL, cb']
end
def okT (x : Str) : Prop := ∀ c ∈ TL.tl x, c < 1114112
theorem okT_ok {x : Str} (h : okT x) : PyData.strOk x = true := by
  unfold PyData.strOk
  rw [← Array.all_toList, List.all_eq_true]
  intro c hc
  exact decide_eq_true (h c hc)
theorem mem_joinL {S : List Nat} {c : Nat} : ∀ {ps : List (List Nat)}, c ∈ TL.joinL S ps → c ∈ S ∨ ∃ p ∈ ps, c ∈ p
  | [], h => by cases h
  | [p], h => .inr ⟨p, List.mem_cons_self .., h⟩
  | p :: q :: r, h => by
    rw [TL.joinL] at h
    rcases List.mem_append.mp h with h | h
    · exact .inr ⟨p, List.mem_cons_self .., h⟩
    · rcases List.mem_append.mp h with h | h
      · exact .inl h
      · rcases mem_joinL h with h | ⟨x, hx, h⟩
        · exact .inl h
        · exact .inr ⟨x, List.mem_cons_of_mem _ hx, h⟩
theorem okT_join {y : Str} {ps : List Str} (hy : okT y) (h : ∀ p ∈ ps, okT p) : okT (Txt.join y ps) := fun c hc => by
  rw [TL.join_eq, TL.tl_join] at hc
  rcases mem_joinL hc with z | ⟨x, hx, z⟩
  · exact hy c z
  · obtain ⟨p, hp, rfl⟩ := List.mem_map.mp hx
    exact h p hp c z
section
variable {rest : EV.World}
end
theorem len_app (s t : Str) : (s ++ t).length = s.length + t.length := by
  rw [TL.len_tl, TL.len_tl, TL.len_tl, TL.tl_append, List.length_append]
theorem len_one {s : Str} {c : Nat} (h : TL.tl s = [c]) : s.length = 1 := by rw [TL.len_tl, h]; rfl
section
variable {W : EV.World} {m : Int} {ws : List WT}
theorem strsOf_map : ∀ ss : List Str, strsOf (ss.map D.str) = some ss
  | [] => rfl
  | s :: ss => by
    show (strsOf (ss.map D.str)).map (fun x => s :: x) = _
    rw [strsOf_map ss]
    rfl
theorem sum_le {k : Nat} : ∀ {l : List Nat}, (∀ x ∈ l, x ≤ k) → l.sum ≤ k * l.length
  | [], _ => by simp
  | x :: l, h => by
    have := sum_le (l := l) fun y hy => h y (List.mem_cons_of_mem _ hy)
    have := h x (List.mem_cons_self ..)
    rw [List.sum_cons, List.length_cons, Nat.mul_add]
    omega
end
section
variable {x y : Str} {c : Nat}
end
open Classical in
section
variable {W : EV.World} {s : Str}
theorem size_ok (h : s.length ≤ 200000) : s.cps.size ≤ LINE := by
  have : s.cps.size = s.length := rfl
  rw [LINE_v]
  omega
theorem emp1 : TL.tl (Str.ofString "") = [] := by with_unfolding_all rfl
open Classical in
end
section
variable {W : EV.World} {m : Int} {ws : List WT}
end
section
variable {W : EV.World} {m : Int} {ws : List WT} {ns : List Int}
theorem okT_one {s : Str} {c : Nat} (h : TL.tl s = [c]) (hc : c < 1114112) : okT s := fun d hd => by
  rw [h, List.mem_singleton] at hd
  omega
end
open Classical in
open Classical in
section
variable {W : EV.World} {s : Str}
end
section
variable {W : EV.World} {s : Str}
open Classical in
open Classical in
open Classical in
end
open Classical in
section
variable {W : EV.World} {s : Str}
open Classical in
open Classical in
end
def sumL (ss : List Str) : Nat := (ss.map (·.length)).sum
structure Good (B : Nat) (ss : List Str) : Prop where
  ok : ∀ x ∈ ss, okT x
  sum : sumL ss ≤ B
  len : ss.length ≤ B
theorem Good.le {A B : Nat} {xs : List Str} (g : Good A xs) (h : A ≤ B) : Good B xs := ⟨g.ok, Nat.le_trans g.sum h, Nat.le_trans g.len h⟩
theorem Good.one {B : Nat} {x : Str} (h : okT x) (l : x.length ≤ B) (b : 1 ≤ B) : Good B [x] := ⟨fun y hy => by rw [List.mem_singleton.mp hy]; exact h, by unfold sumL; simp; exact l, by simpa using b⟩
theorem join_len1 {y : Str} (hy : y.length = 1) : ∀ ss : List Str, (Txt.join y ss).length ≤ sumL ss + ss.length
  | [] => by rw [TL.join_eq]; exact Nat.zero_le _
  | [p] => by
    rw [TL.join_eq]
    show p.length ≤ _
    unfold sumL
    simp
  | p :: q :: r => by
    have ih := join_len1 hy (q :: r)
    rw [TL.join_eq] at ih ⊢
    show (p ++ y ++ Str.join y (q :: r)).length ≤ _
    rw [len_app, len_app]
    have e : sumL (p :: q :: r) = p.length + sumL (q :: r) := rfl
    rw [List.length_cons, e]
    omega
theorem Good.join {B : Nat} {y : Str} {ss : List Str} (g : Good B ss) (hy : y.length = 1) (oy : okT y) : okT (Txt.join y ss) ∧ (Txt.join y ss).length ≤ 2 * B := by
  refine ⟨okT_join oy g.ok, ?_⟩
  have := join_len1 hy ss
  have := g.sum
  have := g.len
  omega
section
variable {W : EV.World} {n : Nat} {s y : Str} {L : Nat}
theorem add_sG {s t : Str} (h : s.length + t.length ≤ 1000000) : addD W (.str s) (.str t) = some (.str (s ++ t)) := by
  unfold addD
  simp only
  rw [if_pos (by rw [LINE_v]; omega)]
abbrev SG1 : Str := Str.ofString " !\"#$&'()*+,-./0123456789:;<=>?@ABCDEFGHIJKLMNOPQRSTUVWXYZ[\\]^_`"
abbrev SG2 : Str := Str.ofString "abcdefghijklmnopqrstuvwxyz{|}~	\n"
theorem sgn_ok : ((TL.tl (SG1 ++ SG2)).all fun c => decide (c < 1114112)) = true := by decide +kernel
theorem sgn_len : (SG1 ++ SG2).length = 96 := by decide +kernel
theorem sgn_l1 : SG1.length + SG2.length ≤ 1000000 := by decide +kernel
theorem in_emp (c : Nat) : inO true W (.str ⟨#[c]⟩) (.str (Str.ofString "")) = some (.bl true) := by
  have e : inD W (.str ⟨#[c]⟩) (.str (Str.ofString "")) = some (.bl false) := by
    show some (D.bl (!(Builtin.Str.occurrences (Str.ofString "") ⟨#[c]⟩ 0 (Str.ofString "").length 1).isEmpty)) = _
    rw [StrLaws.found_one]
    have : decide (c ∈ (Str.ofString "").cps.toList) = false := decide_eq_false fun h => by rw [show (Str.ofString "").cps.toList = [] from emp1] at h; cases h
    rw [this]
  unfold inO
  rw [e]
  rfl
def PenA (W0 : EV.World) (n : Nat) (W : EV.World) : Prop := PenX n W ∧ Agree W0 W
theorem PenA.le {W0 : EV.World} {n m : Nat} {W : EV.World} (h : PenA W0 n W) (l : m ≤ n) : PenA W0 m W := ⟨h.1.le l, h.2⟩
theorem wpA_take {W0 : EV.World} {n : Nat} {W : EV.World} {m : Int} {Q : D → EV.World → Prop} (p : PenA W0 (n + 1) W) (h1 : 0 < m) (h2 : m < 1073741824) (q : ∀ r W', 0 ≤ r → r < m → PenA W0 n W' → Q (.int r) W') : Wp (den_L_take [.ob 1, .int m] W) Q :=
  wpa_take p.1 h1 h2 fun r W' a b c g => q r W' a b ⟨c, p.2.trans g⟩
theorem wp_any_signA {W0 : EV.World} {Q : D → EV.World → Prop} (p : PenA W0 (n + 1) W) (q : ∀ x W', okT x → x.length = 1 → PenA W0 n W' → Q (.str x) W') : Wp (den_L_any_sign [.ob 1] W) Q := by
  have oL : ∀ k, lend (.ob k) = .ob k := fun _ => rfl
  have oA : ∀ k, isArg (.ob k) = true := fun _ => rfl
  have tl : ∀ xs : List D, isTree (.lst xs) = true := fun _ => rfl
  have ad := add_sG (W := W) sgn_l1
  obtain ⟨S, hS⟩ : ∃ S, S = SG1 ++ SG2 := ⟨_, rfl⟩
  have so : ∀ c ∈ TL.tl S, c < 1114112 := fun c hc => by
    have := List.all_eq_true.mp sgn_ok c (hS ▸ hc)
    exact of_decide_eq_true this
  have sl : S.length = 96 := by rw [hS]; exact sgn_len
  rw [← hS] at ad
  have sz := size_ok (s := S) (by omega)
  have tS := TL.len_tl S
  have cg : ∀ env : EV.Env, env = [some (.ob 1), some (.str (Str.ofString "")), some (.str S), none, none] → compGo (.nm 4) (bV (eBin (inO true) (eVar 4) (eVar 1))) (eVar 4) env (signs S) W = .ok (((TL.tl S).filter fun _ => true).map fun (c : Nat) => D.str ⟨#[c]⟩) W := fun env he => by
    subst he
    exact compGo_if (fun (c : Nat) => D.str ⟨#[c]⟩) (fun (c : Nat) => D.str ⟨#[c]⟩) (fun _ => true) (TL.tl S) fun c hc => ⟨[some (.ob 1), some (.str (Str.ofString "")), some (.str S), none, some (.str ⟨#[c]⟩)], rfl, by
      have := in_emp (W := W) c
      simp [this], fun _ => ⟨by simp, rfl⟩⟩
  rw [List.filter_eq_self.mpr fun _ _ => rfl] at cg
  have ol : ∀ W : EV.World, oLen W [.lst ((TL.tl S).map fun (c : Nat) => D.str ⟨#[c]⟩)] = some (.int 96) := fun W => by
    have : oLen W [.lst ((TL.tl S).map fun (c : Nat) => D.str ⟨#[c]⟩)] = some (.int (((TL.tl S).map fun (c : Nat) => D.str ⟨#[c]⟩).length : Int)) := rfl
    rw [this, List.length_map, ← tS, sl]
    rfl
  unfold den_L_any_sign
  rw [wp_run]
  simp only [b_L_any_sign]
  simp [oL, oA]
  unfold den_L_sign_but
  rw [wp_run]
  simp only [b_L_sign_but]
  simp [ad, sz, wipeE, cg, tl, ol, oL, oA]
  refine wpA_take (n := n) p (by omega) (by omega) fun r W1 r0 r1 p1 => ?_
  obtain ⟨k, rfl⟩ : ∃ k : Nat, r = (k : Int) := ⟨r.toNat, by omega⟩
  have hk : k < (TL.tl S).length := by omega
  have ix : idxD W1 (.lst ((TL.tl S).map fun (c : Nat) => D.str ⟨#[c]⟩)) (.int (k : Int)) = some (.str ⟨#[(TL.tl S)[k]]⟩) := by
    show atI _ _ = _
    refine atI_nat ?_
    rw [List.getElem?_map, List.getElem?_eq_getElem hk]
    rfl
  simp only [Res.ofO_some, wp_ok, ix]
  refine ⟨rfl, _, rfl, rfl, q ⟨#[(TL.tl S)[k]]⟩ _ (fun c hc => ?_) rfl p1⟩
  have : c ∈ [(TL.tl S)[k]] := hc
  rw [List.mem_singleton.mp this]
  exact so _ (List.getElem_mem hk)
end
section
variable {W : EV.World} {n : Nat} {s y : Str} {L : Nat}
/-- the sign between -/
structure Sg (y : Str) : Prop where
  e : ∃ c, TL.tl y = [c] ∧ c < 256
theorem Sg.ok {y : Str} (h : Sg y) : okT y := by
  obtain ⟨c, e, hc⟩ := h.e
  exact okT_one e (by omega)
theorem Sg.len {y : Str} (h : Sg y) : y.length = 1 := by
  obtain ⟨c, e, _⟩ := h.e
  exact len_one e
end
section
variable {W W' : EV.World} {n nn : Nat}
def cs06 (pl : Int) : List (Str × Option Int) := [("NoWay", some pl), ("NoJoin", some pl), ("NoStep", some pl), ("NoHouse", some pl), ("NoWeb", none), ("NoPrice", none), ("TooMany", none), ("Closed", none), ("Free", none), ("Nothing", none), ("NoNumber", none), ("NoText", none), ("NoLine", none)]
def wd06 (c : Str) : Str := ((([("NoWay", "way"), ("NoJoin", "join"), ("NoStep", "step"), ("NoHouse", "house"), ("NoWeb", "web"), ("NoPrice", "price"), ("TooMany", "many"), ("Closed", "closed"), ("Free", "free"), ("Nothing", "nothing"), ("NoNumber", "number"), ("NoText", "text"), ("NoLine", "line")] : List (Str × Str)).lookup c).getD (Str.ofString ""))
def du06 (x : Str × Option Int) : D := .lst (.str (wd06 x.1) :: (match x.2 with | some i => [.int i] | none => []))
theorem ref06 (pl : Int) : ∀ x ∈ cs06 pl, den_L_refusal [.exn x.1 x.2] W = .ok (du06 x) W := by
  intro x hx
  simp only [cs06, List.mem_cons, List.not_mem_nil, or_false] at hx
  rcases hx with rfl | rfl | rfl | rfl | rfl | rfl | rfl | rfl | rfl | rfl | rfl | rfl | rfl
  · exact m_refusal (c := "NoWay") (p := some pl) (at_ := 0) (w := "way") (by decide +kernel) (by decide +kernel) (by decide +kernel) rfl (by simp)
  · exact m_refusal (c := "NoJoin") (p := some pl) (at_ := 1) (w := "join") (by decide +kernel) (by decide +kernel) (by decide +kernel) rfl (by simp)
  · exact m_refusal (c := "NoStep") (p := some pl) (at_ := 2) (w := "step") (by decide +kernel) (by decide +kernel) (by decide +kernel) rfl (by simp)
  · exact m_refusal (c := "NoHouse") (p := some pl) (at_ := 3) (w := "house") (by decide +kernel) (by decide +kernel) (by decide +kernel) rfl (by simp)
  · exact m_refusal (c := "NoWeb") (p := none) (at_ := 4) (w := "web") (by decide +kernel) (by decide +kernel) (by decide +kernel) rfl (by simp)
  · exact m_refusal (c := "NoPrice") (p := none) (at_ := 5) (w := "price") (by decide +kernel) (by decide +kernel) (by decide +kernel) rfl (by simp)
  · exact m_refusal (c := "TooMany") (p := none) (at_ := 6) (w := "many") (by decide +kernel) (by decide +kernel) (by decide +kernel) rfl (by simp)
  · exact m_refusal (c := "Closed") (p := none) (at_ := 7) (w := "closed") (by decide +kernel) (by decide +kernel) (by decide +kernel) rfl (by simp)
  · exact m_refusal (c := "Free") (p := none) (at_ := 8) (w := "free") (by decide +kernel) (by decide +kernel) (by decide +kernel) rfl (by simp)
  · exact m_refusal (c := "Nothing") (p := none) (at_ := 9) (w := "nothing") (by decide +kernel) (by decide +kernel) (by decide +kernel) rfl (by simp)
  · exact m_refusal (c := "NoNumber") (p := none) (at_ := 10) (w := "number") (by decide +kernel) (by decide +kernel) (by decide +kernel) rfl (by simp)
  · exact m_refusal (c := "NoText") (p := none) (at_ := 11) (w := "text") (by decide +kernel) (by decide +kernel) (by decide +kernel) rfl (by simp)
  · exact m_refusal (c := "NoLine") (p := none) (at_ := 12) (w := "line") (by decide +kernel) (by decide +kernel) (by decide +kernel) rfl (by simp)
theorem thg06 (pl : Int) : Thg 13 2 (.lst ((cs06 pl).map du06)) := by
  refine .lst (by simp [cs06]) fun x hx => ?_
  obtain ⟨y, hy, rfl⟩ := List.mem_map.mp hx
  have hall : ((["NoWay", "NoJoin", "NoStep", "NoHouse", "NoWeb", "NoPrice", "TooMany", "Closed", "Free", "Nothing", "NoNumber", "NoText", "NoLine"] : List Str).all fun c => (TL.tl (wd06 c)).all fun c => decide (c < 1114112)) = true := by decide +kernel
  have hm : y.1 ∈ (cs06 pl).map (·.1) := List.mem_map.mpr ⟨y, hy, rfl⟩
  have ok : okT (wd06 y.1) := fun c hc => of_decide_eq_true (List.all_eq_true.mp (List.all_eq_true.mp hall y.1 hm) c hc)
  unfold du06
  refine .lst ?_ fun z hz => ?_
  · cases y.2 <;> simp
  · rcases List.mem_cons.mp hz with rfl | hz
    · exact .flat (show flatT (.str (wd06 y.1)) = true from okT_ok ok) _
    · cases h : y.2 with
      | none => rw [h] at hz; cases hz
      | some i => rw [h] at hz; rw [List.mem_singleton.mp hz]; exact .flat rfl _
def txt06 : SF := (sSet 4 (eMtS joinD (eC (.str "")) (eComp (iRng1' (eVar 3)) [5] (.nm 5) bYes (eCall den_L_any_sign 1 [(eVar 1)]))))
def same06 : SF := (sIf (bNot (bV (eCall den_L_same 2 [(eComp (iSeq false (eVar 7)) [9] (.nm 9) bYes (eCall den_L_refusal 1 [(eVar 9)])), (eVar 8)]))) (sRet (eC (.bl false))) sNil)
def made06 : SF := (sSeq (sSet 7 (eLst [(eExn1 "NoWay" (eVar 6)), (eExn1 "NoJoin" (eVar 6)), (eExn1 "NoStep" (eVar 6)), (eExn1 "NoHouse" (eVar 6)), (eExn0 "NoWeb" (eVar 4)), (eExn0 "NoPrice" (eVar 4)), (eExn0 "TooMany" (eVar 4))]))
  (sSeq (sSet 7 (eBin addD (eVar 7) (eLst [(eExn0 "Closed" (eVar 4)), (eExn0 "Free" (eVar 4)), (eExn0 "Nothing" (eVar 4)), (eExn0 "NoNumber" (eVar 4)), (eExn0 "NoText" (eVar 4)), (eExn0 "NoLine" (eVar 4))])))
  (sSeq (sSet 8 (eLst [(eLst [(eC (.str "way")), (eVar 6)]), (eLst [(eC (.str "join")), (eVar 6)]), (eLst [(eC (.str "step")), (eVar 6)]), (eLst [(eC (.str "house")), (eVar 6)]), (eLst [(eC (.str "web"))]), (eLst [(eC (.str "price"))]), (eLst [(eC (.str "many"))])]))
  (sSeq (sSet 8 (eBin addD (eVar 8) (eLst [(eLst [(eC (.str "closed"))]), (eLst [(eC (.str "free"))]), (eLst [(eC (.str "nothing"))]), (eLst [(eC (.str "number"))]), (eLst [(eC (.str "text"))]), (eLst [(eC (.str "line"))])])))
  same06))))
def turn06 : SF := (sSeq (sSet 3 (eBin addD (eC (.int 1)) (eCall den_L_take 2 [(eCall den_L_anew 1 [(eVar 1)]), (eC (.int 5))])))
  (sSeq txt06
  (sSeq (sSet 6 (eBin subD (eCall den_L_take 2 [(eVar 1), (eBin powD (eC (.int 10)) (eC (.int 6)))]) (eC (.int 9))))
  made06)))
theorem b_06 : b_law = (sSeq (sSet 1 (eCall den_L_open 1 [(eVar 0)])) (sSeq (sFor (iRng1' (eC (.int 3))) (.nm 2) turn06) (sRet (eBin eqD (eCall den_L_refusal 1 [(eExn0 "LotError" (eC (.str "a")))]) (eLst [(eC (.str "odd"))]))))) := id rfl
theorem made06_ok {x0 x1 x2 x3 x5 x7 x8 x9 : Option D} {t : Str} {pl : Int} : ∃ y7 y8 y9, made06 [x0, x1, x2, x3, some (.str t), x5, some (.int pl), x7, x8, x9] W = .ok (.nx [x0, x1, x2, x3, some (.str t), x5, some (.int pl), y7, y8, y9]) W := by
  have tE : ∀ c p, isTree (.exn c p) = true := fun _ _ => rfl
  have tL : ∀ xs : List D, isTree (.lst xs) = true := fun _ => rfl
  have al : ∀ xs ys : List D, xs.length + ys.length ≤ 1000 → addD W (.lst xs) (.lst ys) = some (.lst (xs ++ ys)) := fun xs ys h => add_l4 h
  have sT : ∀ s : Str, isTree (.str s) = true := fun _ => rfl
  obtain ⟨ds, hds⟩ : ∃ ds, ds = (cs06 pl).map fun x => D.exn x.1 x.2 := ⟨_, rfl⟩
  obtain ⟨us, hus⟩ : ∃ us, us = (cs06 pl).map du06 := ⟨_, rfl⟩
  refine ⟨some (.lst ds), some (.lst us), x9, ?_⟩
  have sq : ∀ xs : List D, seqI false (.lst xs) = some xs := fun _ => rfl
  have cg : compGo (.nm 9) bYes (eCall den_L_refusal 1 [(eVar 9)]) [x0, x1, x2, x3, some (.str t), x5, some (.int pl), some (.lst ds), some (.lst us), none] ds W = .ok us W := by
    rw [hds, hus]
    exact compGo_map (fun (x : Str × Option Int) => D.exn x.1 x.2) du06 (cs06 pl) fun x hx => ⟨[x0, x1, x2, x3, some (.str t), x5, some (.int pl), some (.lst ((cs06 pl).map fun x => D.exn x.1 x.2)), some (.lst ((cs06 pl).map du06)), some (.exn x.1 x.2)], rfl, by
      have lE : ∀ c p, lend (.exn c p) = .exn c p := fun _ _ => rfl
      have aE : ∀ c p, isArg (.exn c p) = true := fun _ _ => rfl
      have tD : isTree (du06 x) = true := rfl
      simp [lE, aE, ref06 pl x hx, tD], rfl⟩
  have sm := m_sameT (W := W) (w := 13) 2 8 _ (thg06 pl) (by omega)
  rw [← hus] at sm
  have sm' : den_L_same [.lst us, .lst us] W = .ok (.bl true) W := sm
  have lL : ∀ xs : List D, lend (.lst xs) = .lst xs := fun _ => rfl
  have aL : ∀ xs : List D, isArg (.lst xs) = true := fun _ => rfl
  have cs : same06 [x0, x1, x2, x3, some (.str t), x5, some (.int pl), some (.lst ds), some (.lst us), x9] W = .ok (.nx [x0, x1, x2, x3, some (.str t), x5, some (.int pl), some (.lst ds), some (.lst us), x9]) W := by
    unfold same06
    simp [sq, wipeE, cg, lL, aL, tL, sm']
  unfold made06
  rw [seq_nx (env' := [x0, x1, x2, x3, some (.str t), x5, some (.int pl), some (.lst [.exn "NoWay" (some pl), .exn "NoJoin" (some pl), .exn "NoStep" (some pl), .exn "NoHouse" (some pl), .exn "NoWeb" none, .exn "NoPrice" none, .exn "TooMany" none]), x8, x9]) (W' := W) (by simp [tE, tL])]
  rw [seq_nx (env' := [x0, x1, x2, x3, some (.str t), x5, some (.int pl), some (.lst ds), x8, x9]) (W' := W) (by simp [tE, tL, al, hds, cs06])]
  rw [seq_nx (env' := [x0, x1, x2, x3, some (.str t), x5, some (.int pl), some (.lst ds), some (.lst [.lst [.str "way", .int pl], .lst [.str "join", .int pl], .lst [.str "step", .int pl], .lst [.str "house", .int pl], .lst [.str "web"], .lst [.str "price"], .lst [.str "many"]]), x9]) (W' := W) (by simp [tE, tL, sT])]
  rw [seq_nx (env' := [x0, x1, x2, x3, some (.str t), x5, some (.int pl), some (.lst ds), some (.lst us), x9]) (W' := W) (by
    have hu : us = [D.lst [.str "way", .int pl], .lst [.str "join", .int pl], .lst [.str "step", .int pl], .lst [.str "house", .int pl], .lst [.str "web"], .lst [.str "price"], .lst [.str "many"], .lst [.str "closed"], .lst [.str "free"], .lst [.str "nothing"], .lst [.str "number"], .lst [.str "text"], .lst [.str "line"]] := hus
    rw [hu]
    simp [tL, sT, al])]
  exact cs
theorem wp_txt06 {Q : Fl → EV.World → Prop} {x0 x2 x4 x5 x6 x7 x8 x9 : Option D} {k : Nat} (hk : k ≤ 5) (p : PenX (nn + 10) W) (q : ∀ t W', PenX nn W' → Q (.nx [x0, some (.ob 1), x2, some (.int (k : Int)), some (.str t), x5, x6, x7, x8, x9]) W') :
    Wp (txt06 [x0, some (.ob 1), x2, some (.int (k : Int)), x4, x5, x6, x7, x8, x9] W) Q := by
  obtain ⟨C, hC⟩ : ∃ C : EF, C = (eCall den_L_any_sign 1 [(eVar 1)]) := ⟨_, rfl⟩
  obtain ⟨I, hI⟩ : ∃ I : List Nat → EV.World → Prop, I = fun xs W => PenX (nn + xs.length) W := ⟨_, rfl⟩
  obtain ⟨K, hK⟩ : ∃ K : List Nat → List D → Prop, K = fun xs rs => ∃ ts : List Str, rs = ts.map D.str ∧ ts.length = xs.length ∧ ∀ t ∈ ts, t.length = 1 := ⟨_, rfl⟩
  have cg := wp_comp (t := .nm 5) (ft := bYes) (fe := C) (env := [x0, some (.ob 1), x2, some (.int (k : Int)), x4, none, x6, x7, x8, x9]) (fun (i : Nat) => D.int (i : Int)) I K (by rw [hK]; exact ⟨[], rfl, rfl, fun _ h => (List.not_mem_nil h).elim⟩) (fun x xs W hh => by
    rw [hI] at hh
    rw [List.length_cons] at hh
    refine ⟨_, rfl, ?_⟩
    simp only [bYes, wp_ok, if_true]
    rw [hC]
    have oL : ∀ k, lend (.ob k) = .ob k := fun _ => rfl
    have oA : ∀ k, isArg (.ob k) = true := fun _ => rfl
    obtain ⟨Dn, hD⟩ : ∃ Dn : Den, Dn = den_L_any_sign := ⟨_, rfl⟩
    rw [← hD]
    simp [oL, oA]
    rw [hD]
    refine wp_any_signA (W0 := W) (n := nn + xs.length) ⟨hh.le (by omega), .refl _⟩ fun t W' ot lt p' => ⟨rfl, by rw [hI]; exact p'.1, fun rs hr => ?_⟩
    rw [hK] at hr ⊢
    obtain ⟨ts, rfl, l, b⟩ := hr
    exact ⟨t :: ts, rfl, by rw [List.length_cons, List.length_cons, l], fun j hj => by
      rcases List.mem_cons.mp hj with rfl | hj
      · exact lt
      · exact b j hj⟩) (List.range k) W (by rw [hI]; exact p.le (by rw [List.length_range]; omega))
  unfold txt06
  rw [← hC]
  simp [rg_k k (by omega), wipeE]
  refine cg.mono fun rs W5 hk' => ?_
  obtain ⟨hk', p5⟩ := hk'
  rw [hI] at p5
  rw [hK] at hk'
  obtain ⟨ts, rfl, l6, bt⟩ := hk'
  rw [List.length_range] at l6
  have jo : joinD W5 (.str "") (.lst (ts.map D.str)) = some (.str (Txt.join "" ts)) := by
    unfold joinD
    simp only [seqL, strsOf_map]
    have sm : (ts.map (·.length)).sum ≤ 1 * (ts.map (·.length)).length := sum_le fun x hx => by
      obtain ⟨y, hy, rfl⟩ := List.mem_map.mp hx
      rw [bt y hy]
      omega
    rw [List.length_map] at sm
    have e0 : (Str.ofString "").length = 0 := by decide +kernel
    rw [if_pos (by rw [e0]; omega)]
  have sT : ∀ s : Str, isTree (.str s) = true := fun _ => rfl
  have tL : ∀ xs : List D, isTree (.lst xs) = true := fun _ => rfl
  simp [tL, jo, sT]
  exact q _ W5 p5
theorem math : ∀ ns : List Int, ns.length ≤ 63 → ∃ W, den_law [.bo (ns.map D.int)] [] = .ok (.bl true) W := by
  intro ns hns
  obtain ⟨cells, ho⟩ := m_open ns
  suffices h : Wp (den_law [.bo (ns.map D.int)] []) (fun d W => d = .bl true) by
    obtain ⟨d, W, e, rfl⟩ := h.ex
    exact ⟨W, e⟩
  unfold den_law
  rw [wp_run, b_06]
  obtain ⟨B, hB⟩ : ∃ T : SF, T = turn06 := ⟨_, rfl⟩
  obtain ⟨Dr, hDr⟩ : ∃ Dr : Den, Dr = den_L_refusal := ⟨_, rfl⟩
  rw [← hB, ← hDr]
  have hp0 : PenX 90000 (penW [] cells 0 0) := ⟨[], cells, 0, 0, rfl, by omega, by omega⟩
  generalize penW [] cells 0 0 = W0 at ho hp0
  have oL : ∀ k, lend (.ob k) = .ob k := fun _ => rfl
  have oA : ∀ k, isArg (.ob k) = true := fun _ => rfl
  have oT : ∀ k, isTree (.ob k) = true := fun _ => rfl
  simp [ho, oT, oL, oA]
  refine ⟨_, rg_k 3 (by omega), ?_⟩
  obtain ⟨J, hJ⟩ : ∃ J : List Nat → EV.Env → EV.World → Prop, J = fun xs env W' => PenX (100 * xs.length) W' ∧ ∃ (y2 y3 y4 y5 y6 y7 y8 y9 : Option D), env = [some (.bo (ns.map D.int)), some (.ob 1), y2, y3, y4, y5, y6, y7, y8, y9] := ⟨_, rfl⟩
  refine Wp.forGo (fun (i : Nat) => D.int (i : Int)) J ?_ ?_ ?_
  · rw [hJ]
    exact ⟨hp0.le (by rw [List.length_range]; omega), none, none, none, none, none, none, none, none, rfl⟩
  · intro y ys env W' hh
    rw [hJ] at hh
    obtain ⟨hp, y2, y3, y4, y5, y6, y7, y8, y9, rfl⟩ := hh
    rw [List.length_cons] at hp
    rw [hB]
    show Wp (turn06 [some (.bo (ns.map D.int)), some (.ob 1), some (.int (y : Int)), y3, y4, y5, y6, y7, y8, y9] W') _
    unfold turn06
    refine wp_seq_mono (R := fun r W' => ∃ k : Nat, k ≤ 5 ∧ PenX (100 * ys.length + 90) W' ∧ r = .nx [some (.bo (ns.map D.int)), some (.ob 1), some (.int (y : Int)), some (.int (k : Int)), y4, y5, y6, y7, y8, y9]) ?_ ?_
    · simp [oL, oA]
      refine wpx_anew (n := 100 * ys.length + 100) (hp.le (by omega)) fun W1 p1 => ?_
      simp [oL, oA]
      refine wpx_take (n := 100 * ys.length + 99) (p1.le (by omega)) (by omega) (by omega) fun r W2 r0 r1 p2 => ?_
      simp
      exact ⟨(1 + r).toNat, by omega, p2.le (by omega), by rw [Int.toNat_of_nonneg (by omega)]⟩
    rintro r W2 ⟨k, hk, p2, rfl⟩
    rw [kSeq_nx]
    refine wp_seq_mono (R := fun r W' => ∃ t, PenX (100 * ys.length + 80) W' ∧ r = .nx [some (.bo (ns.map D.int)), some (.ob 1), some (.int (y : Int)), some (.int (k : Int)), some (.str t), y5, y6, y7, y8, y9]) ?_ ?_
    · exact wp_txt06 (nn := 100 * ys.length + 80) hk (p2.le (by omega)) fun t W3 p3 => ⟨t, p3, rfl⟩
    rintro r W3 ⟨t, p3, rfl⟩
    rw [kSeq_nx]
    refine wp_seq_mono (R := fun r W' => ∃ pl : Int, PenX (100 * ys.length) W' ∧ r = .nx [some (.bo (ns.map D.int)), some (.ob 1), some (.int (y : Int)), some (.int (k : Int)), some (.str t), y5, some (.int pl), y7, y8, y9]) ?_ ?_
    · have p10 : ∀ W : EV.World, powD W (.int 10) (.int 6) = some (.int 1000000) := fun W => powD_i (k := 6) (by decide) (by decide)
      simp [p10, oL, oA]
      refine wpx_take (n := 100 * ys.length + 79) (p3.le (by omega)) (by omega) (by omega) fun r W4 r0 r1 p4 => ?_
      simp
      exact p4.le (by omega)
    rintro r W4 ⟨pl, p4, rfl⟩
    rw [kSeq_nx]
    obtain ⟨z7, z8, z9, e⟩ := made06_ok (W := W4) (x0 := some (.bo (ns.map D.int))) (x1 := some (.ob 1)) (x2 := some (.int (y : Int))) (x3 := some (.int (k : Int))) (x5 := y5) (x7 := y7) (x8 := y8) (x9 := y9) (t := t) (pl := pl)
    rw [e]
    show J ys _ W4
    rw [hJ]
    exact ⟨p4, _, _, _, _, _, _, _, _, rfl⟩
  · intro env W' hh
    rw [hJ] at hh
    obtain ⟨hp, y2, y3, y4, y5, y6, y7, y8, y9, rfl⟩ := hh
    have lE : ∀ c p, lend (.exn c p) = .exn c p := fun _ _ => rfl
    have aE : ∀ c p, isArg (.exn c p) = true := fun _ _ => rfl
    have tL : ∀ xs : List D, isTree (.lst xs) = true := fun _ => rfl
    have sT : ∀ s : Str, isTree (.str s) = true := fun _ => rfl
    have rl := m_refusalL (W := W')
    have t : Thg 1 1 (.lst [.str (Str.ofString "odd")]) := .lst (by simp) fun x hx => by
      rw [List.mem_singleton.mp hx]
      exact .flat (show flatT (.str (Str.ofString "odd")) = true from by decide +kernel) 0
    have eo : eqD W' (.lst [.str "odd"]) (.lst [.str "odd"]) = some (.bl true) := by
      unfold eqD
      rw [t.shaped (by omega), eqv_self t]
      rfl
    rw [hDr]
    simp [lE, aE, rl, tL, sT, eo]
end

end NS
end
open PySem PySem.W PyProof.Rows
set_option maxHeartbeats 0 in
theorem PySem.Challenge.cw_lotjoin_k06_refusals_apart_holds : PySem.Challenge.rw_lotjoin_k06_refusals_apart.Holds := by
  w_on; o_law
  refine HandSHeadRun.head_any (r := PySem.W.OpenLaw.row PySem.Challenge.rw_lotjoin_k06_refusals_apart) (q := NS.qv) (H := NS.hk) (ob := NS.ob) (M := 14000) (loose := NS.nmH) (d := HandSHeadRun.topDef (PySem.W.OpenLaw.row PySem.Challenge.rw_lotjoin_k06_refusals_apart).prog 24) (kwd := []) NS.ob_eq
    (by kernel_rfl) (fun s => by kernel_rfl) NS.run (by kernel_rfl) (by kernel_rfl) (by kernel_rfl) (by rfl) (by first | assumption | decide +kernel) (by decide +kernel) ⟨rfl, rfl, rfl, rfl, rfl, by decide +kernel⟩ ?hw ?hc
  case hw => w_witness2
  case hc =>
    refine EV.walkH (l := PySem.Challenge.rw_lotjoin_k06_refusals_apart) (n := 63) (k := 9) (x := "script") NS.den_law rfl (by decide) (by kernel_rfl) ⟨rfl, by decide, by decide⟩ ?F NS.math
    intro w mg fa h Y G hmg0
    obtain ⟨K, KX, c⟩ := Y
    have hmg : mg ("law" : PySem.Str) = some (.ref fa) := by
      have e : (HandSHeadRun.topDef (PySem.W.OpenLaw.row PySem.Challenge.rw_lotjoin_k06_refusals_apart).prog 24).name = ("law" : PySem.Str) := by kernel_rfl
      rw [← e]
      exact hmg0
    obtain ⟨fd, hb, hF⟩ := NS.facts (l := PySem.Challenge.rw_lotjoin_k06_refusals_apart) KX G hmg c
    exact ⟨K, fd, KX, hb, hF⟩

