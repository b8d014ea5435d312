import PyProof.Rows.All
import Wide.All
import OpenK.AllK
import Wide.FinOn
import HandS.ForMost
import HandS.ForExc
import HandS.Exc
import HandS.AnyAll
import HandS.CallSlots
import HandS.Defaults
import KE.KeyNested
import KE.KDictKeyed
import HandS.GenList
import HandS.IsInst
import HandS.More
import HandS.SetFor
import HandS.Comp
import HandS.Iter
import KE.KUnpack
import HandS.Property
import HandS.MakeKwOnly
import HandS.HeadHook4
import HandS.HeadWalk
import HandS.ExcInit
import HandS.FStr
import KE.SortData
import KE.KDictSum
import KE.KDictCopyH
import KE.DataCmp
import PyProof.ReprRoads
import KE.GoesEnum
import HandS.EndTab
import HandS.EndBits
import HandS.HeadNt
import HandS.Head0
import HandS.Head1
import HandS.Head2
import HandS.HeadEnd
import PySem.Challenge.RW_wholecounts_k57_whole_boards_in_historie
set_option Elab.async false
set_option linter.all false
set_option maxRecDepth 100000
set_option maxHeartbeats 0
/-! DL1: values with tuples inline, a heap of named mutable objects over HandS's abstract heap; judgements. -/
namespace DL
open PySem PySem.Spec
open PyProof.Rows L2

/-- a mutable object's name: one that the proof chose, or any new one -/
inductive Oid where
  | tmp (n : Nat) | nm (p : List Nat)
  deriving DecidableEq
inductive D where
  | non | bl (b : Bool) | int (i : Int) | str (x : Str) | tup (xs : List D) | rol (xs : List D) | ref (i : Oid) | glo (n : Nat)
abbrev Mu := Oid → Option Addr
/-- what is fixed of a law: the written part, the tables of code objects, own classes, field names, global objects -/
structure Cfg where
  K : PySem.W.Frag
  cs : List (Addr × Addr)
  cad : Nat → Addr
  fnm : Nat → Str
  nf : Nat
  gad : Nat → Addr
  inj : ∀ m n, m < nf → n < nf → fnm m = fnm n → m = n

/-- a list that nobody writes: the script, or one of the written part -/
def RoL (K : PySem.W.Frag) (H : Hp) (a : Addr) (xs : List V) : Prop := (∃ o, H a = some (.frz o (.lst xs))) ∨
  ∃ (o : Obj) (its : Array Value) (n : Nat), K.lookup a = some o ∧ o.cls = .type "list" ∧ o.dict = none ∧ o.data = .seq its n ∧ its.size ≤ sizeLine ∧ Vals xs its.toList
theorem RoL.sq {K : PySem.W.Frag} {H : Hp} {a : Addr} {xs : List V} (h : RoL K H a xs) : SqL K H a xs := by
  rcases h with ⟨o, h⟩ | h
  · exact .inl (.inr ⟨o, h⟩)
  · exact .inr h
mutual
inductive RD (G : Cfg) (μ : Mu) (H : Hp) : D → V → Prop where
  | non : RD G μ H .non .non
  | bl (b : Bool) : RD G μ H (.bl b) (.bl b)
  | int (i : Int) : RD G μ H (.int i) (.int i)
  | str (x : Str) : RD G μ H (.str x) (.str x)
  | tup {ds : List D} {vs : List V} {a : Addr} : SqT G.K H a vs → RDs G μ H ds vs → RD G μ H (.tup ds) (.ref a)
  | rol {ds : List D} {vs : List V} {a : Addr} : RoL G.K H a vs → RDs G μ H ds vs → RD G μ H (.rol ds) (.ref a)
  | ref {i : Oid} {a : Addr} : μ i = some a → RD G μ H (.ref i) (.ref a)
  | glo (n : Nat) : RD G μ H (.glo n) (.ref (G.gad n))
inductive RDs (G : Cfg) (μ : Mu) (H : Hp) : List D → List V → Prop where
  | nil : RDs G μ H [] []
  | cons {d : D} {v : V} {ds : List D} {vs : List V} : RD G μ H d v → RDs G μ H ds vs → RDs G μ H (d :: ds) (v :: vs)
end

inductive DO where
  | lst (xs : List D)
  | dK (kvs : List (D × D)) | dN (kvs : List (D × D))
  | ins (c : Nat) (fs : List (Nat × D))
abbrev DH := Oid → Option DO
def upd (H : DH) (i : Oid) (o : DO) : DH := fun j => if j = i then some o else H j
theorem upd_same {H : DH} {i : Oid} {o : DO} : upd H i o i = some o := if_pos rfl
theorem upd_ne {H : DH} {i j : Oid} {o : DO} (h : j ≠ i) : upd H i o j = H j := if_neg h

/-- a scalar key -/
def keyD : D → Option Key
  | .int i => some (.inl i)
  | .str x => some (.inr x)
  | _ => none
mutual
def nkD : D → Option NestedKey
  | .non => some .none
  | .bl b => some (.num (if b then 1 else 0))
  | .int i => some (.num i)
  | .str x => some (.text x)
  | .tup xs => (nksD xs).map .tup
  | _ => none
def nksD : List D → Option (List NestedKey)
  | [] => some []
  | d :: ds => match nkD d, nksD ds with
    | some k, some ks => some (k :: ks)
    | _, _ => none
end
/-- a dict with nested keys at a -/
def nestObj (P : Program) (w : World) (a : Addr) (xs : List (NestedKey × Addr × Value)) : HO := .ext fun h =>
  ∃ o es ep, h.get? a = some o ∧ o.ExactDict ∧ o.data = .dict es ep ∧ es.toList = xs.map (entryOfKey (nestedKind P w)) ∧ (xs.map (·.1)).Nodup
inductive P2 {α β : Type} (R : α → β → Prop) : List α → List β → Prop where
  | nil : P2 R [] []
  | cons {a : α} {b : β} {as : List α} {bs : List β} : R a b → P2 R as bs → P2 R (a :: as) (b :: bs)

/-- what stands at an address -/
def RO (P : Program) (w : World) (G : Cfg) (μ : Mu) (H : Hp) (a : Addr) : DO → Prop
  | .lst ds => ∃ vs, H a = some (.lst vs) ∧ RDs G μ H ds vs
  | .dK kvs => ∃ kws : List (Key × V), H a = some (.dK kws) ∧ P2 (fun (p : D × D) (q : Key × V) => keyD p.1 = some q.1 ∧ RD G μ H p.2 q.2) kvs kws
  | .dN kvs => ∃ xs : List (NestedKey × Addr × Value), H a = some (nestObj P w a xs) ∧ (a == sysModules) = false ∧ kvs.length ≤ sizeLine ∧
      P2 (fun (p : D × D) (q : NestedKey × Addr × Value) => nkD p.1 = some q.1 ∧ q.1.depth ≤ 8 ∧ RD G μ H p.1 (.ref q.2.1) ∧ ∃ v, RelV v q.2.2 ∧ RD G μ H p.2 v) kvs xs
  | .ins c fs => ∃ (dx : Addr) (fv : List (Str × V)), H a = some (.ins (G.cad c) dx fv) ∧ P2 (fun (p : Nat × D) (q : Str × V) => q.1 = G.fnm p.1 ∧ p.1 < G.nf ∧ RD G μ H p.2 q.2) fs fv

def TabG (H : Hp) (P : Addr) : Prop := GxR.TabG H P
structure RHp (P : Program) (w : World) (G : Cfg) (μ : Mu) (H : Hp) (Hd : DH) : Prop where
  obj : ∀ i o, Hd i = some o → ∃ a, μ i = some a ∧ RO P w G μ H a o
  inj : ∀ i j a, μ i = some a → μ j = some a → i = j
  nmd : ∀ p a, μ (.nm p) = some a → ∃ o, Hd (.nm p) = some o
  bnd : ∃ B, ∀ n, B ≤ n → μ (.tmp n) = none
  tab : ∀ p ∈ G.cs, GxR.TabG H p.2
  there : ∀ i a, μ i = some a → H a ≠ none

/-- what a step keeps of values -/
structure Stp0 (μ : Mu) (H : Hp) (μ' : Mu) (H' : Hp) : Prop where
  mu : ∀ i a, μ i = some a → μ' i = some a
  tups : ∀ b xs, H b = some (.tup xs) → H' b = some (.tup xs)
  frzs : ∀ b o u, H b = some (.frz o u) → H' b = some (.frz o u)
/-- what a step keeps: besides, what is tracked stays so, and a list without a name stays as it is -/
structure Stp (μ : Mu) (H : Hp) (μ' : Mu) (H' : Hp) : Prop extends Stp0 μ H μ' H' where
  dom : ∀ b, H b ≠ none → H' b ≠ none
  fr : ∀ b o, H b = some o → (∀ ps, o ≠ .tbl ps) → (∀ j, μ j ≠ some b) → H' b = some o ∧ ∀ j, μ' j ≠ some b
theorem Stp.refl (μ : Mu) (H : Hp) : Stp μ H μ H := ⟨⟨fun _ _ e => e, fun _ _ e => e, fun _ _ _ e => e⟩, fun _ e => e, fun _ _ e _ n => ⟨e, n⟩⟩
theorem Stp0.trans {μ μ1 μ2 : Mu} {H H1 H2 : Hp} (a : Stp0 μ H μ1 H1) (b : Stp0 μ1 H1 μ2 H2) : Stp0 μ H μ2 H2 :=
  ⟨fun i x e => b.mu i x (a.mu i x e), fun c xs e => b.tups c xs (a.tups c xs e), fun c o u e => b.frzs c o u (a.frzs c o u e)⟩
theorem Stp.trans {μ μ1 μ2 : Mu} {H H1 H2 : Hp} (a : Stp μ H μ1 H1) (b : Stp μ1 H1 μ2 H2) : Stp μ H μ2 H2 :=
  ⟨a.toStp0.trans b.toStp0, fun c e => b.dom c (a.dom c e), fun c o e k n => let ⟨e1, n1⟩ := a.fr c o e k n; b.fr c o e1 k n1⟩
theorem Stp.frl {μ μ1 : Mu} {H H1 : Hp} (a : Stp μ H μ1 H1) {b : Addr} {xs : List V} (e : H b = some (.lst xs)) (n : ∀ j, μ j ≠ some b) : H1 b = some (.lst xs) ∧ ∀ j, μ1 j ≠ some b := a.fr b _ e (fun _ z => by cases z) n
theorem Stp.new {μ μ1 : Mu} {H H1 : Hp} (a : Stp μ H μ1 H1) {b : Addr} (e : H1 b = none) : H b = none := by
  cases q : H b with
  | none => rfl
  | some o => exact absurd e (a.dom b (by rw [q]; exact fun z => by cases z))
theorem Stp0.sqT {K : PySem.W.Frag} {μ μ' : Mu} {H H' : Hp} (t : Stp0 μ H μ' H') {a : Addr} {xs : List V} (h : SqT K H a xs) : SqT K H' a xs := by
  rcases h with (h | ⟨o, h⟩) | h
  · exact .inl (.inl (t.tups _ _ h))
  · exact .inl (.inr ⟨o, t.frzs _ _ _ h⟩)
  · exact .inr h
theorem Stp0.roL {K : PySem.W.Frag} {μ μ' : Mu} {H H' : Hp} (t : Stp0 μ H μ' H') {a : Addr} {xs : List V} (h : RoL K H a xs) : RoL K H' a xs := by
  rcases h with ⟨o, h⟩ | h
  · exact .inl ⟨o, t.frzs _ _ _ h⟩
  · exact .inr h
section
variable {G : Cfg} {μ μ' : Mu} {H H' : Hp}
mutual
theorem RD.step0 (t : Stp0 μ H μ' H') : ∀ {d : D} {v : V}, RD G μ H d v → RD G μ' H' d v
  | _, _, .non => .non
  | _, _, .bl b => .bl b
  | _, _, .int i => .int i
  | _, _, .str x => .str x
  | _, _, .tup h r => .tup (t.sqT h) (RDs.step0 t r)
  | _, _, .rol h r => .rol (t.roL h) (RDs.step0 t r)
  | _, _, .ref e => .ref (t.mu _ _ e)
  | _, _, .glo n => .glo n
theorem RDs.step0 (t : Stp0 μ H μ' H') : ∀ {ds : List D} {vs : List V}, RDs G μ H ds vs → RDs G μ' H' ds vs
  | _, _, .nil => .nil
  | _, _, .cons r rs => .cons (RD.step0 t r) (RDs.step0 t rs)
end
theorem RD.step (t : Stp μ H μ' H') {d : D} {v : V} (r : RD G μ H d v) : RD G μ' H' d v := r.step0 t.toStp0
theorem RDs.step (t : Stp μ H μ' H') {ds : List D} {vs : List V} (r : RDs G μ H ds vs) : RDs G μ' H' ds vs := r.step0 t.toStp0
theorem RDs.length : ∀ {ds : List D} {vs : List V}, RDs G μ H ds vs → ds.length = vs.length
  | _, _, .nil => rfl
  | _, _, .cons _ rs => congrArg Nat.succ (RDs.length rs)
theorem RDs.get : ∀ {ds : List D} {vs : List V} {i : Nat} {d : D}, RDs G μ H ds vs → ds[i]? = some d → ∃ v, vs[i]? = some v ∧ RD G μ H d v
  | _, _, _, _, .nil, e => by simp at e
  | _, _, 0, _, .cons r _, e => by simp at e; subst e; exact ⟨_, rfl, r⟩
  | _, _, i + 1, d, .cons _ t, e => by
    obtain ⟨u, h1, h2⟩ := RDs.get (i := i) (d := d) t (by simpa using e)
    exact ⟨u, by simpa using h1, h2⟩
theorem RDs.get2 : ∀ {ds : List D} {vs : List V} {i : Nat} {v : V}, RDs G μ H ds vs → vs[i]? = some v → ∃ d, ds[i]? = some d ∧ RD G μ H d v
  | _, _, _, _, .nil, e => by simp at e
  | _, _, 0, _, .cons r _, e => by simp at e; subst e; exact ⟨_, rfl, r⟩
  | _, _, i + 1, v, .cons _ t, e => by
    obtain ⟨u, h1, h2⟩ := RDs.get2 (i := i) (v := v) t (by simpa using e)
    exact ⟨u, by simpa using h1, h2⟩
theorem RDs.append : ∀ {xs ys : List D} {us ws : List V}, RDs G μ H xs us → RDs G μ H ys ws → RDs G μ H (xs ++ ys) (us ++ ws)
  | _, _, _, _, .nil, s => s
  | _, _, _, _, .cons r t, s => .cons r (RDs.append t s)
theorem RDs.take : ∀ {xs : List D} {us : List V} (n : Nat), RDs G μ H xs us → RDs G μ H (xs.take n) (us.take n)
  | _, _, 0, _ => .nil
  | _, _, _ + 1, .nil => .nil
  | _, _, n + 1, .cons r t => .cons r (RDs.take n t)
theorem RDs.drop : ∀ {xs : List D} {us : List V} (n : Nat), RDs G μ H xs us → RDs G μ H (xs.drop n) (us.drop n)
  | _, _, 0, r => r
  | _, _, _ + 1, .nil => .nil
  | _, _, n + 1, .cons _ t => RDs.drop n t
theorem RDs.set {x : D} {u : V} (r : RD G μ H x u) : ∀ {xs : List D} {us : List V} (i : Nat), RDs G μ H xs us → RDs G μ H (xs.set i x) (us.set i u)
  | _, _, _, .nil => .nil
  | _, _, 0, .cons _ t => .cons r t
  | _, _, i + 1, .cons q t => .cons q (RDs.set r i t)
theorem RDs.rep {x : D} {u : V} (r : RD G μ H x u) : ∀ n, RDs G μ H (List.replicate n x) (List.replicate n u)
  | 0 => .nil
  | n + 1 => .cons r (RDs.rep r n)
theorem RDs.ints : ∀ ns : List Int, RDs G μ H (ns.map D.int) (ns.map V.int)
  | [] => .nil
  | n :: r => .cons (.int n) (RDs.ints r)
end
theorem P2.imp {α β : Type} {R S : α → β → Prop} (f : ∀ a b, R a b → S a b) : ∀ {as : List α} {bs : List β}, P2 R as bs → P2 S as bs
  | _, _, .nil => .nil
  | _, _, .cons r t => .cons (f _ _ r) (P2.imp f t)
theorem P2.length {α β : Type} {R : α → β → Prop} : ∀ {as : List α} {bs : List β}, P2 R as bs → as.length = bs.length
  | _, _, .nil => rfl
  | _, _, .cons _ t => congrArg Nat.succ (P2.length t)
theorem P2.get {α β : Type} {R : α → β → Prop} : ∀ {as : List α} {bs : List β} {i : Nat} {a : α}, P2 R as bs → as[i]? = some a → ∃ b, bs[i]? = some b ∧ R a b
  | _, _, _, _, .nil, e => by simp at e
  | _, _, 0, _, .cons r _, e => by simp at e; subst e; exact ⟨_, rfl, r⟩
  | _, _, i + 1, a, .cons _ t, e => by
    obtain ⟨u, h1, h2⟩ := P2.get (i := i) (a := a) t (by simpa using e)
    exact ⟨u, by simpa using h1, h2⟩
theorem P2.get2 {α β : Type} {R : α → β → Prop} : ∀ {as : List α} {bs : List β} {i : Nat} {b : β}, P2 R as bs → bs[i]? = some b → ∃ a, as[i]? = some a ∧ R a b
  | _, _, _, _, .nil, e => by simp at e
  | _, _, 0, _, .cons r _, e => by simp at e; subst e; exact ⟨_, rfl, r⟩
  | _, _, i + 1, b, .cons _ t, e => by
    obtain ⟨u, h1, h2⟩ := P2.get2 (i := i) (b := b) t (by simpa using e)
    exact ⟨u, by simpa using h1, h2⟩
theorem P2.append {α β : Type} {R : α → β → Prop} : ∀ {as cs : List α} {bs ds : List β}, P2 R as bs → P2 R cs ds → P2 R (as ++ cs) (bs ++ ds)
  | _, _, _, _, .nil, t => t
  | _, _, _, _, .cons r t, s => .cons r (P2.append t s)

abbrev DSt := List (Option D)
structure RSt (G : Cfg) (μ : Mu) (H : Hp) (σ : DSt) (σv : L2.St) : Prop where
  len : σ.length = σv.length
  at_ : ∀ (i : Nat) (d : D), σ[i]? = some (some d) → ∃ v, σv[i]? = some (some v) ∧ RD G μ H d v
theorem RSt.step0 {G : Cfg} {μ μ' : Mu} {H H' : Hp} {σ : DSt} {σv : L2.St} (t : Stp0 μ H μ' H') (r : RSt G μ H σ σv) : RSt G μ' H' σ σv :=
  ⟨r.len, fun i d e => let ⟨v, h1, h2⟩ := r.at_ i d e; ⟨v, h1, h2.step0 t⟩⟩
theorem RSt.step {G : Cfg} {μ μ' : Mu} {H H' : Hp} {σ : DSt} {σv : L2.St} (t : Stp μ H μ' H') (r : RSt G μ H σ σv) : RSt G μ' H' σ σv := r.step0 t.toStp0
theorem RSt.set {G : Cfg} {μ : Mu} {H : Hp} {σ : DSt} {σv : L2.St} {d : D} {v : V} (i : Nat) (r : RSt G μ H σ σv) (q : RD G μ H d v) : RSt G μ H (σ.set i (some d)) (σv.set i (some v)) := by
  refine ⟨by simpa using r.len, fun j x e => ?_⟩
  by_cases h : i = j
  · subst h
    by_cases hl : i < σ.length
    · rw [List.getElem?_set_self hl] at e
      cases e
      exact ⟨v, by rw [List.getElem?_set_self (by rw [← r.len]; exact hl)], q⟩
    · rw [List.getElem?_eq_none (by simpa using hl)] at e; cases e
  · rw [List.getElem?_set_ne h] at e
    obtain ⟨w, h1, h2⟩ := r.at_ j x e
    exact ⟨w, by rw [List.getElem?_set_ne h]; exact h1, h2⟩

abbrev DXW := Nat → D → DH → Prop
/-- the wish about own exceptions, down to HandS -/
def wxOf (P : Program) (w : World) (G : Cfg) (μ0 : Mu) (H0 : Hp) (W : DXW) : WX := fun cls dx _ H => ∃ c d a v μ' Hd', cls = .ref (G.cad c) ∧ dx = some a ∧ H a = some (.xd [("value", v)]) ∧
  Stp μ0 H0 μ' H ∧ RHp P w G μ' H Hd' ∧ RD G μ' H d v ∧ W c d Hd'
/-- a context: HandS's, the configuration, the entry, the wish about exceptions -/
structure Dx where
  X : Cx
  G : Cfg
  μ0 : Mu
  H0 : Hp
  W : DXW
  hK : G.K = X.K
  tk : Takes X (wxOf X.prog X.w G μ0 H0 W)
structure DI (Y : Dx) (pins : List (Addr × Obj)) (σv : L2.St) (H : Hp) (μ : Mu) (σ : DSt) (Hd : DH) (s : Shared) : Prop where
  inv : Inv Y.X pins σv H s
  st : Stp Y.μ0 Y.H0 μ H
  rs : RSt Y.G μ H σ σv
  rh : RHp Y.X.prog Y.X.w Y.G μ H Hd

abbrev DVK := D → DH → Prop
abbrev DTE := DSt → DH → DVK → Prop
abbrev DTT := DSt → DH → (Bool → DH → Prop) → Prop
abbrev DTA := DSt → DH → (List D → DH → Prop) → Prop
structure DEnds where
  nx : DSt → DH → Prop
  rt : DVK
  bk : DSt → DH → Prop := fun _ _ => False
  ct : DSt → DH → Prop := fun _ _ => False
abbrev DTS := DEnds → DSt → DH → Prop

/-- an expression's end -/
def EPd (Y : Dx) (pins : List (Addr × Obj)) (σv : L2.St) (μ : Mu) (H : Hp) (σ : DSt) (Q : DVK) (u : Value) (s' : Shared) : Prop :=
  ∃ d v H' μ' Hd', DI Y pins σv H' μ' σ Hd' s' ∧ Stp μ H μ' H' ∧ RelV v u ∧ RD Y.G μ' H' d v ∧ Q d Hd'
def TPd (Y : Dx) (pins : List (Addr × Obj)) (σv : L2.St) (μ : Mu) (H : Hp) (σ : DSt) (Q : Bool → DH → Prop) (b : Bool) (s' : Shared) : Prop :=
  ∃ H' μ' Hd', DI Y pins σv H' μ' σ Hd' s' ∧ Stp μ H μ' H' ∧ Q b Hd'
def APd (Y : Dx) (pins : List (Addr × Obj)) (σv : L2.St) (μ : Mu) (H : Hp) (σ : DSt) (Q : List D → DH → Prop) (us : List Value) (s' : Shared) : Prop :=
  ∃ ds vs H' μ' Hd', DI Y pins σv H' μ' σ Hd' s' ∧ Stp μ H μ' H' ∧ Vals vs us ∧ RDs Y.G μ' H' ds vs ∧ Q ds Hd'
def SPd (Y : Dx) (pins : List (Addr × Obj)) (μ : Mu) (H : Hp) (D : DEnds) (f : Flow) (s' : Shared) : Prop :=
  match f with
  | .next => ∃ σv' H' μ' σ' Hd', DI Y pins σv' H' μ' σ' Hd' s' ∧ Stp μ H μ' H' ∧ D.nx σ' Hd'
  | .brk => ∃ σv' H' μ' σ' Hd', DI Y pins σv' H' μ' σ' Hd' s' ∧ Stp μ H μ' H' ∧ D.bk σ' Hd'
  | .cont => ∃ σv' H' μ' σ' Hd', DI Y pins σv' H' μ' σ' Hd' s' ∧ Stp μ H μ' H' ∧ D.ct σ' Hd'
  | .ret u => ∃ d v σv' H' μ' σ' Hd', DI Y pins σv' H' μ' σ' Hd' s' ∧ Stp μ H μ' H' ∧ RelV v u ∧ RD Y.G μ' H' d v ∧ D.rt d Hd'

structure DE (Y : Dx) (e : Expr) (T : DTE) : Prop where
  run : ∀ pins s σv H μ σ Hd Q, DI Y pins σv H μ σ Hd s → T σ Hd Q → wpAny (model Y.X.prog Y.X.w) Y.X.A (eval e Y.X.env) (EPd Y pins σv μ H σ Q) Y.X.xe s
structure DT (Y : Dx) (e : Expr) (T : DTT) : Prop where
  run : ∀ pins s σv H μ σ Hd Q, DI Y pins σv H μ σ Hd s → T σ Hd Q → wpAny (model Y.X.prog Y.X.w) Y.X.A (isTrue e Y.X.env (eval e Y.X.env)) (TPd Y pins σv μ H σ Q) Y.X.xe s
structure DW (Y : Dx) (e : Expr) (T : DTT) : Prop where
  run : ∀ whole pins s σv H μ σ Hd Q, DI Y pins σv H μ σ Hd s → T σ Hd Q → wpAny (model Y.X.prog Y.X.w) Y.X.A (isTrue e Y.X.env whole) (TPd Y pins σv μ H σ Q) Y.X.xe s
structure DA (Y : Dx) (es : List Expr) (T : DTA) : Prop where
  run : ∀ pos pins s σv H μ σ Hd Q, DI Y pins σv H μ σ Hd s → T σ Hd Q → wpAny (model Y.X.prog Y.X.w) Y.X.A (spliced (backTo pos (starEach es Y.X.env))) (APd Y pins σv μ H σ Q) Y.X.xe s
structure DS (Y : Dx) (st : Stmt) (T : DTS) : Prop where
  run : ∀ pins s σv H μ σ Hd (D : DEnds), DI Y pins σv H μ σ Hd s → T D σ Hd → wpAny (model Y.X.prog Y.X.w) Y.X.A (exec st Y.X.env) (SPd Y pins μ H D) Y.X.xe s
structure DSs (Y : Dx) (st : List Stmt) (T : DTS) : Prop where
  run : ∀ pins s σv H μ σ Hd (D : DEnds), DI Y pins σv H μ σ Hd s → T D σ Hd → wpAny (model Y.X.prog Y.X.w) Y.X.A (execs st Y.X.env) (SPd Y pins μ H D) Y.X.xe s
theorem DW.t {Y : Dx} {e : Expr} {T : DTT} (h : DW Y e T) : DT Y e T := ⟨h.run _⟩

/-! ### up to HandS's judgements -/
section
variable (P : Program) (w : World) (G : Cfg) (μ0 : Mu) (H0 : Hp)
def liftE (T : DTE) : TE := fun σv H Q => ∃ μ σ Hd Qd, Stp μ0 H0 μ H ∧ RSt G μ H σ σv ∧ RHp P w G μ H Hd ∧ T σ Hd Qd ∧
  ∀ d Hd' v H' μ', Qd d Hd' → Stp μ H μ' H' → RHp P w G μ' H' Hd' → RD G μ' H' d v → Q v H'
def liftT (T : DTT) : TT := fun σv H Q => ∃ μ σ Hd Qd, Stp μ0 H0 μ H ∧ RSt G μ H σ σv ∧ RHp P w G μ H Hd ∧ T σ Hd Qd ∧
  ∀ b Hd' H' μ', Qd b Hd' → Stp μ H μ' H' → RHp P w G μ' H' Hd' → Q b H'
def liftS (T : DTS) : TS := fun D σv H => ∃ μ σ Hd Dd, Stp μ0 H0 μ H ∧ RSt G μ H σ σv ∧ RHp P w G μ H Hd ∧ T Dd σ Hd ∧
  (∀ σ' Hd' σv' H' μ', Dd.nx σ' Hd' → Stp μ H μ' H' → RSt G μ' H' σ' σv' → RHp P w G μ' H' Hd' → D.nx σv' H') ∧
  (∀ σ' Hd' σv' H' μ', Dd.bk σ' Hd' → Stp μ H μ' H' → RSt G μ' H' σ' σv' → RHp P w G μ' H' Hd' → D.bk σv' H') ∧
  (∀ σ' Hd' σv' H' μ', Dd.ct σ' Hd' → Stp μ H μ' H' → RSt G μ' H' σ' σv' → RHp P w G μ' H' Hd' → D.ct σv' H') ∧
  (∀ d Hd' v H' μ', Dd.rt d Hd' → Stp μ H μ' H' → RHp P w G μ' H' Hd' → RD G μ' H' d v → D.rt v H')
end
abbrev Dx.lE (Y : Dx) (T : DTE) : TE := liftE Y.X.prog Y.X.w Y.G Y.μ0 Y.H0 T
abbrev Dx.lT (Y : Dx) (T : DTT) : TT := liftT Y.X.prog Y.X.w Y.G Y.μ0 Y.H0 T
abbrev Dx.lS (Y : Dx) (T : DTS) : TS := liftS Y.X.prog Y.X.w Y.G Y.μ0 Y.H0 T
theorem DE.pe {Y : Dx} {e : Expr} {T : DTE} (h : DE Y e T) : PE Y.X e (Y.lE T) := by
  refine ⟨fun pins s σv H Q I q => ?_⟩
  obtain ⟨μ, σ, Hd, Qd, st, rs, rh, q, z⟩ := q
  refine thn (h.run pins s σv H μ σ Hd Qd ⟨I, st, rs, rh⟩ q) fun u s' ⟨d, v, H', μ', Hd', J, t, r, rd, q'⟩ => ?_
  exact ⟨v, H', J.inv, r, z _ _ v H' μ' q' t J.rh rd⟩
theorem DT.pt {Y : Dx} {e : Expr} {T : DTT} (h : DT Y e T) : PT Y.X e (Y.lT T) := by
  refine ⟨fun pins s σv H Q I q => ?_⟩
  obtain ⟨μ, σ, Hd, Qd, st, rs, rh, q, z⟩ := q
  exact thn (h.run pins s σv H μ σ Hd Qd ⟨I, st, rs, rh⟩ q) fun b s' ⟨H', μ', Hd', J, t, q'⟩ => ⟨H', J.inv, z _ _ H' μ' q' t J.rh⟩
theorem DSs.pss {Y : Dx} {st : List Stmt} {T : DTS} (h : DSs Y st T) : PSs Y.X st (Y.lS T) := by
  refine ⟨fun pins s σv H D I q => ?_⟩
  obtain ⟨μ, σ, Hd, Dd, st, rs, rh, q, z1, z2, z3, z4⟩ := q
  refine thn (h.run pins s σv H μ σ Hd Dd ⟨I, st, rs, rh⟩ q) fun f s' h => ?_
  cases f with
  | next => obtain ⟨σv', H', μ', σ', Hd', J, t, q⟩ := h; exact ⟨σv', H', J.inv, z1 _ _ _ _ _ q t J.rs J.rh⟩
  | brk => obtain ⟨σv', H', μ', σ', Hd', J, t, q⟩ := h; exact ⟨σv', H', J.inv, z2 _ _ _ _ _ q t J.rs J.rh⟩
  | cont => obtain ⟨σv', H', μ', σ', Hd', J, t, q⟩ := h; exact ⟨σv', H', J.inv, z3 _ _ _ _ _ q t J.rs J.rh⟩
  | ret u => obtain ⟨d, v, σv', H', μ', σ', Hd', J, t, r, rd, q⟩ := h; exact ⟨v, σv', H', J.inv, r, z4 _ _ _ _ _ q t J.rh rd⟩
/-- from HandS's: the reading must follow from the wish -/
theorem DE.of {Y : Dx} {e : Expr} {T : DTE} {t : TE} (h : PE Y.X e t)
    (f : ∀ pins s σv H μ σ Hd Q, DI Y pins σv H μ σ Hd s → T σ Hd Q → t σv H fun v H' => ∃ d μ' Hd', Stp μ H μ' H' ∧ RHp Y.X.prog Y.X.w Y.G μ' H' Hd' ∧ RD Y.G μ' H' d v ∧ Q d Hd') : DE Y e T := by
  refine ⟨fun pins s σv H μ σ Hd Q I q => ?_⟩
  refine thn (h.run pins s σv H _ I.inv (f pins s σv H μ σ Hd Q I q)) fun u s' ⟨v, H', J, r, d, μ', Hd', t, rh, rd, q'⟩ => ?_
  exact ⟨d, v, H', μ', Hd', ⟨J, I.st.trans t, I.rs.step t, rh⟩, t, r, rd, q'⟩
theorem DT.of {Y : Dx} {e : Expr} {T : DTT} {t : TT} (h : PT Y.X e t)
    (f : ∀ pins s σv H μ σ Hd Q, DI Y pins σv H μ σ Hd s → T σ Hd Q → t σv H fun b H' => ∃ μ' Hd', Stp μ H μ' H' ∧ RHp Y.X.prog Y.X.w Y.G μ' H' Hd' ∧ Q b Hd') : DT Y e T := by
  refine ⟨fun pins s σv H μ σ Hd Q I q => ?_⟩
  refine thn (h.run pins s σv H _ I.inv (f pins s σv H μ σ Hd Q I q)) fun b s' ⟨H', J, μ', Hd', t, rh, q'⟩ => ?_
  exact ⟨H', μ', Hd', ⟨J, I.st.trans t, I.rs.step t, rh⟩, t, q'⟩
/-- the same state behind a step -/
theorem DI.to {Y : Dx} {pins : List (Addr × Obj)} {σv : L2.St} {H H' : Hp} {μ μ' : Mu} {σ : DSt} {Hd Hd' : DH} {s s' : Shared} (I : DI Y pins σv H μ σ Hd s) (J : Inv Y.X pins σv H' s') (t : Stp μ H μ' H')
    (rh : RHp Y.X.prog Y.X.w Y.G μ' H' Hd') : DI Y pins σv H' μ' σ Hd' s' := ⟨J, I.st.trans t, I.rs.step t, rh⟩
theorem DS.of {Y : Dx} {st : Stmt} {T : DTS} {t : TS} (h : PS Y.X st t)
    (f : ∀ pins s σv H μ σ Hd (D : DEnds), DI Y pins σv H μ σ Hd s → T D σ Hd → t
      { nx := fun σv' H' => ∃ μ' σ' Hd', Stp μ H μ' H' ∧ RSt Y.G μ' H' σ' σv' ∧ RHp Y.X.prog Y.X.w Y.G μ' H' Hd' ∧ D.nx σ' Hd'
        bk := fun σv' H' => ∃ μ' σ' Hd', Stp μ H μ' H' ∧ RSt Y.G μ' H' σ' σv' ∧ RHp Y.X.prog Y.X.w Y.G μ' H' Hd' ∧ D.bk σ' Hd'
        ct := fun σv' H' => ∃ μ' σ' Hd', Stp μ H μ' H' ∧ RSt Y.G μ' H' σ' σv' ∧ RHp Y.X.prog Y.X.w Y.G μ' H' Hd' ∧ D.ct σ' Hd'
        rt := fun v H' => ∃ d μ' Hd', Stp μ H μ' H' ∧ RHp Y.X.prog Y.X.w Y.G μ' H' Hd' ∧ RD Y.G μ' H' d v ∧ D.rt d Hd' } σv H) : DS Y st T := by
  refine ⟨fun pins s σv H μ σ Hd D I q => ?_⟩
  refine thn (h.run pins s σv H _ I.inv (f pins s σv H μ σ Hd D I q)) fun fl s' z => ?_
  cases fl with
  | next => obtain ⟨σv', H', J, μ', σ', Hd', t, rs, rh, q'⟩ := z; exact ⟨σv', H', μ', σ', Hd', ⟨J, I.st.trans t, rs, rh⟩, t, q'⟩
  | brk => obtain ⟨σv', H', J, μ', σ', Hd', t, rs, rh, q'⟩ := z; exact ⟨σv', H', μ', σ', Hd', ⟨J, I.st.trans t, rs, rh⟩, t, q'⟩
  | cont => obtain ⟨σv', H', J, μ', σ', Hd', t, rs, rh, q'⟩ := z; exact ⟨σv', H', μ', σ', Hd', ⟨J, I.st.trans t, rs, rh⟩, t, q'⟩
  | ret u =>
    obtain ⟨v, σv', H', J, r, d, μ', Hd', t, rh, rd, q'⟩ := z
    refine ⟨d, v, σv', H', μ', List.replicate σv'.length none, Hd', ⟨J, I.st.trans t, ⟨by simp, fun i x e => ?_⟩, rh⟩, t, r, rd, q'⟩
    rw [List.getElem?_replicate] at e
    split at e <;> cases e

/-! ### the heap's own steps -/
theorem RO.step0 {P : Program} {w : World} {G : Cfg} {μ μ' : Mu} {H H' : Hp} {a : Addr} {o : DO} (t : Stp0 μ H μ' H') (e : ∀ u, H a = some u → H' a = some u) (r : RO P w G μ H a o) : RO P w G μ' H' a o := by
  cases o with
  | lst ds => obtain ⟨vs, h, r⟩ := r; exact ⟨vs, e _ h, r.step0 t⟩
  | dK kvs => obtain ⟨kws, h, r⟩ := r; exact ⟨kws, e _ h, r.imp fun p q z => ⟨z.1, z.2.step0 t⟩⟩
  | dN kvs => obtain ⟨xs, h, h1, h2, r⟩ := r; exact ⟨xs, e _ h, h1, h2, r.imp fun p q ⟨z1, z2, z3, v, z4, z5⟩ => ⟨z1, z2, z3.step0 t, v, z4, z5.step0 t⟩⟩
  | ins c fs => obtain ⟨dx, fv, h, r⟩ := r; exact ⟨dx, fv, e _ h, r.imp fun p q ⟨z1, z2, z3⟩ => ⟨z1, z2, z3.step0 t⟩⟩
theorem RO.tracked {P : Program} {w : World} {G : Cfg} {μ : Mu} {H : Hp} {a : Addr} {o : DO} (r : RO P w G μ H a o) : Mut (H a) := by
  cases o with
  | lst ds => obtain ⟨vs, h, r⟩ := r; rw [h]; trivial
  | dK kvs => obtain ⟨kws, h, r⟩ := r; rw [h]; trivial
  | dN kvs => obtain ⟨xs, h, r⟩ := r; rw [h]; trivial
  | ins c fs => obtain ⟨dx, fv, h, r⟩ := r; rw [h]; trivial
section
variable {P : Program} {w : World} {G : Cfg} {μ : Mu} {H H' : Hp} {Hd : DH}
/-- more is tracked -/
theorem RHp.grow (rh : RHp P w G μ H Hd) (e : ∀ a u, H a = some u → H' a = some u) : Stp μ H μ H' ∧ RHp P w G μ H' Hd := by
  have dom : ∀ b, H b ≠ none → H' b ≠ none := fun b h z => by
    cases q : H b with
    | none => exact h q
    | some u => rw [e _ _ q] at z; cases z
  have t : Stp μ H μ H' := ⟨⟨fun _ _ z => z, fun b xs z => e _ _ z, fun b o u z => e _ _ z⟩, dom, fun b o z _ n => ⟨e _ _ z, n⟩⟩
  refine ⟨t, ⟨fun i o h => ?_, rh.inj, rh.nmd, rh.bnd, fun p hp => ?_, fun i a h => dom a (rh.there i a h)⟩⟩
  · obtain ⟨a, h1, r⟩ := rh.obj i o h
    exact ⟨a, h1, r.step0 t.toStp0 fun u z => e _ _ z⟩
  · obtain ⟨ps, h1, h2⟩ := rh.tab p hp
    exact ⟨ps, e _ _ h1, h2⟩
theorem grow_at {a : Addr} {o : HO} (hn : H a = none) : ∀ b u, H b = some u → L2.upd H a o b = some u := fun b u h => by rw [L2.upd_ne (ne_of_none h hn)]; exact h
theorem stp0_upd {a : Addr} {u : HO} (mu : Mut (H a)) : Stp0 μ H μ (L2.upd H a u) := by
  have nt : ∀ b xs, H b = some (.tup xs) → b ≠ a := fun b xs h z => by subst z; rw [h] at mu; exact mu
  have nf : ∀ b o u, H b = some (.frz o u) → b ≠ a := fun b o u h z => by subst z; rw [h] at mu; exact mu
  exact ⟨fun _ _ z => z, fun b xs z => by rw [L2.upd_ne (nt _ _ z)]; exact z, fun b o u z => by rw [L2.upd_ne (nf _ _ _ z)]; exact z⟩
theorem dom_upd {a : Addr} {u : HO} : ∀ b, H b ≠ none → L2.upd H a u b ≠ none := fun b h => by
  by_cases hb : b = a
  · subst hb; rw [L2.upd_same]; exact fun z => by cases z
  · rw [L2.upd_ne hb]; exact h
theorem tab_upd {a p : Addr} {u : HO} (mu : Mut (H a)) (h : GxR.TabG H p) : GxR.TabG (L2.upd H a u) p := by
  obtain ⟨ps, h1, h2⟩ := h
  have hb : p ≠ a := fun z => by subst z; rw [h1] at mu; exact mu
  exact ⟨ps, by rw [L2.upd_ne hb]; exact h1, h2⟩
/-- an object is rewritten -/
theorem RHp.set {i : Oid} {a : Addr} {o o' : DO} {u : HO} (rh : RHp P w G μ H Hd) (hi : μ i = some a) (h0 : Hd i = some o) (hu : ∀ t : Stp μ H μ (L2.upd H a u), RO P w G μ (L2.upd H a u) a o') :
    Stp μ H μ (L2.upd H a u) ∧ RHp P w G μ (L2.upd H a u) (upd Hd i o') := by
  obtain ⟨a', e', r⟩ := rh.obj i o h0
  rw [hi] at e'; cases e'
  have mu := r.tracked
  have t : Stp μ H μ (L2.upd H a u) := ⟨stp0_upd mu, dom_upd, fun b o z _ n => ⟨by rw [L2.upd_ne (fun e => n i (by rw [e]; exact hi))]; exact z, n⟩⟩
  refine ⟨t, ⟨fun j q h => ?_, rh.inj, fun p b h => ?_, rh.bnd, fun p hp => tab_upd mu (rh.tab p hp), fun j b h => dom_upd b (rh.there j b h)⟩⟩
  · unfold upd at h
    split at h
    · rename_i e; subst e; cases h
      exact ⟨a, hi, hu t⟩
    · rename_i e
      obtain ⟨b, h1, r1⟩ := rh.obj j q h
      have hb : b ≠ a := fun z => e (rh.inj j i b h1 (by rw [z]; exact hi))
      exact ⟨b, h1, r1.step0 t.toStp0 fun u z => by rw [L2.upd_ne hb]; exact z⟩
  · obtain ⟨q, h1⟩ := rh.nmd p b h
    unfold upd
    split
    · exact ⟨_, rfl⟩
    · exact ⟨q, h1⟩
/-- an object without a name is rewritten -/
theorem RHp.setU {a : Addr} {u0 u : HO} (rh : RHp P w G μ H Hd) (mu0 : Mut (some u0)) (ha : H a = some u0) (hf : ∀ j, μ j ≠ some a) : RHp P w G μ (L2.upd H a u) Hd := by
  have mu : Mut (H a) := by rw [ha]; exact mu0
  refine ⟨fun j q h => ?_, rh.inj, rh.nmd, rh.bnd, fun p hp => tab_upd mu (rh.tab p hp), fun j b h => dom_upd b (rh.there j b h)⟩
  obtain ⟨b, h1, r1⟩ := rh.obj j q h
  have hb : b ≠ a := fun z => hf j (z ▸ h1)
  exact ⟨b, h1, r1.step0 (stp0_upd mu) fun u z => by rw [L2.upd_ne hb]; exact z⟩
/-- .. which was made behind the start -/
theorem Stp.setU {μ0 : Mu} {H0 : Hp} {a : Addr} {u0 u : HO} (t : Stp μ0 H0 μ H) (h0 : H0 a = none) (mu0 : Mut (some u0)) (ha : H a = some u0) : Stp μ0 H0 μ (L2.upd H a u) := by
  have mu : Mut (H a) := by rw [ha]; exact mu0
  refine ⟨t.toStp0.trans (stp0_upd mu), fun b h => dom_upd b (t.dom b h), fun b zs z kk n => ?_⟩
  obtain ⟨e, n'⟩ := t.fr b zs z kk n
  exact ⟨by rw [L2.upd_ne (ne_of_none z h0)]; exact e, n'⟩
def muSet (μ : Mu) (i : Oid) (a : Addr) : Mu := fun j => if j = i then some a else μ j
theorem muSet_same {i : Oid} {a : Addr} : muSet μ i a i = some a := if_pos rfl
theorem muSet_ne {i j : Oid} {a : Addr} (h : j ≠ i) : muSet μ i a j = μ j := if_neg h
theorem RHp.new_mu (rh : RHp P w G μ H Hd) (i : Oid) (hi : Hd i = none) (hm : (∃ p, i = .nm p) ∨ μ i = none) : μ i = none := by
  rcases hm with ⟨p, rfl⟩ | h
  · cases e : μ (.nm p) with
    | none => rfl
    | some a => obtain ⟨o, h1⟩ := rh.nmd p a e; rw [hi] at h1; cases h1
  · exact h
/-- a tracked object that is new since H0 gets a name -/
theorem RHp.name {μ0 : Mu} {H0 : Hp} {i : Oid} {a : Addr} {o : DO} (rh : RHp P w G μ H Hd) (t0 : Stp μ0 H0 μ H) (h0 : H0 a = none) (hm : μ i = none) (ha : H a ≠ none) (hf : ∀ j, μ j ≠ some a)
    (hu : ∀ t : Stp0 μ H (muSet μ i a) H, RO P w G (muSet μ i a) H a o) : Stp μ0 H0 (muSet μ i a) H ∧ Stp0 μ H (muSet μ i a) H ∧ RHp P w G (muSet μ i a) H (upd Hd i o) := by
  have ne : ∀ j b, μ j = some b → j ≠ i := fun j b h z => by subst z; rw [hm] at h; cases h
  have t : Stp0 μ H (muSet μ i a) H := ⟨fun j b z => by rw [muSet_ne (ne j b z)]; exact z, fun _ _ z => z, fun _ _ _ z => z⟩
  refine ⟨⟨t0.toStp0.trans t, t0.dom, fun b xs z kk n => ?_⟩, t, ⟨fun j q h => ?_, fun j k b h1 h2 => ?_, fun p b h => ?_, ?_, rh.tab, fun j b h => ?_⟩⟩
  · obtain ⟨e, n'⟩ := t0.fr b xs z kk n
    refine ⟨e, fun j z' => ?_⟩
    unfold muSet at z'
    split at z'
    · cases z'; rw [h0] at z; cases z
    · exact n' j z'
  · unfold upd at h
    split at h
    · rename_i e; subst e; cases h
      exact ⟨a, muSet_same, hu t⟩
    · rename_i e
      obtain ⟨b, h1, r1⟩ := rh.obj j q h
      exact ⟨b, t.mu _ _ h1, r1.step0 t fun u z => z⟩
  · unfold muSet at h1 h2
    split at h1 <;> split at h2
    · rename_i e1 e2; exact e1.trans e2.symm
    · cases h1; exact absurd h2 (hf k)
    · cases h2; exact absurd h1 (hf j)
    · exact rh.inj j k b h1 h2
  · unfold upd
    split
    · exact ⟨_, rfl⟩
    · rename_i e
      rw [muSet_ne e] at h
      exact rh.nmd p b h
  · obtain ⟨B, hB⟩ := rh.bnd
    cases i with
    | nm p => exact ⟨B, fun n hn => by rw [muSet_ne (i := Oid.nm p) (j := Oid.tmp n) (by intro z; cases z)]; exact hB n hn⟩
    | tmp m => exact ⟨max B (m + 1), fun n hn => by
        rw [muSet_ne (fun z => by cases z; omega)]
        exact hB n (by omega)⟩
  · unfold muSet at h
    split at h
    · cases h; exact ha
    · exact rh.there j b h
/-- fewer are spoken of: tmp objects may be dropped -/
theorem RHp.sub {Hd' : DH} (rh : RHp P w G μ H Hd) (h1 : ∀ i o, Hd' i = some o → Hd i = some o) (h2 : ∀ p o, Hd (.nm p) = some o → Hd' (.nm p) = some o) : RHp P w G μ H Hd' :=
  ⟨fun i o h => rh.obj i o (h1 i o h), rh.inj, fun p a h => let ⟨o, e⟩ := rh.nmd p a h; ⟨o, h2 p o e⟩, rh.bnd, rh.tab, rh.there⟩
end
/-- a new object: by a name of ours, or by any other one -/
def newO (H : DH) (o : DO) (Q : Oid → DH → Prop) : Prop := (∃ p, H (.nm p) = none ∧ Q (.nm p) (upd H (.nm p) o)) ∨ (∀ n, H (.tmp n) = none → Q (.tmp n) (upd H (.tmp n) o))
theorem RHp.newO {P : Program} {w : World} {G : Cfg} {μ0 μ : Mu} {H0 H : Hp} {Hd : DH} {a : Addr} {o : DO} {Q : Oid → DH → Prop} (rh : RHp P w G μ H Hd) (t0 : Stp μ0 H0 μ H) (h0 : H0 a = none) (q : newO Hd o Q) (ha : H a ≠ none) (hf : ∀ j, μ j ≠ some a)
    (hu : ∀ i, ∀ t : Stp0 μ H (muSet μ i a) H, RO P w G (muSet μ i a) H a o) : ∃ i, Stp μ0 H0 (muSet μ i a) H ∧ Stp0 μ H (muSet μ i a) H ∧ RHp P w G (muSet μ i a) H (upd Hd i o) ∧ Q i (upd Hd i o) := by
  rcases q with ⟨p, h1, q⟩ | q
  · obtain ⟨t, t', r⟩ := rh.name t0 h0 (rh.new_mu (.nm p) h1 (.inl ⟨p, rfl⟩)) ha hf (hu _)
    exact ⟨_, t, t', r, q⟩
  · obtain ⟨B, hB⟩ := rh.bnd
    have hn : Hd (.tmp B) = none := by
      cases e : Hd (.tmp B) with
      | none => rfl
      | some o => obtain ⟨b, h1, _⟩ := rh.obj _ _ e; rw [hB B (Nat.le_refl _)] at h1; cases h1
    obtain ⟨t, t', r⟩ := rh.name t0 h0 (hB B (Nat.le_refl _)) ha hf (hu _)
    exact ⟨_, t, t', r, q B hn⟩
end DL

/-! DG: all, any of a generator expression over anything that is walked, whatever its element does (it may call, the tables may grow). -/
namespace DG
open PySem PySem.Spec
open PyProof.Rows L2
open GenW

/-- the generator's frame -/
abbrev genX (X : Cx) (s : Shared) (H : Hp) (cenv : Env) (fp : List Addr) (A' : Around) (pn : List (Addr × Obj)) : Cx :=
  { X with A := A', s_0 := s, H_0 := H, env := cenv, outer := X.stack, stack := cenv :: X.stack, ex := fp, fn := fun _ => false, calm := true, pn := pn, xe := fun _ _ => False }
abbrev genE (X : Cx) (scope : Scope) (C : Addr) (code : Value) : Env := genEnv scope (cloFrom X.env.cells scope.names []) C code builtinsNs X.env
/-- the same heap -/
theorem inv_same {X : Cx} {pins : List (Addr × Obj)} {σ : L2.St} {H : Hp} {s s' : Shared} (I : Inv X pins σ H s) (hh : s'.heap = s.heap) (ho : s'.os = s.os) (hb : AllBare s'.gens) : Inv X pins σ H s' := by
  obtain ⟨h', g', d', t', o'⟩ := s'
  have e1 : h' = s.heap := hh
  have e2 : o' = s.os := ho
  subst e1 e2
  exact I.step (g' := g') (d' := d') (t' := t') (ch := []) (fun _ z => nomatch z) (fun b o _ _ _ e _ => e) (fun b o _ _ _ e _ => ⟨o.slots, e⟩) (fun b o _ _ n => n) (fun b o _ e => ⟨o, e⟩) (fun _ _ e => e) (fun _ _ _ e => e)
    (fun b ps e => ⟨#[], by rw [e]; simp⟩) (fun m hm => hm) I.hok hb
/-- the heap grew -/
theorem inv_grown {X : Cx} {pins : List (Addr × Obj)} {σ : L2.St} {H : Hp} {s s' : Shared} (I : Inv X pins σ H s) (hh : ∀ b o, s.heap.get? b = some o → s'.heap.get? b = some o) (ho : s'.os = s.os) (hb : AllBare s'.gens) : Inv X pins σ H s' := by
  have J : Inv X pins σ H { s with heap := s'.heap } := I.kept (t' := s.toks) hh
  exact inv_same J rfl ho hb
/-- the generator's names -/
structure GenOk (X : Cx) (scope : Scope) (own : List (Str × Nat)) : Prop where
  blk : BlkOk X.N X.env.scope scope own
  co : scope.isCoroutine = false
  dot : scope.names.lookup (".0" : Str) = some NameKind.local
  nocell : ∀ y ∈ scope.names, y.2 ≠ .cell
def genC (N : List Str) (sc scope : Scope) (own : List (Str × Nat)) : Bool :=
  blkC N sc scope own && (!scope.isCoroutine && (decide (scope.names.lookup (".0" : Str) = some NameKind.local) && scope.names.all fun y => match y.2 with | .cell => false | _ => true))
theorem genOk_by {X : Cx} {scope : Scope} {own : List (Str × Nat)} (h : genC X.N X.env.scope scope own = true) : GenOk X scope own := by
  unfold genC at h
  simp only [Bool.and_eq_true, decide_eq_true_eq, List.all_eq_true, Bool.not_eq_true'] at h
  obtain ⟨h1, h2, h3, h4⟩ := h
  refine ⟨blkOk_by h1, h2, h3, fun y hy e => ?_⟩
  have q := h4 y hy
  rw [e] at q
  cases q

section
variable {X : Cx} {pins : List (Addr × Obj)} {σ : L2.St} {H : Hp} {s : Shared}
theorem gen_start {scope : Scope} {own : List (Str × Nat)} {fp : List Addr} {code : Value} {A' : Around} {a : Addr} {go : Obj} {h6 : Heap} {g6 : Array GenState} {t6 : Nat} {m0 : Str → Option Value}
    (I : Inv X pins σ H s) (ok : GenOk X scope own) (hN : X.N.Nodup) (hfp : ∀ b ∈ fp, FpOk X pins H b ∧ b < s.heap.objs.size) (hA : A'.handled = none) (hfr : A'.frames = some (genE X scope s.heap.objs.size code :: X.stack))
    (kp : ∀ b o, s.heap.get? b = some o → h6.get? b = some o) (hns : h6.Ns s.heap.objs.size m0) (ha : h6.get? a = some go) (hlt : s.heap.objs.size < a) (hgd : ∀ v, go.data ≠ .cell v) (hb : AllBare g6) :
    Inv (genX X s H (genE X scope s.heap.objs.size code) fp A' [(a, go)]) [] (wipe σ (own.map (·.2))) H { s with heap := h6, gens := g6, toks := t6 } := by
  obtain ⟨okb, _, _, noc⟩ := ok
  have hfree : ∀ y ∈ scope.names, y.2 = .free → ∃ c, X.env.cells.lookup y.1 = some c := fun y hy e => by
    rcases okb.free y hy e with k | k
    · exact I.ok.has _ (.inl k)
    · exact I.ok.has _ (.inr k)
  have cm : ∀ {y c}, (y, c) ∈ cloFrom X.env.cells scope.names [] → X.env.cells.lookup y = some c ∧ c < s.heap.objs.size := fun {y c} hm => by
    rcases cloFrom_mem hm with hm | ⟨h1, rfl⟩
    · cases hm
    · obtain ⟨c, hc⟩ := hfree _ h1 rfl
      rw [hc]
      obtain ⟨w, z⟩ := I.cell _ _ hc
      exact ⟨rfl, z.lt⟩
  have mem : ∀ {y c}, (genE X scope s.heap.objs.size code).cells.lookup y = some c → X.env.cells.lookup y = some c ∧ c < s.heap.objs.size := fun {y c} e => cm (PySem.mem_of_lookup e)
  have look : ∀ {y}, scope.names.lookup y = some .free → ∃ c, (genE X scope s.heap.objs.size code).cells.lookup y = some c ∧ X.env.cells.lookup y = some c := fun {y} hl => by
    have hy : (y, NameKind.free) ∈ scope.names := PySem.mem_of_lookup hl
    obtain ⟨c', e'⟩ := mem_lookup (cloFrom_has (cells := X.env.cells) (acc := []) hy)
    exact ⟨c', e', (cm (PySem.mem_of_lookup e')).1⟩
  have nocl : ∀ y, scope.names.lookup y ≠ some .cell := fun y e => noc _ (PySem.mem_of_lookup e) rfl
  have okG : (genX X s H (genE X scope s.heap.objs.size code) fp A' [(a, go)]).Ok := by
    refine ⟨I.ok.mod, okb.kind, I.ok.glob, rfl, Nat.le_refl _, fun y z c e1 e2 => ?_, fun y hy => ?_, fun y c z e => ?_, fun _ => hA, hfr, .inr ⟨rfl, rfl⟩, fun b hb => ⟨?_, fun y c e z => ?_⟩, I.bs, Nat.le_trans I.ok.bsz I.sz, fun b o e hb => ?_, fun b hb z => ?_, I.stack, I.stkFree⟩
    · exact I.ok.inj y z c (mem e1).1 (mem e2).1
    · rcases hy with hy | hy
      · exact absurd hy (nocl y)
      · obtain ⟨c, h1, _⟩ := look hy
        exact ⟨c, h1⟩
    · have z' : false = true := z
      cases z'
    · exact Nat.ne_of_lt (hfp b hb).2
    · exact (hfp b hb).1.2.2.2.2.1 y c (mem e).1 z
    · rcases (hfp b hb).1.2.2.2.1 with z | z
      · exact I.ok.noex b o e z
      · exact absurd (Nat.lt_of_lt_of_le (Heap.lt_size e) (Nat.le_trans I.ok.bsz z)) (Nat.lt_irrefl _)
    · rcases List.mem_cons.mp (I.stkSub b z) with z | z
      · exact (hfp b hb).1.2.1 z
      · exact (hfp b hb).1.2.2.1 z
  refine ⟨okG, rfl, hb, Un.kept kp, ⟨m0, hns, fun i y av e1 e2 e3 => ?_⟩, fun y c e => ?_, ?_, fun y c e => ?_, fun p hp => ?_, I.hok.kept kp, by rw [wipe_length]; exact I.len⟩
  · obtain ⟨e2, hne⟩ := wipe_some e2
    have e3 : Vis scope y := e3
    have noown : ¬ (scope.names.lookup y = some .local ∨ scope.names.lookup y = some .cell) := fun hh => by
      have q : y ∈ own.map (·.1) ∨ y ∉ X.N := by
        rcases hh with hh | hh
        · exact okb.own _ (PySem.mem_of_lookup hh) (.inl rfl)
        · exact okb.own _ (PySem.mem_of_lookup hh) (.inr rfl)
      rcases q with e' | e'
      · obtain ⟨p, hp, hpy⟩ := List.mem_map.mp e'
        have e4 := okb.ix p hp
        have : p.1 = y := hpy
        rw [this] at e4
        exact hne (List.mem_map.mpr ⟨p, hp, nodup_ix hN e4 e1⟩)
      · exact e' (List.mem_of_getElem? e1)
    have hfr2 : scope.names.lookup y = some .free := by
      rcases e3 with e3 | e3 | e3
      · exact absurd (.inl e3) noown
      · exact absurd (.inr e3) noown
      · exact e3
    obtain ⟨m, hn, hl⟩ := I.loc
    have hvis : Vis X.env.scope y := (okb.free _ (PySem.mem_of_lookup hfr2) rfl).elim (fun k => .inr (.inl k)) (fun k => .inr (.inr k))
    obtain ⟨w, r, q⟩ := hl i y av e1 e2 hvis
    refine ⟨w, r, .inr ⟨.inr hfr2, ?_⟩⟩
    obtain ⟨c, h1, h2⟩ := look hfr2
    rcases q with ⟨k, _⟩ | ⟨_, c', e', z⟩
    · have k : X.env.scope.names.lookup y = some .local := k
      rcases okb.free _ (PySem.mem_of_lookup hfr2) rfl with k' | k' <;> rw [show X.env.scope.names.lookup y = _ from k'] at k <;> cases k
    · rw [h2] at e'; cases e'
      exact ⟨c, h1, z.keeps kp⟩
  · obtain ⟨w, z⟩ := I.cell y c (mem e).1
    exact ⟨w, z.keeps kp⟩
  · exact I.hok.fresh (Nat.le_refl _)
  · exact I.freeC y c (mem e).1
  · have e : p = (a, go) := by simpa using hp
    subst e
    refine ⟨ha, I.hok.fresh (Nat.le_of_lt hlt), Nat.ne_of_gt hlt, fun hm => ?_, hgd⟩
    have hs := I.stkSub _ hm
    rcases List.mem_cons.mp hs with z | z
    · have h1 := I.lt
      have z' : a = X.env.locals := z
      rw [← z'] at h1
      exact absurd (Nat.lt_trans hlt h1) (Nat.lt_irrefl _)
    · exact I.nofs (Nat.le_of_lt hlt) z
end

/-- what follows a turn, at the heap -/
abbrev GW := Nat → Nat → Hp → Prop
/-- the end: all's or any's answer at the heap -/
def GFin (X' : Cx) (σ' : L2.St) (Q : Bool → Hp → Prop) (b : Bool) (s : Shared) : Prop := ∃ H', Inv X' [] σ' H' s ∧ Q b H'
def GRf (X' : Cx) (σ' : L2.St) (Qe : Hp → Prop) : Nat → Shared → Shared → Prop := fun _ _ s1 => ∃ H', Inv X' [] σ' H' s1 ∧ Qe H'
def GR' (X' : Cx) (σ' : L2.St) (Qe : Hp → Prop) : GenEnd := fun n s₀ r s1 => ((r = .ok (.ret .none) ∨ r = .ok .next) ∧ GRf X' σ' Qe n s₀ s1) ∨ ∃ e, r = .error e ∧ False
/-- handed out: a truth value; st: the one that stops -/
def GY' (X' : Cx) (σ' : L2.St) (st : Bool) (Qs : Hp → Prop) : Protocol := fun _ _ v s1 kap =>
  ∃ (b : Bool) (H' : Hp), v = .bool b ∧ Inv X' [] σ' H' s1 ∧ (b = st → Qs H') ∧ (b ≠ st → ∀ s', s'.heap = s1.heap → s'.os = s1.os → AllBare s'.gens → kap (.send .none) s')

section
variable {X : Cx} {σ : L2.St}
/-- one turn's reading, by the turn and the measure -/
def GTurn (J : It) (g : TG) (tt : TT) (te : TE) (vs : List Nat) (σ : L2.St) (st : Bool) (Qe Qs : Hp → Prop) (W : GW) : Prop := ∀ i m H, W i m H →
  (J.stop i H ∧ Qe H) ∨ (J.go i H ∧ ∃ Nx : Hp → Prop, (∀ H', Nx H' → ∃ m', m' < m ∧ W (i + 1) m' H') ∧ ∀ x H', J.yld i H x H' → g x (wipe σ vs) H' fun σ2 H2 => wipe σ2 vs = wipe σ vs ∧ tt σ2 H2 fun b H3 =>
    if b = true then te σ2 H3 fun y H4 => ∃ k, y = .bl k ∧ (k = st → Qs H4) ∧ (k ≠ st → Nx H4) else Nx H3)
theorem over_gen {B : Around} {elt tg iter : Expr} {ifs : List Expr} {scope : Scope} {pos : Pos} {it acc : Value} {cenv : Env} :
    B.over (.compLoop (.GeneratorExp elt [⟨tg, iter, ifs, 0⟩] scope pos) 0 it acc cenv) [] = B.deeper cenv := by
  first
    | rfl
    | (obtain ⟨hd, d, fr, gs, u⟩ := B; simp [Around.over, Around.deeper, marksOver, frameCount, unitsOf, envsOf, guardsOf, pushEnvs, pushGuards, Code.envs, Code.env?, Code.isFrame, Code.guards, Code.isGuard, Code.weight, Code.frames, Code.isCreation, Code.isCaller, Code.cUnits])
theorem over_gen0 {B : Around} {elt tg iter : Expr} {ifs : List Expr} {scope : Scope} {pos : Pos} {it acc : Value} {cenv : Env} :
    B.over (.compStart (.GeneratorExp elt [⟨tg, iter, ifs, 0⟩] scope pos) 0 it acc cenv) [] = B.deeper cenv := by
  first
    | rfl
    | (obtain ⟨hd, d, fr, gs, u⟩ := B; simp [Around.over, Around.deeper, marksOver, frameCount, unitsOf, envsOf, guardsOf, pushEnvs, pushGuards, Code.envs, Code.env?, Code.isFrame, Code.guards, Code.isGuard, Code.weight, Code.frames, Code.isCreation, Code.isCaller, Code.cUnits])

theorem seg_gloop {s0 : Shared} {H0 : Hp} {cenv : Env} {fp : List Addr} {B : Around} {pn : List (Addr × Obj)} {elt tg iter : Expr} {ifs : List Expr} {scope : Scope} {pos : Pos} {it : Addr} {tn : Nat → Heap → Prop} {J : It} {g : TG} {tt : TT} {te : TE}
    {vs : List Nat} {st : Bool} {Qe Qs : Hp → Prop} {W : GW} (hco : cenv.scope.isCoroutine = false) (T : Turn X.prog X.w X.K tg J fp it tn)
    (pg : PG (genX X s0 H0 cenv fp (B.deeper cenv) pn) tg g) (pt : PTs (genX X s0 H0 cenv fp (B.deeper cenv) pn) ifs tt) (pe : PE (genX X s0 H0 cenv fp (B.deeper cenv) pn) elt te)
    (turn : GTurn J g tt te vs σ st Qe Qs W) (hpn : ∀ b ∈ fp, ∀ p ∈ pn, p.1 ≠ b) :
    ∀ (m n i : Nat) (s₀ s : Shared) (H : Hp), m < n → Inv (genX X s0 H0 cenv fp (B.deeper cenv) pn) [] (wipe σ vs) H s → tn i s.heap → (∀ b ∈ fp, H b = none) → W i m H →
      Seg (model X.prog X.w) B (GR' (genX X s0 H0 cenv fp (B.deeper cenv) pn) (wipe σ vs) Qe) (GY' (genX X s0 H0 cenv fp (B.deeper cenv) pn) (wipe σ vs) st Qs) n s₀
        (.compLoop (.GeneratorExp elt [⟨tg, iter, ifs, 0⟩] scope pos) 0 (.ref it) .none cenv) ((model X.prog X.w).den (.compLoop (.GeneratorExp elt [⟨tg, iter, ifs, 0⟩] scope pos) 0 (.ref it) .none cenv)) [] s := by
  intro m
  induction m using Nat.strongRecOn with
  | ind m ih =>
    intro n i s₀ s H hmn I hst hfp w
    have stat : ∀ {σ' : L2.St} {H' : Hp} {s' : Shared}, Inv (genX X s0 H0 cenv fp (B.deeper cenv) pn) [] σ' H' s' → (∀ b ∈ fp, H' b = none) → ∀ b ∈ fp, FpOk (genX X s0 H0 cenv fp (B.deeper cenv) pn) [] H' b := fun {σ' H' s'} I' hn b hb =>
      ⟨hn b hb, (I'.ok.exf b hb).1, I'.ok.exfs b hb, .inl hb, fun x c e => (I'.ok.exf b hb).2 x c e, fun p hp => hpn b hb p (by simpa using hp)⟩
    show Seg _ B _ _ _ s₀ _ ((compTurn (.GeneratorExp elt [⟨tg, iter, ifs, 0⟩] scope pos) 0 (.ref it) .none cenv).onRaise (leaving cenv)) [] s
    rw [show compTurn (.GeneratorExp elt [⟨tg, iter, ifs, 0⟩] scope pos) 0 (.ref it) .none cenv = (do
      standAt iter.pos
      match ← pyNext (.ref it) with
      | none => pure (.done .next)
      | some v =>
        letOwnedTupleGo tg (.ref it) v
        assign tg cenv v
        let mut ok := true
        for c in ifs do
          if ok then ok ← isTrue c cenv (eval c cenv)
        if ok then
          (do let v ← eval elt cenv; standAt elt.pos; let _ ← yieldOut cenv v)
        again (.compLoop (.GeneratorExp elt [⟨tg, iter, ifs, 0⟩] scope pos) 0 (.ref it) .none cenv)) from rfl, Sem.onRaise_eq_wrap]
    refine PySem.seg_bind_wrap (wpAny_standAt ?_)
    rcases turn i m H w with ⟨stop, qe⟩ | ⟨go, Nx, hNx, step⟩
    · refine PySem.seg_bind_wrap ?_
      rw [over_gen]
      refine thnF (T.done (genX X s0 H0 cenv fp (B.deeper cenv) pn) rfl rfl rfl rfl i [] s _ H (fun _ _ => False) I (stat I hfp) hst stop) fun r s6 ⟨hr, I6⟩ => ?_
      subst hr
      exact seg_end (.ok .next) (.inl ⟨.inr rfl, H, I6, qe⟩)
    · refine PySem.seg_bind_wrap ?_
      rw [over_gen]
      refine thnF (T.item (genX X s0 H0 cenv fp (B.deeper cenv) pn) rfl rfl rfl rfl i [] s _ H (fun _ _ => False) I (stat I hfp) hst go) fun r s6 ⟨u, hr, h6⟩ => ?_
      subst hr
      refine PySem.seg_bind_wrap ?_
      rw [over_gen]
      refine thnF h6 fun _ s7 ⟨x, H7, I7, r7, y7, st7, n7⟩ => ?_
      have I7' := I7.pinned (stat I7 n7) (T.obj _ _ st7)
      refine PySem.seg_bind_wrap ?_
      rw [over_gen]
      refine thnF (pg.run _ s7 _ H7 x u _ I7' r7 (step x H7 y7)) fun _ s8 ⟨σ8, H8, I8, hw8, q8⟩ => ?_
      refine PySem.seg_bind_wrap ?_
      rw [over_gen]
      refine thnF (pt.run _ s8 σ8 H8 _ I8 q8) fun b s9 ⟨H9, I9, q9⟩ => ?_
      -- the turn's end
      have fin : ∀ {s' s'' : Shared} {H' : Hp}, Inv (genX X s0 H0 cenv fp (B.deeper cenv) pn) ([] ++ pinsAt fp s7.heap) σ8 H' s' → Inv (genX X s0 H0 cenv fp (B.deeper cenv) pn) [] (wipe σ vs) H' s' ∧ tn (i + 1) s'.heap ∧ ∀ b ∈ fp, H' b = none := fun {s' s'' H'} I' => by
        have pin' : ∀ b ∈ fp, ∀ o, s7.heap.get? b = some o → s'.heap.get? b = some o ∧ H' b = none := fun b hb o e =>
          let z := I'.pin (b, o) (List.mem_append_right _ (List.mem_append_right _ (mem_pinsAt hb e)))
          ⟨z.1, z.2.1⟩
        have hl : (wipe σ vs).length = σ8.length := by rw [← hw8, wipe_length]
        refine ⟨(I'.unpinned (pins := [])).weak hl (fun j v e => ?_), T.keep _ _ _ st7 fun b hb o e => (pin' b hb o e).1, fun b hb => ?_⟩
        · rw [← hw8] at e
          exact (wipe_some e).1
        · obtain ⟨o, e, _⟩ := T.obj _ _ st7 b hb
          exact (pin' b hb o e).2
      cases b with
      | false =>
        simp only [Bool.false_eq_true, if_false] at q9 ⊢
        obtain ⟨m', hm, w'⟩ := hNx _ q9
        obtain ⟨J1, J2, J3⟩ := fin (s'' := s9) I9
        exact seg_again rfl (ih m' hm n (i + 1) s₀ s9 H9 (Nat.lt_trans hm hmn) J1 J2 J3 w')
      | true =>
        simp only [if_true] at q9 ⊢
        have hy : ∀ v, yieldOut cenv v = yieldValue v := fun v => by simp only [yieldOut, hco, Bool.false_eq_true, if_false]
        simp only [hy]
        obtain ⟨n, rfl⟩ : ∃ n', n = n' + 1 := ⟨n - 1, by omega⟩
        rw [Sem.bind_eq_wrap', Sem.bind_eq_wrap', Sem.wrap_wrap, Sem.wrap_wrap]
        refine seg_wrap ?_
        rw [over_gen]
        refine thnF (pe.run _ s9 σ8 H9 _ I9 q9) fun z s10 ⟨yv, H10, I10, r10, k, ek, qs, qn⟩ => ?_
        subst ek
        cases r10
        obtain ⟨J1, J2, J3⟩ := fin (s'' := s10) I10
        refine seg_at (seg_yield rfl rfl rfl ⟨k, H10, rfl, J1, qs, fun hk s'' h1 h2 h3 => ?_⟩)
        obtain ⟨m', hm, w'⟩ := hNx _ (qn hk)
        exact seg_again rfl (ih m' hm n (i + 1) s'' s'' H10 (by omega) (inv_same J1 h1 h2 h3) (by rw [h1]; exact J2) J3 w')
theorem seg_gstart {s0 : Shared} {H0 : Hp} {cenv : Env} {fp : List Addr} {B : Around} {pn : List (Addr × Obj)} {elt tg iter : Expr} {ifs : List Expr} {scope : Scope} {pos : Pos} {it : Addr} {tn : Nat → Heap → Prop} {J : It} {g : TG} {tt : TT} {te : TE}
    {vs : List Nat} {st : Bool} {Qe Qs : Hp → Prop} {W : GW} (hco : cenv.scope.isCoroutine = false) (T : Turn X.prog X.w X.K tg J fp it tn)
    (pg : PG (genX X s0 H0 cenv fp (B.deeper cenv) pn) tg g) (pt : PTs (genX X s0 H0 cenv fp (B.deeper cenv) pn) ifs tt) (pe : PE (genX X s0 H0 cenv fp (B.deeper cenv) pn) elt te)
    (turn : GTurn J g tt te vs σ st Qe Qs W) (hpn : ∀ b ∈ fp, ∀ p ∈ pn, p.1 ≠ b) (m n : Nat) (s₀ s : Shared) (H : Hp) (hmn : m < n)
    (I : Inv (genX X s0 H0 cenv fp (B.deeper cenv) pn) [] (wipe σ vs) H s) (hst : tn 0 s.heap) (hfp : ∀ b ∈ fp, H b = none) (w : W 0 m H) :
    Seg (model X.prog X.w) B (GR' (genX X s0 H0 cenv fp (B.deeper cenv) pn) (wipe σ vs) Qe) (GY' (genX X s0 H0 cenv fp (B.deeper cenv) pn) (wipe σ vs) st Qs) n s₀
      (.compStart (.GeneratorExp elt [⟨tg, iter, ifs, 0⟩] scope pos) 0 (.ref it) .none cenv) ((model X.prog X.w).den (.compStart (.GeneratorExp elt [⟨tg, iter, ifs, 0⟩] scope pos) 0 (.ref it) .none cenv)) [] s := by
  have loop := seg_gloop (iter := iter) (scope := scope) (pos := pos) hco T pg pt pe turn hpn m n 0 s₀ s H hmn I hst hfp w
  show Seg _ B _ _ _ s₀ _ ((compStart (.GeneratorExp elt [⟨tg, iter, ifs, 0⟩] scope pos) 0 (.ref it) .none cenv).onRaise (leaving cenv)) [] s
  unfold compStart
  rw [Sem.onRaise_eq_wrap]
  show Seg _ B _ _ _ s₀ _ ((ask >>= _).wrap _ _ _ _) [] s
  refine PySem.seg_bind_wrap (wpAny_askSetting ?_)
  split
  · exact seg_again rfl loop
  · refine PySem.seg_bind_wrap (wpAny_rule ?_)
    show Seg _ B _ _ _ s₀ _ ((standAt iter.pos >>= _).wrap _ _ _ _) [] s
    exact PySem.seg_bind_wrap (wpAny_standAt (PySem.seg_bind_wrap (T.self _ 0 s _ _ hst (seg_again rfl loop))))
end

/-- truth values that stop: all by False, any by True -/
inductive Which where
  | all | any
def Which.st : Which → Bool
  | .all => false
  | .any => true
def Which.loop : Which → String
  | .all => "all.loop"
  | .any => "any.loop"
def Which.id : Which → String
  | .all => "all"
  | .any => "any"
section
variable {P : Program} {w : World} {A : Around} {X' : Cx} {σ' : L2.St} {Qe Qs : Hp → Prop}
theorem all_loop {wh : Which} {R : Result → Shared → Prop} {a : Addr} {g : Nat} (hh : A.handled = none) (hd : A.depth < recursionLimit) (hX : X'.prog = P) (hw : X'.w = w) (hg : ∀ H s, Inv X' [] σ' H s → s.heap.IsGen a g)
    (hend : ∀ s H, Inv X' [] σ' H s → Qe H → R (.ok (.ret (.bool (!wh.st)))) s) (hstop : ∀ s H, Inv X' [] σ' H s → Qs H → R (.ok (.ret (.bool wh.st))) s) :
    ∀ (n : Nat) (s : Shared), s.heap.IsGen a g → s.heap.NoLimit → (∃ gs, s.gens[g]? = some gs ∧ gs.Goes (model P w) A.in1.in1 (GR' X' σ' Qe) (GY' X' σ' wh.st Qs) n (.send .none) (s.setGen g .running)) →
      codeAny (model P w) A (.builtin wh.loop ⟨[.ref a], []⟩) R s := by
  intro n
  induction n with
  | zero =>
    intro s ha hl ⟨gs, hgs, hgo⟩
    have hgl : g < s.gens.size := (Array.getElem?_eq_some_iff.mp hgs).1
    have core : ∀ (k : Option Value → Sem PySem.Fin), (∀ s', R (.ok (.ret (.bool (!wh.st)))) s' → wpAny (model P w) A.in1 (k none) (fun fin s' => match fin with | .done f => R (.ok f) s' | .again c' => c'.quiet = true ∧ codeAny (model P w) A c' R s') (fun e s' => R (.error e) s') s') →
        (∀ b s', (b = wh.st → R (.ok (.ret (.bool wh.st))) s') → (b ≠ wh.st → False) → wpAny (model P w) A.in1 (k (some (.bool b))) (fun fin s' => match fin with | .done f => R (.ok f) s' | .again c' => c'.quiet = true ∧ codeAny (model P w) A c' R s') (fun e s' => R (.error e) s') s') →
        wpAny (model P w) A.in1 (pyNext (.ref a) >>= k) (fun fin s' => match fin with | .done f => R (.ok f) s' | .again c' => c'.quiet = true ∧ codeAny (model P w) A c' R s') (fun e s' => R (.error e) s') s := by
      intro k h1 h2
      refine wpAny_bind (next_genG (F := GRf X' σ' Qe) (Er := fun _ _ => False) (A := A.in1) hh hl hd ha hgs hgo (fun v s₁ gs' hb hv => ?_) (fun s₁ hp h' hk => ?_) fun e s₁ he => he.elim)
      · obtain ⟨b, H', rfl, J, qs, qn⟩ := hv
        refine h2 b _ (fun hb' => hstop _ H' (inv_same J rfl rfl (allBare_setGen J.bare hb)) (qs hb')) fun hb' => ?_
        exact qn hb' s₁ rfl rfl J.bare
      · obtain ⟨H', J, qe⟩ := hp
        exact h1 _ (hend _ H' (inv_grown J hk rfl (allBare_setGen J.bare rfl)) qe)
    cases wh with
    | all =>
      show codeAny (model P w) A (.builtin "all.loop" ⟨[.ref a], []⟩) R s
      refine codeAny_builtin F.entry_all_loop ?_
      rw [Around.under_plainId F.plain_all_loop _]
      refine core _ (fun s' h => ?_) fun b s' h1 h2 => ?_
      · exact wpAny_bind (wpAny_rule (wpAny_pure h))
      · refine wpAny_bind (wpAny_holding (wpAny_truthy_bool (wpAny_bind (wpAny_letGo ?_))))
        cases b with
        | false => exact wpAny_bind (wpAny_rule (wpAny_pure (h1 rfl)))
        | true => exact (h2 (by decide)).elim
    | any =>
      show codeAny (model P w) A (.builtin "any.loop" ⟨[.ref a], []⟩) R s
      refine codeAny_builtin F.entry_any_loop ?_
      rw [Around.under_plainId F.plain_any_loop _]
      refine core _ (fun s' h => ?_) fun b s' h1 h2 => ?_
      · exact wpAny_bind (wpAny_rule (wpAny_pure h))
      · refine wpAny_bind (wpAny_holding (wpAny_truthy_bool (wpAny_bind (wpAny_letGo ?_))))
        cases b with
        | true => exact wpAny_bind (wpAny_rule (wpAny_pure (h1 rfl)))
        | false => exact (h2 (by decide)).elim
  | succ n ih =>
    intro s ha hl ⟨gs, hgs, hgo⟩
    have hgl : g < s.gens.size := (Array.getElem?_eq_some_iff.mp hgs).1
    have core : ∀ (k : Option Value → Sem PySem.Fin), (∀ s', R (.ok (.ret (.bool (!wh.st)))) s' → wpAny (model P w) A.in1 (k none) (fun fin s' => match fin with | .done f => R (.ok f) s' | .again c' => c'.quiet = true ∧ codeAny (model P w) A c' R s') (fun e s' => R (.error e) s') s') →
        (∀ b s', (b = wh.st → R (.ok (.ret (.bool wh.st))) s') → (b ≠ wh.st → codeAny (model P w) A (.builtin wh.loop ⟨[.ref a], []⟩) R s') → wpAny (model P w) A.in1 (k (some (.bool b))) (fun fin s' => match fin with | .done f => R (.ok f) s' | .again c' => c'.quiet = true ∧ codeAny (model P w) A c' R s') (fun e s' => R (.error e) s') s') →
        wpAny (model P w) A.in1 (pyNext (.ref a) >>= k) (fun fin s' => match fin with | .done f => R (.ok f) s' | .again c' => c'.quiet = true ∧ codeAny (model P w) A c' R s') (fun e s' => R (.error e) s') s := by
      intro k h1 h2
      refine wpAny_bind (wpAny_gsz (n := g + 1) hgl (next_genG (F := GRf X' σ' Qe) (Er := fun _ _ => False) (A := A.in1) hh hl hd ha hgs hgo (fun v s₁ gs' hb hv => ?_) (fun s₁ hp h' hk => ?_) fun e s₁ he => he.elim))
      · intro hsz
        obtain ⟨b, H', rfl, J, qs, qn⟩ := hv
        refine h2 b _ (fun hb' => hstop _ H' (inv_same J rfl rfl (allBare_setGen J.bare hb)) (qs hb')) fun hb' => ?_
        have hsz1 : g < s₁.gens.size := by
          have q : (s₁.setGen g gs').gens.size = s₁.gens.size := setGen_size _ _ _
          have hsz' : g + 1 ≤ (s₁.setGen g gs').gens.size := hsz
          omega
        refine ih (s₁.setGen g gs') (hg H' s₁ J) J.nolimit ⟨gs', setGen_at hsz1, ?_⟩
        exact qn hb' _ rfl rfl (allBare_setGen (s := s₁.setGen g gs') (allBare_setGen J.bare hb) rfl)
      · intro hsz
        obtain ⟨H', J, qe⟩ := hp
        exact h1 _ (hend _ H' (inv_grown J hk rfl (allBare_setGen J.bare rfl)) qe)
    cases wh with
    | all =>
      show codeAny (model P w) A (.builtin "all.loop" ⟨[.ref a], []⟩) R s
      refine codeAny_builtin F.entry_all_loop ?_
      rw [Around.under_plainId F.plain_all_loop _]
      refine core _ (fun s' h => ?_) fun b s' h1 h2 => ?_
      · exact wpAny_bind (wpAny_rule (wpAny_pure h))
      · refine wpAny_bind (wpAny_holding (wpAny_truthy_bool (wpAny_bind (wpAny_letGo ?_))))
        cases b with
        | false => exact wpAny_bind (wpAny_rule (wpAny_pure (h1 rfl)))
        | true => exact wpAny_pure ⟨plainId_quiet F.plain_all_loop _, h2 (by decide)⟩
    | any =>
      show codeAny (model P w) A (.builtin "any.loop" ⟨[.ref a], []⟩) R s
      refine codeAny_builtin F.entry_any_loop ?_
      rw [Around.under_plainId F.plain_any_loop _]
      refine core _ (fun s' h => ?_) fun b s' h1 h2 => ?_
      · exact wpAny_bind (wpAny_rule (wpAny_pure h))
      · refine wpAny_bind (wpAny_holding (wpAny_truthy_bool (wpAny_bind (wpAny_letGo ?_))))
        cases b with
        | true => exact wpAny_bind (wpAny_rule (wpAny_pure (h1 rfl)))
        | false => exact wpAny_pure ⟨plainId_quiet F.plain_any_loop _, h2 (by decide)⟩
end
end DG

namespace DG
open PySem PySem.Spec
open PyProof.Rows L2
open GenW
/-- all(elt for tg in iter if ..), any(..); behind the walked thing's making the def's table may have grown -/
def tGen (wh : Which) (P : Addr) (wi : TI) (g : TG) (tt : TT) (te : TE) (vs : List Nat) : TE := fun σ H Q => wi σ H fun J H1 => GxR.TabG H1 P ∧ ∀ H2, GxR.Tabbed P H1 H2 → ∃ W : GW, (∃ m, W 0 m H2) ∧
  GTurn J g tt te vs σ wh.st (fun H => Q (.bl (!wh.st)) H) (fun H => Q (.bl wh.st) H) W
theorem room_gen {k : Nat} {A : Around} (hr : Room (k + 1) A) (cenv : Env) : Room k (A.in1.in1.deeper cenv) :=
  ⟨hr.hd, by have := hr.dp; show A.depth + 1 + 3 * k + 5 < _; omega, by have := hr.un; show A.units + 1 + 1 + 3 + 16 * k + 200 < _; omega⟩
section
variable {X : Cx}
theorem pe_gen {wh : Which} {c P : Addr} {elt tg iter : Expr} {ifs : List Expr} {p pos gpos : Pos} {scope : Scope} {own : List (Str × Nat)} {wi : TI} {g : TG} {tt : TT} {te : TE} {k : Nat} {x : Str}
    (hr : Room (k + 1) X.A) (hx : x = Str.ofString wh.id) (hg : Gl X x) (hm : X.mg x = none) (TB : GxR.TabB X.base X.mg c P) (hcode : X.env.code = .ref c) (S : GenOk X scope own) (hN : X.N.Nodup) (hi : PI X tg iter wi)
    (pg : ∀ (s : Shared) (H : Hp) (C : Addr) (code : Value) (fp : List Addr) (A' : Around) (pn : List (Addr × Obj)), Room k A' → PG (genX X s H (genE X scope C code) fp A' pn) tg g)
    (pt : ∀ (s : Shared) (H : Hp) (C : Addr) (code : Value) (fp : List Addr) (A' : Around) (pn : List (Addr × Obj)), Room k A' → PTs (genX X s H (genE X scope C code) fp A' pn) ifs tt)
    (pe : ∀ (s : Shared) (H : Hp) (C : Addr) (code : Value) (fp : List Addr) (A' : Around) (pn : List (Addr × Obj)), Room k A' → PE (genX X s H (genE X scope C code) fp A' pn) elt te)
    (hs : ∀ v, genFold iter X.env v = pure v)
    (he : starEach [.GeneratorExp elt [⟨tg, iter, ifs, 0⟩] scope gpos] X.env = (false, eval (.GeneratorExp elt [⟨tg, iter, ifs, 0⟩] scope gpos) X.env) :: starEach [] X.env := by rfl) :
    PE X (.Call (.Name x p) [.GeneratorExp elt [⟨tg, iter, ifs, 0⟩] scope gpos] [] pos) (tGen wh P wi g tt te (own.map (·.2))) := by
  refine ⟨fun pins s σ H Q I h => ?_⟩
  have hb : bootBuiltins x = some (.builtin wh.id) := by
    rw [hx]
    cases wh
    · exact PyProof.Rows.Boot.«all»
    · exact boot_any
  have hn : x ≠ "__name__" := by rw [hx]; cases wh <;> decide +kernel
  have hdb : (x == ("__debug__" : Str)) = false := by rw [hx]; cases wh <;> decide +kernel
  refine wpAny_Call_Name_kw (ld_blt I hg hm hb ?_ hn hdb)
  refine PyProof.Rows.callWith_builtin1 ?_ he (by rfl)
  rw [he]
  show wpAny _ _ (spliced ((false, eval (.GeneratorExp elt [⟨tg, iter, ifs, 0⟩] scope gpos) X.env) :: backTo pos (starEach [] X.env))) _ _ s
  refine Calls.spliced_cons ?_
  have hfree : ∀ y ∈ scope.names, y.2 = .free → ∃ c, X.env.cells.lookup y.1 = some c := fun y hy e => by
    rcases S.blk.free y hy e with k | k
    · exact I.ok.has _ (.inl k)
    · exact I.ok.has _ (.inr k)
  refine wpAny_GeneratorExp_make S.co (closure_ok hfree) S.nocell S.dot S.blk.kind hr.depth ?_ hs
  refine thn (hi.run pins s σ H _ I h) fun xv s1 h1 => thn h1 fun itv s2 h2 => ?_
  obtain ⟨it, fp, tn, J, H1, e, I2, T, st2, f2, ⟨ps, hP, ht⟩, q1⟩ := h2
  subst e
  refine ⟨I2.nolimit, ?_⟩
  have hPs : s2.heap.get? P = some { cls := .none, data := .fields ps } := I2.hok P _ hP
  have hPlt : P < s2.heap.objs.size := Heap.lt_size hPs
  have cd : PySem.W.CodeHd s2.heap c P := TB.code.keeps I2.bk
  have nfP : ∀ b ∈ fp, b ≠ P := fun b hb e => by
    have := (f2 b hb).1
    rw [e, hP] at this
    cases this
  have szf : ∀ b ∈ fp, b < s2.heap.objs.size := fun b hb => by
    obtain ⟨o, e, _⟩ := T.obj _ _ st2 b hb
    exact Heap.lt_size e
  have cont : ∀ (code : Value) (h3 : Heap) (tk : Nat) (ps' : Array Value), Heap.ExtBut P s2.heap h3 → s2.heap.objs.size ≤ h3.objs.size → h3.get? P = some { cls := .none, data := .fields ps' } → (∃ more, ps' = ps ++ more) → TriplesOk ps'.toList →
      wpAny (model X.prog X.w) X.A (builtinsFor X.env.globals X.env.builtins) (fun bi s₄ =>
        ∀ h', h'.Ns s₄.heap.objs.size (fun y => if y = ".0" then some (.ref it) else none) → Heap.SameBut s₄.heap.objs.size (s₄.heap.push { cls := .type "frame", data := .dict #[] }) h' →
          wpAny (model X.prog X.w) X.A (spliced (backTo pos (starEach [] X.env))) (fun us s' => wpAny (model X.prog X.w) X.A (call (.builtin wh.id) (Value.ref h'.objs.size :: us)) (EP X pins σ Q) X.xe s') X.xe
            { s₄ with
              gens := s₄.gens.push (.fresh (.compStart (.GeneratorExp elt [⟨tg, iter, ifs, 0⟩] scope gpos) 0 (.ref it) .none (genEnv scope (cloFrom X.env.cells scope.names []) s₄.heap.objs.size code bi X.env))),
              toks := s₄.toks + 1 + 1 + 1,
              heap := h'.push { cls := .type "generator", data := .fields #[.int s₄.gens.size 0, .str "<genexpr>" (s₄.toks + 1), .str (X.env.qual ++ "<genexpr>") (s₄.toks + 1 + 1)] } }) X.xe { s2 with heap := h3, toks := tk } := by
    intro code h3 tk ps' hx3 hsz hP3 hmore ht3
    obtain ⟨bm, ob, e1, e2, e3, e4, e5, e6, e7, e8⟩ := TB.bm
    have keep3 : ∀ b u, b ≠ P → s2.heap.get? b = some u → h3.get? b = some u := fun b u hb e => hx3 b u hb e
    refine wpAny_builtinsFor (m := X.mg) (by rw [I2.ok.glob]; exact (I2.mod.glob.keeps I2.bk).extBut hx3 TB.gP) e1 e2 (keep3 _ _ e4 (I2.bk _ _ e5)) e6 e7 e8 ?_
    obtain ⟨more, em⟩ := hmore
    have I3 : Inv X pins σ (L2.upd H1 P (.tbl (ps ++ more))) { s2 with heap := h3, gens := s2.gens, drawn := s2.drawn, toks := tk } :=
      GxR.inv_tab (h' := h3) (g' := s2.gens) (d' := s2.drawn) (t' := tk) I2 hP keep3 (by rw [← em]; exact hP3) I2.bare
    have f3 : ∀ b ∈ fp, FpOk X pins (L2.upd H1 P (.tbl (ps ++ more))) b ∧ b < h3.objs.size := fun b hb => by
      refine ⟨⟨?_, (f2 b hb).2⟩, Nat.lt_of_lt_of_le (szf b hb) hsz⟩
      rw [L2.upd_ne (nfP b hb)]
      exact (f2 b hb).1
    have st3 : tn 0 h3 := T.keep _ _ _ st2 fun b hb o e => keep3 b o (nfP b hb) e
    obtain ⟨W, ⟨m0, w0⟩, turn⟩ := q1 (L2.upd H1 P (.tbl (ps ++ more))) ⟨⟨ps ++ more, L2.upd_same, by rw [← em]; exact ht3⟩, fun b hb => L2.upd_ne hb⟩
    intro h' hns hsb
    have hns : h'.Ns h3.objs.size (fun y => if y = ".0" then some (.ref it) else none) := hns
    have hsb : Heap.SameBut h3.objs.size (h3.push { cls := .type "frame", data := .dict #[] }) h' := hsb
    have hszh : h'.objs.size = h3.objs.size + 1 := by rw [hsb.1, Heap.size_push]
    have keep' : ∀ b o, h3.get? b = some o → h'.get? b = some o := fun b o e => hsb.extBut b o (Nat.ne_of_lt (Heap.lt_size e)) (Heap.get?_push_of_some _ e)
    generalize hgo : ({ cls := .type "generator", data := .fields #[.int s2.gens.size 0, .str "<genexpr>" (tk + 1), .str (X.env.qual ++ "<genexpr>") (tk + 1 + 1)] } : Obj) = go
    have hgd : go.data = .fields #[.int s2.gens.size 0, .str "<genexpr>" (tk + 1), .str (X.env.qual ++ "<genexpr>") (tk + 1 + 1)] := by rw [← hgo]
    have hga : (h'.push go).get? h'.objs.size = some go := Heap.get?_push_size _ (by rw [← hgo]; rfl)
    have isg : ∀ h : Heap, h.get? h'.objs.size = some go → h.IsGen h'.objs.size s2.gens.size := fun h e => ⟨go, _, _, e, by rw [← hgo], hgd, by rw [← hgo]⟩
    show wpAny (model X.prog X.w) X.A (spliced (backTo pos (starEach [] X.env))) _ X.xe { s2 with heap := h'.push go, toks := tk + 1 + 1 + 1, gens := s2.gens.push (.fresh (.compStart (.GeneratorExp elt [⟨tg, iter, ifs, 0⟩] scope gpos) 0 (.ref it) .none (genE X scope h3.objs.size code))) }
    have keep6 : ∀ b o, h3.get? b = some o → (h'.push go).get? b = some o := fun b o e => Heap.get?_push_of_some _ (keep' b o e)
    have I6 := gen_start (code := code) (A' := X.A.in1.in1.deeper (genE X scope h3.objs.size code)) (a := h'.objs.size) (go := go) (h6 := h'.push go) (t6 := tk + 1 + 1 + 1)
      (g6 := s2.gens.push (.fresh (.compStart (.GeneratorExp elt [⟨tg, iter, ifs, 0⟩] scope gpos) 0 (.ref it) .none (genE X scope h3.objs.size code)))) I3 S hN f3 hr.hd (Around.frames_deeper (A := X.A.in1.in1) I3.ok.frames) keep6 (hns.push _) hga (by show h3.objs.size < h'.objs.size; omega)
      (fun v z => by rw [hgd] at z; cases z) (AllBare.push I3.bare rfl)
    have rg := room_gen hr (genE X scope h3.objs.size code)
    refine Calls.spliced_nil ?_
    refine call_function_tree (b := match wh with | .all => Builtin.«all» | .any => Builtin.«any») (by cases wh <;> first | exact F.kind_all | exact F.kind_any) (by cases wh <;> first | exact F.plain_all | exact F.plain_any) (by cases wh <;> first | exact F.entry_all | exact F.entry_any)
      (by cases wh <;> first | exact F.args_all1 _ | exact F.args_any1 _) ?_
    have go_on : ∀ (s7 : Shared), s7 = { s2 with heap := h'.push go, toks := tk + 1 + 1 + 1, gens := s2.gens.push (.fresh (.compStart (.GeneratorExp elt [⟨tg, iter, ifs, 0⟩] scope gpos) 0 (.ref it) .none (genE X scope h3.objs.size code))) } →
        codeAny (model X.prog X.w) X.A (.builtin wh.loop ⟨[.ref h'.objs.size], []⟩) (fun r s' => match r with | .ok (.ret v) => EP X pins σ Q v s' | .ok _ => False | .error e => X.xe e s') s7 := by
      rintro s7 rfl
      refine all_loop (X' := genX X { s2 with heap := h3, toks := tk } (L2.upd H1 P (.tbl (ps ++ more))) (genE X scope h3.objs.size code) fp (X.A.in1.in1.deeper (genE X scope h3.objs.size code)) [(h'.objs.size, go)]) (σ' := wipe σ (own.map (·.2)))
        (Qe := fun H => Q (.bl (!wh.st)) H) (Qs := fun H => Q (.bl wh.st) H) (g := s2.gens.size) hr.hd hr.depth rfl rfl (fun H' s' J' => isg _ (J'.pin (h'.objs.size, go) (by simp)).1) (fun s' H' J' qe => ?_) (fun s' H' J' qs => ?_) (m0 + 1) _ (isg _ hga) I6.nolimit ⟨_, Array.getElem?_push_size .., rfl, ?_⟩
      · exact ⟨.bl (!wh.st), H', I3.call' (ch := fp) J'.os J'.base J'.hok J'.bare fun b hb => ⟨(f3 b hb).1.2.2.2.1, (f3 b hb).1.2.1, (f3 b hb).1.2.2.2.2.1, (f3 b hb).1.2.2.2.2.2⟩, rfl, qe⟩
      · exact ⟨.bl wh.st, H', I3.call' (ch := fp) J'.os J'.base J'.hok J'.bare fun b hb => ⟨(f3 b hb).1.2.2.2.1, (f3 b hb).1.2.1, (f3 b hb).1.2.2.2.2.1, (f3 b hb).1.2.2.2.2.2⟩, rfl, qs⟩
      · refine seg_gstart (X := X) (σ := σ) (W := W) S.co T (pg _ _ _ _ _ _ _ rg) (pt _ _ _ _ _ _ _ rg) (pe _ _ _ _ _ _ _ rg) turn (fun b hb p hp => ?_) m0 (m0 + 1) _ _ _ (Nat.lt_succ_self _) (inv_same I6 rfl rfl (allBare_setGen I6.bare rfl)) ?_ (fun b hb => (f3 b hb).1.1) w0
        · have e : p = (h'.objs.size, go) := by simpa using hp
          subst e
          exact Nat.ne_of_gt (Nat.lt_of_lt_of_le (f3 b hb).2 (by omega))
        · exact T.keep _ _ _ st3 fun b _ o e => keep6 b o e
    cases wh with
    | all =>
      show wpAny _ _ (do again (.builtin "all.loop" ⟨[← pyIter (← oneArg "all" ⟨[.ref h'.objs.size], []⟩)], []⟩)) _ _ _
      refine wpAny_bind (m := oneArg "all" _) (wpAny_pure ?_)
      refine wpAny_bind (wpAny_pyIter_gen (isg _ hga) ?_)
      exact wpAny_pure ⟨plainId_quiet F.plain_all_loop _, go_on _ rfl⟩
    | any =>
      show wpAny _ _ (do again (.builtin "any.loop" ⟨[← pyIter (← oneArg "any" ⟨[.ref h'.objs.size], []⟩)], []⟩)) _ _ _
      refine wpAny_bind (m := oneArg "any" _) (wpAny_pure ?_)
      refine wpAny_bind (wpAny_pyIter_gen (isg _ hga) ?_)
      exact wpAny_pure ⟨plainId_quiet F.plain_any_loop _, go_on _ rfl⟩
  cases hf : codeAmong gpos ps.toList with
  | none =>
    refine wpAny_genexprCodeX hcode (cd.code hPs ht) (cd.tab hPs) hf fun c' h' tk hx hge hlt hco' _ htab' _ => ?_
    obtain ⟨o1, vs, f1, tf, fl, tg', inF, tx, tt', op, _, _, _, _, _, _, _, _, _, htr, _⟩ := hco'
    exact cont _ h' tk _ hx (Nat.le_trans hge (Nat.le_of_lt hlt)) htab'.2 ⟨_, rfl⟩ htr
  | some cv =>
    refine wpAny_genexprCode_hit hcode (cd.code hPs ht) hf ?_
    exact cont cv s2.heap s2.toks ps (Heap.ExtBut.refl _ _) (Nat.le_refl _) hPs ⟨#[], by simp⟩ ht
end
end DG

/-! DL2: names, constants, operators, comparisons, tests, argument lists, displays, fresh lists, built-in functions, isinstance, subscripts. -/
namespace DL
open PySem PySem.Spec
open PyProof.Rows L2

section
variable {Y : Dx} {pins : List (Addr × Obj)} {σv : L2.St} {H H1 : Hp} {μ μ1 : Mu} {σ : DSt} {Hd : DH} {s : Shared}
theorem EPd.back {Q : DVK} {u : Value} {s' : Shared} (t : Stp μ H μ1 H1) (h : EPd Y pins σv μ1 H1 σ Q u s') : EPd Y pins σv μ H σ Q u s' :=
  let ⟨d, v, H', μ', Hd', J, t', r, rd, q⟩ := h
  ⟨d, v, H', μ', Hd', J, t.trans t', r, rd, q⟩
theorem TPd.back {Q : Bool → DH → Prop} {b : Bool} {s' : Shared} (t : Stp μ H μ1 H1) (h : TPd Y pins σv μ1 H1 σ Q b s') : TPd Y pins σv μ H σ Q b s' :=
  let ⟨H', μ', Hd', J, t', q⟩ := h
  ⟨H', μ', Hd', J, t.trans t', q⟩
theorem SPd.back {D : DEnds} {f : Flow} {s' : Shared} (t : Stp μ H μ1 H1) (h : SPd Y pins μ1 H1 D f s') : SPd Y pins μ H D f s' := by
  cases f with
  | next => obtain ⟨σv', H', μ', σ', Hd', J, t', q⟩ := h; exact ⟨σv', H', μ', σ', Hd', J, t.trans t', q⟩
  | brk => obtain ⟨σv', H', μ', σ', Hd', J, t', q⟩ := h; exact ⟨σv', H', μ', σ', Hd', J, t.trans t', q⟩
  | cont => obtain ⟨σv', H', μ', σ', Hd', J, t', q⟩ := h; exact ⟨σv', H', μ', σ', Hd', J, t.trans t', q⟩
  | ret u => obtain ⟨d, v, σv', H', μ', σ', Hd', J, t', r, rd, q⟩ := h; exact ⟨d, v, σv', H', μ', σ', Hd', J, t.trans t', r, rd, q⟩
theorem DI.tok (I : DI Y pins σv H μ σ Hd s) (t : Nat) : DI Y pins σv H μ σ Hd { s with toks := t } := ⟨I.inv.tok t, I.st, I.rs, I.rh⟩
/-- a value, the heap as it is -/
theorem DI.end_ (I : DI Y pins σv H μ σ Hd s) {Q : DVK} {d : D} {v : V} {u : Value} (r : RelV v u) (rd : RD Y.G μ H d v) (q : Q d Hd) : EPd Y pins σv μ H σ Q u s :=
  ⟨d, v, H, μ, Hd, I, Stp.refl _ _, r, rd, q⟩
theorem EPd.of_ep {Q : DVK} {u : Value} {s' : Shared} {Q' : VK} (I : DI Y pins σv H μ σ Hd s) (h : EP Y.X pins σv Q' u s')
    (z : ∀ v H', Q' v H' → ∃ d μ' Hd', Stp μ H μ' H' ∧ RHp Y.X.prog Y.X.w Y.G μ' H' Hd' ∧ RD Y.G μ' H' d v ∧ Q d Hd') : EPd Y pins σv μ H σ Q u s' := by
  obtain ⟨v, H', J, r, q⟩ := h
  obtain ⟨d, μ', Hd', t, rh, rd, q⟩ := z v H' q
  exact ⟨d, v, H', μ', Hd', I.to J t rh, t, r, rd, q⟩
end

/-! ### names, constants -/
def dVar (i : Nat) : DTE := fun σ H Q => match σ[i]? with | some (some d) => Q d H | _ => False
def dC (d : D) : DTE := fun _ H Q => Q d H
section
variable {Y : Dx} {pos : Pos}
theorem de_var (i : Nat) {x : Str} (hN : Y.X.N[i]? = some x := by rfl) (hv : Vis Y.X.env.scope x := by first | exact Or.inl rfl | exact Or.inr (Or.inl rfl) | exact Or.inr (Or.inr rfl)) (hd : (x == ("__debug__" : Str)) = false := by decide)
    (hcd : (x == ("__classdict__" : Str)) = false := by decide) : DE Y (.Name x pos) (dVar i) :=
  .of (pe_var hN hv hd hcd) fun pins s σv H μ σ Hd Q I q => by
    unfold dVar at q
    split at q
    · rename_i d e
      obtain ⟨v, h1, h2⟩ := I.rs.at_ i d e
      exact ⟨v, h1, d, μ, Hd, Stp.refl _ _, I.rh, h2, q⟩
    · exact q.elim
theorem de_const {e : Expr} {v : V} {d : D} (h : PE Y.X e (tC v)) (r : ∀ μ H, RD Y.G μ H d v) : DE Y e (dC d) :=
  .of h fun pins s σv H μ σ Hd Q I q => ⟨d, μ, Hd, Stp.refl _ _, I.rh, r _ _, q⟩
theorem de_int {i : Int} {j} : DE Y (.Constant (.int i) j pos) (dC (.int i)) := de_const pe_int fun _ _ => .int i
theorem de_bl {b : Bool} {j} : DE Y (.Constant (.bool b) j pos) (dC (.bl b)) := de_const pe_bl fun _ _ => .bl b
theorem de_non {j} : DE Y (.Constant .none j pos) (dC .non) := de_const pe_non fun _ _ => .non
theorem de_str {x : Str} {j} : DE Y (.Constant (.str x) j pos) (dC (.str x)) := de_const pe_str fun _ _ => .str x
end

/-! ### operators -/
abbrev DR2 := D → D → DH → DVK → Prop
abbrev DR1 := D → DH → DVK → Prop
def DOpR (Y : Dx) (f : Value → Value → Sem Value) (r : DR2) : Prop :=
  ∀ (pins : List (Addr × Obj)) (s : Shared) (σv : L2.St) (H : Hp) (μ : Mu) (σ : DSt) (Hd : DH) (x y : D) (vx vy : V) (u1 u2 : Value) (Q : DVK), DI Y pins σv H μ σ Hd s → RelV vx u1 → RelV vy u2 → RD Y.G μ H x vx → RD Y.G μ H y vy → r x y Hd Q →
    wpAny (model Y.X.prog Y.X.w) Y.X.A (f u1 u2) (EPd Y pins σv μ H σ Q) Y.X.xe s
def DUnR (Y : Dx) (f : Value → Sem Value) (r : DR1) : Prop :=
  ∀ (pins : List (Addr × Obj)) (s : Shared) (σv : L2.St) (H : Hp) (μ : Mu) (σ : DSt) (Hd : DH) (x : D) (vx : V) (u1 : Value) (Q : DVK), DI Y pins σv H μ σ Hd s → RelV vx u1 → RD Y.G μ H x vx → r x Hd Q →
    wpAny (model Y.X.prog Y.X.w) Y.X.A (f u1) (EPd Y pins σv μ H σ Q) Y.X.xe s
/-- from HandS's rule, the heap as it is -/
theorem DOpR.pure {Y : Dx} {f : Value → Value → Sem Value} {r : R2} {r' : DR2} (h : OpR Y.X f r)
    (g : ∀ {μ H Hd x y vx vy Q}, RHp Y.X.prog Y.X.w Y.G μ H Hd → RD Y.G μ H x vx → RD Y.G μ H y vy → r' x y Hd Q → ∃ d v, RD Y.G μ H d v ∧ Q d Hd ∧ ∀ Q' : VK, Q' v H → r vx vy H Q') : DOpR Y f r' := by
  intro pins s σv H μ σ Hd x y vx vy u1 u2 Q I r1 r2 d1 d2 q
  obtain ⟨d, v, rd, q, z⟩ := g I.rh d1 d2 q
  exact thn (h pins s σv H vx vy u1 u2 (fun v' H' => v' = v ∧ H' = H) I.inv r1 r2 (z _ ⟨rfl, rfl⟩)) fun u s' e => EPd.of_ep I e fun v' H' ⟨e1, e2⟩ => by
    subst e1; subst e2; exact ⟨d, μ, Hd, Stp.refl _ _, I.rh, rd, q⟩
theorem DUnR.pure {Y : Dx} {f : Value → Sem Value} {r : V → Hp → VK → Prop} {r' : DR1} (h : UnR Y.X f r)
    (g : ∀ {μ H Hd x vx Q}, RHp Y.X.prog Y.X.w Y.G μ H Hd → RD Y.G μ H x vx → r' x Hd Q → ∃ d v, RD Y.G μ H d v ∧ Q d Hd ∧ ∀ Q' : VK, Q' v H → r vx H Q') : DUnR Y f r' := by
  intro pins s σv H μ σ Hd x vx u1 Q I r1 d1 q
  obtain ⟨d, v, rd, q, z⟩ := g I.rh d1 q
  exact thn (h pins s σv H vx u1 (fun v' H' => v' = v ∧ H' = H) I.inv r1 (z _ ⟨rfl, rfl⟩)) fun u s' e => EPd.of_ep I e fun v' H' ⟨e1, e2⟩ => by
    subst e1; subst e2; exact ⟨d, μ, Hd, Stp.refl _ _, I.rh, rd, q⟩
theorem DOpR.or {Y : Dx} {f : Value → Value → Sem Value} {r r' : DR2} (h : DOpR Y f r) (h' : DOpR Y f r') : DOpR Y f (fun x y H Q => r x y H Q ∨ r' x y H Q) := by
  intro pins s σv H μ σ Hd x y vx vy u1 u2 Q I r1 r2 d1 d2 q
  rcases q with q | q
  · exact h pins s σv H μ σ Hd x y vx vy u1 u2 Q I r1 r2 d1 d2 q
  · exact h' pins s σv H μ σ Hd x y vx vy u1 u2 Q I r1 r2 d1 d2 q
def dOp (r : DR2) (Ta Tb : DTE) : DTE := fun σ H Q => Ta σ H fun x H1 => Tb σ H1 fun y H2 => r x y H2 Q
def dUn (r : DR1) (Ta : DTE) : DTE := fun σ H Q => Ta σ H fun x H1 => r x H1 Q
section
variable {Y : Dx} {a b c : Expr} {Ta Tb Tc : DTE} {pos : Pos}
/-- two expressions in a row -/
theorem dbin (ha : DE Y a Ta) (hb : DE Y b Tb) {pins : List (Addr × Obj)} {s : Shared} {σv : L2.St} {H : Hp} {μ : Mu} {σ : DSt} {Hd : DH} {R : D → D → DH → Prop} (I : DI Y pins σv H μ σ Hd s) (h : Ta σ Hd fun x H1 => Tb σ H1 fun y H2 => R x y H2)
    {α : Type} {Q : α → Shared → Prop} {f : Value → Value → Sem α}
    (hf : ∀ u1 u2 s2 x y vx vy H2 μ2 Hd2, DI Y pins σv H2 μ2 σ Hd2 s2 → Stp μ H μ2 H2 → RelV vx u1 → RelV vy u2 → RD Y.G μ2 H2 x vx → RD Y.G μ2 H2 y vy → R x y Hd2 → wpAny (model Y.X.prog Y.X.w) Y.X.A (f u1 u2) Q Y.X.xe s2) :
    wpAny (model Y.X.prog Y.X.w) Y.X.A (eval a Y.X.env) (fun v s₁ => wpAny (model Y.X.prog Y.X.w) Y.X.A (eval b Y.X.env) (fun u s₂ => wpAny (model Y.X.prog Y.X.w) Y.X.A (f v u) Q Y.X.xe s₂) Y.X.xe s₁) Y.X.xe s := by
  refine thn (ha.run pins s σv H μ σ Hd _ I h) fun v1 s1 ⟨x, vx, H1, μ1, Hd1, I1, t1, rx, dx, q1⟩ => ?_
  refine thn (hb.run pins s1 σv H1 μ1 σ Hd1 _ I1 q1) fun v2 s2 ⟨y, vy, H2, μ2, Hd2, I2, t2, ry, dy, q2⟩ => ?_
  exact hf v1 v2 s2 x y vx vy H2 μ2 Hd2 I2 (t1.trans t2) rx ry (dx.step t2) dy q2
theorem de_op {op : Operator} {r : DR2} (ho : DOpR Y (binaryOp op) r) (ha : DE Y a Ta) (hb : DE Y b Tb) : DE Y (.BinOp a op b pos) (dOp r Ta Tb) := by
  refine ⟨fun pins s σv H μ σ Hd Q I q => ?_⟩
  exact wpAny_BinOp (dbin ha hb I q fun u1 u2 s2 x y vx vy H2 μ2 Hd2 I2 t rx ry dx dy q2 => thn (ho pins s2 σv H2 μ2 σ Hd2 x y vx vy u1 u2 Q I2 rx ry dx dy q2) fun _ _ z => z.back t)
theorem de_un {op : UnaryOp} {r : DR1} (ho : DUnR Y (unaryOp op) r) (ha : DE Y a Ta) : DE Y (.UnaryOp op a pos) (dUn r Ta) := by
  refine ⟨fun pins s σv H μ σ Hd Q I q => ?_⟩
  refine UnaryOp_ (thn (ha.run pins s σv H μ σ Hd _ I q) fun v1 s1 ⟨x, vx, H1, μ1, Hd1, I1, t1, rx, dx, q1⟩ => ?_)
  exact thn (ho pins s1 σv H1 μ1 σ Hd1 x vx v1 Q I1 rx dx q1) fun _ _ z => z.back t1
theorem de_cmp {op : CmpOp} {r : DR2} (ho : DOpR Y (compareOp op) r) (ha : DE Y a Ta) (hb : DE Y b Tb) (hm : behindInMarks op b = false) : DE Y (.Compare a [op] [b] pos) (dOp r Ta Tb) := by
  refine ⟨fun pins s σv H μ σ Hd Q I q => ?_⟩
  exact wpAny_Compare1 (dbin ha hb I q fun u1 u2 s2 x y vx vy H2 μ2 Hd2 I2 t rx ry dx dy q2 => thn (ho pins s2 σv H2 μ2 σ Hd2 x y vx vy u1 u2 Q I2 rx ry dx dy q2) fun _ _ z => z.back t) hm
/-- a value as a test -/
def tru : D → DH → Option Bool
  | .bl b, _ => some b
  | .non, _ => some false
  | .int i, _ => some (i != 0)
  | .str x, _ => if x.length ≤ sizeLine then some ((x.length : Int) != 0) else none
  | .tup xs, _ => some (!xs.isEmpty)
  | .rol xs, _ => some (!xs.isEmpty)
  | .ref i, H => match H i with | some (.lst xs) => some (!xs.isEmpty) | some (.dK kvs) => some (!kvs.isEmpty) | _ => none
  | _, _ => none
def dTest (T : DTE) : DTT := fun σ H Q => T σ H fun x H1 => match tru x H1 with | some b => Q b H1 | none => False
def dBl (T : DTE) : DTT := fun σ H Q => T σ H fun x H1 => match x with | .bl b => Q b H1 | _ => False
theorem dt_cmp {op : CmpOp} {r : DR2} (ho : DOpR Y (compareOp op) r) (ha : DE Y a Ta) (hb : DE Y b Tb) (hm : behindInMarks op b = false) : DT Y (.Compare a [op] [b] pos) (dBl (dOp r Ta Tb)) := by
  refine ⟨fun pins s σv H μ σ Hd Q I q => ?_⟩
  refine wpAny_isTrue_Compare1 (dbin ha hb I q fun u1 u2 s2 x y vx vy H2 μ2 Hd2 I2 t rx ry dx dy q2 => thn (ho pins s2 σv H2 μ2 σ Hd2 x y vx vy u1 u2 _ I2 rx ry dx dy q2) fun cv s3 ⟨d, v, H3, μ3, Hd3, I3, t3, r3, d3, q3⟩ => ?_) hm
  try dsimp only at q3
  split at q3
  · cases d3
    cases r3
    exact wpAny_truthy_bool ⟨H3, μ3, Hd3, I3, t.trans t3, q3⟩
  · exact q3.elim
theorem tru_V {K : PySem.W.Frag} {P : Program} {w : World} {G : Cfg} {μ : Mu} {H : Hp} {Hd : DH} {x : D} {v : V} {b : Bool} (hK : G.K = K) (rh : RHp P w G μ H Hd) (rd : RD G μ H x v) (e : tru x Hd = some b) : TruV K v H b := by
  subst hK
  cases rd with
  | non => exact (Option.some.inj e).symm
  | bl k => exact (Option.some.inj e).symm
  | int i => exact (Option.some.inj e).symm
  | str y =>
    have e : (if y.length ≤ sizeLine then some ((y.length : Int) != 0) else none) = some b := e
    split at e
    · rename_i h; exact ⟨h, (Option.some.inj e).symm⟩
    · cases e
  | @tup ds vs a h r =>
    refine .inr (.inl ⟨vs, h, ?_⟩)
    rw [← Option.some.inj e]
    cases r <;> rfl
  | @rol ds vs a h r =>
    refine .inl ⟨vs, h.sq, ?_⟩
    rw [← Option.some.inj e]
    cases r <;> rfl
  | @ref i a h =>
    have e : (match Hd i with | some (.lst xs) => some (!xs.isEmpty) | some (.dK kvs) => some (!kvs.isEmpty) | _ => none) = some b := e
    split at e
    · rename_i xs h1
      obtain ⟨a', h2, vs, h3, h4⟩ := rh.obj _ _ h1
      rw [h] at h2; cases h2
      refine .inl ⟨vs, .of h3, ?_⟩
      rw [← Option.some.inj e]
      cases h4 <;> rfl
    · rename_i kvs h1
      obtain ⟨a', h2, vs, h3, h4⟩ := rh.obj _ _ h1
      rw [h] at h2; cases h2
      refine .inr (.inr ⟨vs, h3, ?_⟩)
      rw [← Option.some.inj e]
      cases h4 <;> rfl
    · cases e
  | glo n => cases e
theorem dt_val (ha : DE Y a Ta) (he : ∀ whole, isTrue a Y.X.env whole = (do let v ← whole; standAt a.pos; holding [v] (truthy v)) := by intro _; rfl) : DT Y a (dTest Ta) := by
  refine ⟨fun pins s σv H μ σ Hd Q I q => ?_⟩
  refine isTrue_plain (thn (ha.run pins s σv H μ σ Hd _ I q) fun v s1 ⟨x, vx, H1, μ1, Hd1, I1, t1, r1, d1, q1⟩ => ?_) (he _)
  try dsimp only at q1
  split at q1
  · rename_i b e
    exact thn (tru_ok pins s1 σv H1 vx v (fun k H' => k = b ∧ H' = H1) I1.inv r1 ⟨b, tru_V Y.hK I1.rh d1 e, rfl, rfl⟩) fun k s2 ⟨H2, J, e1, e2⟩ => by
      subst e1; subst e2; exact ⟨_, μ1, Hd1, I1.to J (Stp.refl _ _) I1.rh, t1, q1⟩
  · exact q1.elim
/-- a op1 b op2 c -/
def dChain (r r' : DR2) (Ta Tb Tc : DTE) : DTE := fun σ H Q => Ta σ H fun x H1 => Tb σ H1 fun y H2 => r x y H2 fun z H3 => match z with
  | .bl k => if k = true then Tc σ H3 fun c H4 => r' y c H4 Q else Q (.bl false) H3
  | _ => False
theorem de_chain {op op' : CmpOp} {r r' : DR2} (ho : DOpR Y (compareOp op) r) (ho' : DOpR Y (compareOp op') r') (ha : DE Y a Ta) (hb : DE Y b Tb) (hc : DE Y c Tc)
    (hm : lastMarks [op, op'] [b, c] = false := by with_unfolding_all rfl) : DE Y (.Compare a [op, op'] [b, c] pos) (dChain r r' Ta Tb Tc) := by
  refine ⟨fun pins s σv H μ σ Hd Q I q => ?_⟩
  refine Compare_chain (thn (ha.run pins s σv H μ σ Hd _ I q) fun u1 s1 ⟨x, vx, H1, μ1, Hd1, I1, t1, rx, dx, q1⟩ => chain_link (thn (hb.run pins s1 σv H1 μ1 σ Hd1 _ I1 q1) fun u2 s2 ⟨y, vy, H2, μ2, Hd2, I2, t2, ry, dy, q2⟩ =>
    thn (ho pins s2 σv H2 μ2 σ Hd2 x y vx vy u1 u2 _ I2 rx ry (dx.step t2) dy q2) fun d s3 ⟨z, vz, H3, μ3, Hd3, I3, t3, r3, d3, q3⟩ => ?_)) hm
  try dsimp only at q3
  split at q3
  · rename_i k
    cases d3
    cases r3
    refine wpAny_truthy_bool ?_
    cases k with
    | false => exact ite_ff ⟨.bl false, .bl false, H3, μ3, Hd3, I3, (t1.trans t2).trans t3, rfl, .bl false, q3⟩
    | true => exact ite_tt (chain_last (thn (hc.run pins s3 σv H3 μ3 σ Hd3 _ I3 q3) fun w' s4 ⟨z', vz', H4, μ4, Hd4, I4, t4, r4, d4, q4⟩ =>
        thn (ho' pins s4 σv H4 μ4 σ Hd4 y z' vy vz' u2 w' Q I4 ry r4 ((dy.step t3).step t4) d4 q4) fun _ _ z => z.back (((t1.trans t2).trans t3).trans t4)))
  · exact q3.elim
theorem dt_chain {op op' : CmpOp} {r r' : DR2} (ho : DOpR Y (compareOp op) r) (ho' : DOpR Y (compareOp op') r') (ha : DE Y a Ta) (hb : DE Y b Tb) (hc : DE Y c Tc)
    (hm : lastMarks [op, op'] [b, c] = false := by with_unfolding_all rfl) : DT Y (.Compare a [op, op'] [b, c] pos) (dBl (dChain r r' Ta Tb Tc)) := by
  refine ⟨fun pins s σv H μ σ Hd Q I q => ?_⟩
  refine isTrue_chain (thn (ha.run pins s σv H μ σ Hd _ I q) fun u1 s1 ⟨x, vx, H1, μ1, Hd1, I1, t1, rx, dx, q1⟩ => test_link (thn (hb.run pins s1 σv H1 μ1 σ Hd1 _ I1 q1) fun u2 s2 ⟨y, vy, H2, μ2, Hd2, I2, t2, ry, dy, q2⟩ =>
    thn (ho pins s2 σv H2 μ2 σ Hd2 x y vx vy u1 u2 _ I2 rx ry (dx.step t2) dy q2) fun d s3 ⟨z, vz, H3, μ3, Hd3, I3, t3, r3, d3, q3⟩ => ?_)) hm
  try dsimp only at q3
  split at q3
  · rename_i k
    cases d3
    cases r3
    refine wpAny_truthy_bool ?_
    cases k with
    | false => exact ite_ff ⟨H3, μ3, Hd3, I3, (t1.trans t2).trans t3, q3⟩
    | true =>
      refine ite_tt (test_last (thn (hc.run pins s3 σv H3 μ3 σ Hd3 _ I3 q3) fun w' s4 ⟨z', vz', H4, μ4, Hd4, I4, t4, r4, d4, q4⟩ =>
        thn (ho' pins s4 σv H4 μ4 σ Hd4 y z' vy vz' u2 w' _ I4 ry r4 ((dy.step t3).step t4) d4 q4) fun cv s5 ⟨z2, v2, H5, μ5, Hd5, I5, t5, r5, d5, q5⟩ => ?_))
      try dsimp only at q5
      split at q5
      · cases d5
        cases r5
        exact wpAny_truthy_bool ⟨H5, μ5, Hd5, I5, (((t1.trans t2).trans t3).trans t4).trans t5, q5⟩
      · exact q5.elim
  · exact q3.elim

/-! ### and, or, not -/
variable {A B : DTT} {rest : List Expr}
def dAnd (t u : DTT) : DTT := fun σ H Q => t σ H fun c H1 => if c = true then u σ H1 Q else Q false H1
def dOr (t u : DTT) : DTT := fun σ H Q => t σ H fun c H1 => if c = true then Q true H1 else u σ H1 Q
def dNot (t : DTT) : DTT := fun σ H Q => t σ H fun c H1 => Q (!c) H1
theorem dw_and1 (ha : DT Y a A) : DW Y (.BoolOp .And [a] pos) A := by
  refine ⟨fun wh pins s σv H μ σ Hd Q I h => ?_⟩
  refine isTrue_and (thn (ha.run pins s σv H μ σ Hd Q I h) fun c s1 e => ?_)
  cases c with
  | true => exact isTrue_and_nil e
  | false => exact e
theorem dw_or1 (ha : DT Y a A) : DW Y (.BoolOp .Or [a] pos) A := by
  refine ⟨fun wh pins s σv H μ σ Hd Q I h => ?_⟩
  refine isTrue_or (thn (ha.run pins s σv H μ σ Hd Q I h) fun c s1 e => ?_)
  cases c with
  | false => exact isTrue_or_nil e
  | true => exact e
theorem dw_and (ha : DT Y a A) (hb : DW Y (.BoolOp .And (b :: rest) pos) B) : DW Y (.BoolOp .And (a :: b :: rest) pos) (dAnd A B) := by
  refine ⟨fun wh pins s σv H μ σ Hd Q I h => ?_⟩
  refine isTrue_and (thn (ha.run pins s σv H μ σ Hd _ I h) fun c s1 ⟨H1, μ1, Hd1, I1, t1, q1⟩ => ?_)
  cases c with
  | true => exact thn (hb.run wh pins s1 σv H1 μ1 σ Hd1 Q I1 q1) fun _ _ z => z.back t1
  | false => exact ⟨H1, μ1, Hd1, I1, t1, q1⟩
theorem dw_or (ha : DT Y a A) (hb : DW Y (.BoolOp .Or (b :: rest) pos) B) : DW Y (.BoolOp .Or (a :: b :: rest) pos) (dOr A B) := by
  refine ⟨fun wh pins s σv H μ σ Hd Q I h => ?_⟩
  refine isTrue_or (thn (ha.run pins s σv H μ σ Hd _ I h) fun c s1 ⟨H1, μ1, Hd1, I1, t1, q1⟩ => ?_)
  cases c with
  | true => exact ⟨H1, μ1, Hd1, I1, t1, q1⟩
  | false => exact thn (hb.run wh pins s1 σv H1 μ1 σ Hd1 Q I1 q1) fun _ _ z => z.back t1
theorem dt_not (ha : DT Y a A) : DT Y (.UnaryOp .Not a pos) (dNot A) := by
  refine ⟨fun pins s σv H μ σ Hd Q I h => ?_⟩
  exact isTrue_not (ha.run pins s σv H μ σ Hd (fun c H1 => Q (!c) H1) I h)
/-- .. as values (bools) -/
def dAndV (Ta Tb : DTE) : DTE := fun σ H Q => Ta σ H fun x H1 => match x with | .bl c => if c = true then Tb σ H1 Q else Q (.bl false) H1 | _ => False
def dOrV (Ta Tb : DTE) : DTE := fun σ H Q => Ta σ H fun x H1 => match x with | .bl c => if c = true then Q (.bl true) H1 else Tb σ H1 Q | _ => False
def dNotV (Ta : DTE) : DTE := fun σ H Q => Ta σ H fun x H1 => match x with | .bl c => Q (.bl (!c)) H1 | _ => False
theorem de_one {op} {t : DTE} (h : DE Y a t) : DE Y (.BoolOp op [a] pos) t := ⟨fun pins s σv H μ σ Hd Q I hw => BoolOp_one (h.run pins s σv H μ σ Hd Q I hw)⟩
theorem de_and (ha : DE Y a Ta) (hb : DE Y (.BoolOp .And (b :: rest) pos) Tb) : DE Y (.BoolOp .And (a :: b :: rest) pos) (dAndV Ta Tb) := by
  refine ⟨fun pins s σv H μ σ Hd Q I h => ?_⟩
  refine BoolOp_and (thn (ha.run pins s σv H μ σ Hd _ I h) fun v s1 ⟨x, vx, H1, μ1, Hd1, I1, t1, r1, d1, q1⟩ => ?_)
  try dsimp only at q1
  split at q1
  · rename_i c
    cases d1
    cases r1
    refine wpAny_truthy_bool ?_
    cases c with
    | true => exact thn (hb.run pins s1 σv H1 μ1 σ Hd1 Q I1 q1) fun _ _ z => z.back t1
    | false => exact ⟨.bl false, .bl false, H1, μ1, Hd1, I1, t1, rfl, .bl false, q1⟩
  · exact q1.elim
theorem de_or (ha : DE Y a Ta) (hb : DE Y (.BoolOp .Or (b :: rest) pos) Tb) : DE Y (.BoolOp .Or (a :: b :: rest) pos) (dOrV Ta Tb) := by
  refine ⟨fun pins s σv H μ σ Hd Q I h => ?_⟩
  refine BoolOp_or (thn (ha.run pins s σv H μ σ Hd _ I h) fun v s1 ⟨x, vx, H1, μ1, Hd1, I1, t1, r1, d1, q1⟩ => ?_)
  try dsimp only at q1
  split at q1
  · rename_i c
    cases d1
    cases r1
    refine wpAny_truthy_bool ?_
    cases c with
    | false => exact thn (hb.run pins s1 σv H1 μ1 σ Hd1 Q I1 q1) fun _ _ z => z.back t1
    | true => exact ⟨.bl true, .bl true, H1, μ1, Hd1, I1, t1, rfl, .bl true, q1⟩
  · exact q1.elim
theorem de_not (ha : DE Y a Ta) : DE Y (.UnaryOp .Not a pos) (dNotV Ta) := by
  refine ⟨fun pins s σv H μ σ Hd Q I h => ?_⟩
  refine UnaryOp_ (thn (ha.run pins s σv H μ σ Hd _ I h) fun v s1 ⟨x, vx, H1, μ1, Hd1, I1, t1, r1, d1, q1⟩ => ?_)
  try dsimp only at q1
  split at q1
  · rename_i c
    cases d1
    cases r1
    exact not_of (wpAny_truthy_bool ⟨.bl (!c), .bl (!c), H1, μ1, Hd1, I1, t1, rfl, .bl _, q1⟩)
  · exact q1.elim
/-- a if t else b -/
def dIf (t : DTT) (Ta Tb : DTE) : DTE := fun σ H Q => t σ H fun c H1 => if c = true then Ta σ H1 Q else Tb σ H1 Q
theorem de_ifExp (hc : DT Y c A) (ha : DE Y a Ta) (hb : DE Y b Tb) : DE Y (.IfExp c a b pos) (dIf A Ta Tb) := by
  refine ⟨fun pins s σv H μ σ Hd Q I h => ?_⟩
  refine wpAny_IfExp (thn (hc.run pins s σv H μ σ Hd _ I h) fun d s1 ⟨H1, μ1, Hd1, I1, t1, q1⟩ => ?_)
  cases d with
  | true => exact thn (ha.run pins s1 σv H1 μ1 σ Hd1 Q I1 q1) fun _ _ z => z.back t1
  | false => exact thn (hb.run pins s1 σv H1 μ1 σ Hd1 Q I1 q1) fun _ _ z => z.back t1
end

/-! ### ints -/
def dAdd : DR2 := fun x y H Q => match x, y with
  | .int i, .int j => Q (.int (i + j)) H
  | .str a, .str b => a.length + b.length ≤ sizeLine ∧ Q (.str (a ++ b)) H
  | _, _ => False
def dI2 (f : Int → Int → D) : DR2 := fun x y H Q => match x, y with | .int i, .int j => Q (f i j) H | _, _ => False
def dI2C (C : Int → Int → Prop) (f : Int → Int → D) : DR2 := fun x y H Q => match x, y with | .int i, .int j => C i j ∧ Q (f i j) H | _, _ => False
abbrev dSub : DR2 := dI2 fun i j => .int (i - j)
abbrev dMul : DR2 := dI2C CMul fun i j => .int (i * j)
abbrev dFdiv : DR2 := dI2C CDiv fun i j => .int (i / j)
abbrev dMod : DR2 := dI2C (fun _ j => 0 < j) fun i j => .int (i % j)
abbrev dPow : DR2 := dI2C CPow fun i j => .int (i ^ j.toNat)
abbrev dLt : DR2 := dI2 fun i j => .bl (decide (i < j))
abbrev dLe : DR2 := dI2 fun i j => .bl (decide (i ≤ j))
abbrev dGt : DR2 := dI2 fun i j => .bl (decide (j < i))
abbrev dGe : DR2 := dI2 fun i j => .bl (decide (j ≤ i))
section
variable {Y : Dx}
theorem dop_i {f : Value → Value → Sem Value} {g : Int → Int → Int} (h : OpR Y.X f (rI0 fun i j => .int (g i j))) : DOpR Y f (dI2 fun i j => .int (g i j)) :=
  .pure h fun {μ H Hd x y vx vy Q} rh d1 d2 q => by
    unfold dI2 at q
    split at q
    · cases d1; cases d2
      exact ⟨_, _, .int _, q, fun Q' z => ⟨_, _, rfl, rfl, z⟩⟩
    · exact q.elim
theorem dop_ic {f : Value → Value → Sem Value} {C : Int → Int → Prop} {g : Int → Int → Int} (h : OpR Y.X f (rI C fun i j => .int (g i j))) : DOpR Y f (dI2C C fun i j => .int (g i j)) :=
  .pure h fun {μ H Hd x y vx vy Q} rh d1 d2 q => by
    unfold dI2C at q
    split at q
    · cases d1; cases d2
      exact ⟨_, _, .int _, q.2, fun Q' z => ⟨_, _, rfl, rfl, q.1, z⟩⟩
    · exact q.elim
theorem dop_b {f : Value → Value → Sem Value} {g : Int → Int → Bool} (h : OpR Y.X f (rI0 fun i j => .bl (g i j))) : DOpR Y f (dI2 fun i j => .bl (g i j)) :=
  .pure h fun {μ H Hd x y vx vy Q} rh d1 d2 q => by
    unfold dI2 at q
    split at q
    · cases d1; cases d2
      exact ⟨_, _, .bl _, q, fun Q' z => ⟨_, _, rfl, rfl, z⟩⟩
    · exact q.elim
theorem dop_add : DOpR Y (binaryOp .Add) dAdd := by
  have h := DOpR.or (dop_i (Y := Y) (op_add (X := Y.X))) (DOpR.pure (Y := Y) (r' := fun x y H Q => match x, y with | .str a, .str b => a.length + b.length ≤ sizeLine ∧ Q (.str (a ++ b)) H | _, _ => False) op_add_str fun {μ H Hd x y vx vy Q} rh d1 d2 q => by
    split at q
    · cases d1; cases d2
      exact ⟨_, _, .str _, q.2, fun Q' z => ⟨_, _, rfl, rfl, q.1, z⟩⟩
    · exact q.elim)
  intro pins s σv H μ σ Hd x y vx vy u1 u2 Q I r1 r2 d1 d2 q
  refine h pins s σv H μ σ Hd x y vx vy u1 u2 Q I r1 r2 d1 d2 ?_
  unfold dAdd at q
  split at q
  · exact .inl q
  · exact .inr q
  · exact q.elim
theorem dop_sub : DOpR Y (binaryOp .Sub) dSub := dop_i op_sub
theorem dop_mul : DOpR Y (binaryOp .Mult) dMul := dop_ic op_mul
theorem dop_fdiv : DOpR Y (binaryOp .FloorDiv) dFdiv := dop_ic op_fdiv
theorem dop_mod : DOpR Y (binaryOp .Mod) dMod := dop_ic op_mod
theorem dop_pow : DOpR Y (binaryOp .Pow) dPow := dop_ic op_pow
theorem dop_lt : DOpR Y (compareOp .Lt) dLt := dop_b op_lt
theorem dop_le : DOpR Y (compareOp .LtE) dLe := dop_b op_le
theorem dop_gt : DOpR Y (compareOp .Gt) dGt := dop_b op_gt
theorem dop_ge : DOpR Y (compareOp .GtE) dGe := dop_b op_ge
theorem diop_add : DOpR Y (inplaceOp .Add) (dI2 fun i j => .int (i + j)) := dop_i iop_add
theorem diop_sub : DOpR Y (inplaceOp .Sub) (dI2 fun i j => .int (i - j)) := dop_i iop_sub
def dNeg : DR1 := fun x H Q => match x with | .int i => Q (.int (-i)) H | _ => False
theorem dun_neg : DUnR Y (unaryOp .USub) dNeg := .pure un_neg fun {μ H Hd x vx Q} rh d1 q => by
  unfold dNeg at q
  split at q
  · cases d1; exact ⟨_, _, .int _, q, fun Q' z => ⟨_, rfl, z⟩⟩
  · exact q.elim

/-! ### == -/
/-- a value as plain data -/
inductive PD (H : DH) : D → PyData → Prop where
  | non : PD H .non .none
  | bl (b : Bool) : PD H (.bl b) (.bool b)
  | int (i : Int) : PD H (.int i) (.int i)
  | str (x : Str) : PD H (.str x) (.str x)
  | tup {xs : List D} {ps : List PyData} (h : P2 (PD H) xs ps) : PD H (.tup xs) (.tuple ps)
  | rol {xs : List D} {ps : List PyData} (h : P2 (PD H) xs ps) : PD H (.rol xs) (.list ps)
  | lst {i : Oid} {xs : List D} {ps : List PyData} (e : H i = some (.lst xs)) (h : P2 (PD H) xs ps) : PD H (.ref i) (.list ps)
theorem PD.dp {P : Program} {w : World} {G : Cfg} {μ : Mu} {H : Hp} {Hd : DH} (rh : RHp P w G μ H Hd) {x : D} {p : PyData} (h : PD Hd x p) : ∀ {v : V}, RD G μ H x v → Dp G.K H v p := by
  have all : ∀ {xs : List D} {ps : List PyData} {vs : List V}, P2 (fun x p => ∀ {v : V}, RD G μ H x v → Dp G.K H v p) xs ps → RDs G μ H xs vs → DpAll G.K H vs ps := by
    intro xs ps vs h
    induction h generalizing vs with
    | nil => intro r; cases r; exact .nil
    | cons a b ih => intro r; cases r with | cons r rs => exact .cons (a r) (ih rs)
  induction h using PD.rec (motive_2 := fun xs ps _ => P2 (fun x p => ∀ {v : V}, RD G μ H x v → Dp G.K H v p) xs ps) with
  | non => intro v r; cases r; exact .non
  | bl b => intro v r; cases r; exact .bl b
  | int i => intro v r; cases r; exact .int i
  | str y => intro v r; cases r; exact .str y
  | tup h ih => intro v r; cases r with | tup h1 h2 => exact .tup h1 (all ih h2)
  | rol h ih => intro v r; cases r with | rol h1 h2 => exact .lst h1.sq (all ih h2)
  | lst e h ih =>
    intro v r
    cases r with
    | ref h1 =>
      obtain ⟨a', h2, vs, h3, h4⟩ := rh.obj _ _ e
      rw [h1] at h2; cases h2
      exact .lst (.of h3) (all ih h4)
  | nil => exact .nil
  | cons _ _ i1 i2 => exact .cons i1 i2
def dEqN (neg : Bool) : DR2 := fun x y H Q => match x, y with
  | .int i, .int j => Q (.bl (neg ^^ decide (i = j))) H
  | .str i, .str j => Q (.bl (neg ^^ decide (i = j))) H
  | .bl i, .bl j => Q (.bl (neg ^^ decide (i = j))) H
  | x, y => ∃ p q, PD H x p ∧ PD H y q ∧ SeqAt.shaped p = true ∧ SeqAt.shaped q = true ∧ Q (.bl (neg ^^ PyData.eqv p q)) H
abbrev dEq : DR2 := dEqN false
abbrev dNe : DR2 := dEqN true
theorem dop_eq (hu : Y.X.A.units + 64 < cLine) : DOpR Y (compareOp .Eq) dEq := by
  have h := DOpR.or (DOpR.pure (Y := Y) (r' := fun x y H Q => match x, y with
      | .int i, .int j => Q (.bl (decide (i = j))) H
      | .str i, .str j => Q (.bl (decide (i = j))) H
      | .bl i, .bl j => Q (.bl (decide (i = j))) H
      | _, _ => False) (op_eq (X := Y.X)) fun {μ H Hd x y vx vy Q} rh d1 d2 q => by
        split at q <;> first | exact q.elim | (cases d1; cases d2; exact ⟨_, _, .bl _, q, fun Q' z => ⟨rfl, by simpa using z⟩⟩))
    (DOpR.pure (Y := Y) (r' := fun x y H Q => ∃ p q, PD H x p ∧ PD H y q ∧ SeqAt.shaped p = true ∧ SeqAt.shaped q = true ∧ Q (.bl (PyData.eqv p q)) H) (op_eqD (X := Y.X) hu) fun {μ H Hd x y vx vy Q} rh d1 d2 q => by
      obtain ⟨p, p', h1, h2, h3, h4, q⟩ := q
      exact ⟨_, _, .bl _, q, fun Q' z => ⟨p, p', Y.hK ▸ h1.dp rh d1, Y.hK ▸ h2.dp rh d2, h3, h4, z⟩⟩)
  intro pins s σv H μ σ Hd x y vx vy u1 u2 Q I r1 r2 d1 d2 q
  refine h pins s σv H μ σ Hd x y vx vy u1 u2 Q I r1 r2 d1 d2 ?_
  unfold dEq dEqN at q
  split at q
  · exact .inl (by simpa using q)
  · exact .inl (by simpa using q)
  · exact .inl (by simpa using q)
  · exact .inr (by simpa using q)
theorem dop_ne (hu : Y.X.A.units + 64 < cLine) : DOpR Y (compareOp .NotEq) dNe := by
  have h := DOpR.or (DOpR.pure (Y := Y) (r' := fun x y H Q => match x, y with
      | .int i, .int j => Q (.bl (!decide (i = j))) H
      | .str i, .str j => Q (.bl (!decide (i = j))) H
      | .bl i, .bl j => Q (.bl (!decide (i = j))) H
      | _, _ => False) (op_ne (X := Y.X)) fun {μ H Hd x y vx vy Q} rh d1 d2 q => by
        split at q <;> first | exact q.elim | (cases d1; cases d2; exact ⟨_, _, .bl _, q, fun Q' z => ⟨rfl, by simpa using z⟩⟩))
    (DOpR.pure (Y := Y) (r' := fun x y H Q => ∃ p q, PD H x p ∧ PD H y q ∧ SeqAt.shaped p = true ∧ SeqAt.shaped q = true ∧ Q (.bl (!PyData.eqv p q)) H) (op_neD (X := Y.X) hu) fun {μ H Hd x y vx vy Q} rh d1 d2 q => by
      obtain ⟨p, p', h1, h2, h3, h4, q⟩ := q
      exact ⟨_, _, .bl _, q, fun Q' z => ⟨p, p', Y.hK ▸ h1.dp rh d1, Y.hK ▸ h2.dp rh d2, h3, h4, z⟩⟩)
  intro pins s σv H μ σ Hd x y vx vy u1 u2 Q I r1 r2 d1 d2 q
  refine h pins s σv H μ σ Hd x y vx vy u1 u2 Q I r1 r2 d1 d2 ?_
  unfold dNe dEqN at q
  split at q
  · exact .inl (by simpa using q)
  · exact .inl (by simpa using q)
  · exact .inl (by simpa using q)
  · exact .inr (by simpa using q)
/-- is None -/
def dIsN (neg : Bool) : DR2 := fun x y H Q => match y with
  | .non => (match x with | .non => Q (.bl (!neg)) H | _ => Q (.bl neg) H)
  | _ => False
theorem RD.non_iff {G : Cfg} {μ : Mu} {H : Hp} {x : D} {v : V} (r : RD G μ H x v) : (x = .non ∧ v = .non) ∨ (x ≠ .non ∧ v ≠ .non) := by
  cases r with
  | non => exact .inl ⟨rfl, rfl⟩
  | _ => exact .inr ⟨fun z => (by cases z), fun z => (by cases z)⟩
theorem dop_is : DOpR Y (compareOp .Is) (dIsN false) := .pure op_isN fun {μ H Hd x y vx vy Q} rh d1 d2 q => by
  unfold dIsN at q
  split at q
  · cases d2
    rcases d1.non_iff with ⟨e1, e2⟩ | ⟨e1, e2⟩
    · subst e1; subst e2
      exact ⟨_, _, .bl true, q, fun Q' z => ⟨rfl, z⟩⟩
    · refine ⟨_, _, .bl false, ?_, fun Q' z => ⟨rfl, by simpa [e2] using z⟩⟩
      split at q
      · exact absurd rfl e1
      · exact q
  · exact q.elim
theorem dop_isnot : DOpR Y (compareOp .IsNot) (dIsN true) := .pure op_notN fun {μ H Hd x y vx vy Q} rh d1 d2 q => by
  unfold dIsN at q
  split at q
  · cases d2
    rcases d1.non_iff with ⟨e1, e2⟩ | ⟨e1, e2⟩
    · subst e1; subst e2
      exact ⟨_, _, .bl false, q, fun Q' z => ⟨rfl, z⟩⟩
    · refine ⟨_, _, .bl true, ?_, fun Q' z => ⟨rfl, by simpa [e2] using z⟩⟩
      split at q
      · exact absurd rfl e1
      · exact q
  · exact q.elim
end
end DL

/-! DL3: argument lists, displays, fresh lists, subscripts, built-in functions, isinstance. -/
namespace DL
open PySem PySem.Spec
open PyProof.Rows L2

section
variable (P : Program) (w : World) (G : Cfg) (μ0 : Mu) (H0 : Hp)
def liftA (T : DTA) : TA := fun σv H Q => ∃ μ σ Hd Qd, Stp μ0 H0 μ H ∧ RSt G μ H σ σv ∧ RHp P w G μ H Hd ∧ T σ Hd Qd ∧
  ∀ ds Hd' vs H' μ', Qd ds Hd' → Stp μ H μ' H' → RHp P w G μ' H' Hd' → RDs G μ' H' ds vs → Q vs H'
/-- a fresh list -/
def liftF (T : DTA) : TE := fun σv H Q => ∃ μ σ Hd Qd, Stp μ0 H0 μ H ∧ RSt G μ H σ σv ∧ RHp P w G μ H Hd ∧ T σ Hd Qd ∧
  ∀ ds Hd' a vs H' μ', Qd ds Hd' → Stp μ H μ' H' → RHp P w G μ' H' Hd' → RDs G μ' H' ds vs → H' a = some (.lst vs) → H a = none ∧ (∀ j, μ' j ≠ some a) → Q (.ref a) H'
end
abbrev Dx.lA (Y : Dx) (T : DTA) : TA := liftA Y.X.prog Y.X.w Y.G Y.μ0 Y.H0 T
abbrev Dx.lF (Y : Dx) (T : DTA) : TE := liftF Y.X.prog Y.X.w Y.G Y.μ0 Y.H0 T
/-- an expression whose value is a new list that nobody else knows -/
def FPd (Y : Dx) (pins : List (Addr × Obj)) (σv : L2.St) (μ : Mu) (H : Hp) (σ : DSt) (Q : List D → DH → Prop) (u : Value) (s' : Shared) : Prop :=
  ∃ ds vs a H' μ' Hd', DI Y pins σv H' μ' σ Hd' s' ∧ Stp μ H μ' H' ∧ u = .ref a ∧ H' a = some (.lst vs) ∧ (H a = none ∧ ∀ j, μ' j ≠ some a) ∧ RDs Y.G μ' H' ds vs ∧ Q ds Hd'
structure DF (Y : Dx) (e : Expr) (T : DTA) : Prop where
  run : ∀ pins s σv H μ σ Hd Q, DI Y pins σv H μ σ Hd s → T σ Hd Q → wpAny (model Y.X.prog Y.X.w) Y.X.A (eval e Y.X.env) (FPd Y pins σv μ H σ Q) Y.X.xe s
section
variable {Y : Dx} {e : Expr} {es : List Expr} {T : DTA} {Te : DTE} {pos : Pos}
theorem DA.pa (h : DA Y es T) : PA Y.X es (Y.lA T) := by
  refine ⟨fun pos pins s σv H Q I q => ?_⟩
  obtain ⟨μ, σ, Hd, Qd, st, rs, rh, q, z⟩ := q
  refine thn (h.run pos pins s σv H μ σ Hd Qd ⟨I, st, rs, rh⟩ q) fun us s' ⟨ds, vs, H', μ', Hd', J, t, r, rd, q'⟩ => ?_
  exact ⟨vs, H', J.inv, r, z _ _ vs H' μ' q' t J.rh rd⟩
theorem DF.pe (h : DF Y e T) : PE Y.X e (Y.lF T) := by
  refine ⟨fun pins s σv H Q I q => ?_⟩
  obtain ⟨μ, σ, Hd, Qd, st, rs, rh, q, z⟩ := q
  refine thn (h.run pins s σv H μ σ Hd Qd ⟨I, st, rs, rh⟩ q) fun u s' ⟨ds, vs, a, H', μ', Hd', J, t, r, h1, h2, rd, q'⟩ => ?_
  exact ⟨.ref a, H', J.inv, r, z _ _ a vs H' μ' q' t J.rh rd h1 h2⟩
theorem DF.of {t : TE} (h : PE Y.X e t)
    (f : ∀ pins s σv H μ σ Hd Q, DI Y pins σv H μ σ Hd s → T σ Hd Q → t σv H fun v H' => ∃ ds a vs μ' Hd', v = .ref a ∧ H' a = some (.lst vs) ∧ (H a = none ∧ ∀ j, μ' j ≠ some a) ∧ Stp μ H μ' H' ∧ RHp Y.X.prog Y.X.w Y.G μ' H' Hd' ∧ RDs Y.G μ' H' ds vs ∧ Q ds Hd') : DF Y e T := by
  refine ⟨fun pins s σv H μ σ Hd Q I q => ?_⟩
  refine thn (h.run pins s σv H _ I.inv (f pins s σv H μ σ Hd Q I q)) fun u s' ⟨v, H', J, r, ds, a, vs, μ', Hd', e, h1, h2, t, rh, rd, q'⟩ => ?_
  subst e
  exact ⟨ds, vs, a, H', μ', Hd', I.to J t rh, t, r, h1, h2, rd, q'⟩
/-- an address that H does not track is nobody's -/
theorem RHp.nobody {P : Program} {w : World} {G : Cfg} {μ : Mu} {H : Hp} {Hd : DH} {a : Addr} (rh : RHp P w G μ H Hd) (hn : H a = none) : ∀ j, μ j ≠ some a := fun j e => rh.there j a e hn
theorem RHp.laid {P : Program} {w : World} {G : Cfg} {μ : Mu} {H : Hp} {Hd : DH} {a : Addr} (rh : RHp P w G μ H Hd) (hn : H a = none) (o : HO) : Stp μ H μ (L2.upd H a o) ∧ RHp P w G μ (L2.upd H a o) Hd := rh.grow (grow_at hn)
def dNil : DTA := fun _ H Q => Q [] H
def dCons (Ta : DTE) (Tr : DTA) : DTA := fun σ H Q => Ta σ H fun x H1 => Tr σ H1 fun xs H2 => Q (x :: xs) H2
theorem da_nil : DA Y [] dNil := ⟨fun _ _ _ σv H μ σ Hd Q I h => Calls.spliced_nil ⟨[], [], H, μ, Hd, I, Stp.refl _ _, .nil, .nil, h⟩⟩
theorem da_cons (ha : DE Y e Te) (hr : DA Y es T) (hs : starEach (e :: es) Y.X.env = (false, eval e Y.X.env) :: starEach es Y.X.env := by rfl) : DA Y (e :: es) (dCons Te T) := by
  refine ⟨fun pos pins s σv H μ σ Hd Q I h => ?_⟩
  rw [hs]
  show wpAny _ _ (spliced ((false, eval e Y.X.env) :: backTo pos (starEach es Y.X.env))) _ _ s
  refine Calls.spliced_cons (thn (ha.run pins s σv H μ σ Hd _ I h) fun u s1 ⟨x, vx, H1, μ1, Hd1, I1, t1, r1, d1, q1⟩ => ?_)
  exact thn (hr.run pos pins s1 σv H1 μ1 σ Hd1 _ I1 q1) fun us s2 ⟨xs, vs, H2, μ2, Hd2, I2, t2, r2, d2, q2⟩ =>
    ⟨x :: xs, vx :: vs, H2, μ2, Hd2, I2, t1.trans t2, .cons r1 r2, .cons (d1.step t2) d2, q2⟩
/-- a fresh list among the arguments -/
structure DFA (Y : Dx) (e : Expr) (T : DTA) : Prop where
  f : DF Y e T
def dTup (T : DTA) : DTE := fun σ H Q => T σ H fun ds H1 => ds.length ≤ sizeLine ∧ Q (.tup ds) H1
theorem de_tup {x1} (h : DA Y es T) : DE Y (.Tuple es x1 pos) (dTup T) :=
  .of (pe_tup h.pa) fun pins s σv H μ σ Hd Q I q => ⟨μ, σ, Hd, _, I.st, I.rs, I.rh, q, fun ds Hd' vs H' μ' ⟨hl, q⟩ t rh rd =>
    ⟨by rw [← rd.length]; exact hl, fun p hp => by
      obtain ⟨t2, rh2⟩ := rh.laid hp (.tup vs)
      exact ⟨.tup ds, μ', Hd', t.trans t2, rh2, .tup (.of L2.upd_same) (rd.step t2), q⟩⟩⟩
def dLst (T : DTA) : DTA := fun σ H Q => T σ H fun ds H1 => ds.length ≤ sizeLine ∧ Q ds H1
theorem df_lst (h : DA Y es T) : DF Y (.List es pos) (dLst T) :=
  .of (pe_lst h.pa) fun pins s σv H μ σ Hd Q I q => ⟨μ, σ, Hd, _, I.st, I.rs, I.rh, q, fun ds Hd' vs H' μ' ⟨hl, q⟩ t rh rd =>
    ⟨by rw [← rd.length]; exact hl, fun p hp => by
      obtain ⟨t2, rh2⟩ := rh.laid hp (.lst vs)
      exact ⟨ds, p, vs, μ', Hd', rfl, L2.upd_same, ⟨t.new hp, rh.nobody hp⟩, t.trans t2, rh2, rd.step t2, q⟩⟩⟩
/-- a fresh list gets a name -/
def dNew (T : DTA) : DTE := fun σ H Q => T σ H fun ds H1 => newO H1 (.lst ds) fun i H2 => Q (.ref i) H2
theorem de_new (h : DF Y e T) : DE Y e (dNew T) := by
  refine ⟨fun pins s σv H μ σ Hd Q I q => ?_⟩
  refine thn (h.run pins s σv H μ σ Hd _ I q) fun u s1 ⟨ds, vs, a, H1, μ1, Hd1, I1, t1, r1, h1, h2, d1, q1⟩ => ?_
  obtain ⟨i, t2, t3, rh2, q2⟩ := I1.rh.newO t1 h2.1 q1 (by rw [h1]; exact fun z => by cases z) h2.2 fun i t => ⟨vs, h1, d1.step0 t⟩
  exact ⟨.ref i, .ref a, H1, muSet μ1 i a, _, I.to I1.inv t2 rh2, t2, r1, .ref muSet_same, q2⟩

/-! ### built-in functions -/
abbrev DRA := List D → DH → DVK → Prop
def dCB (r : DRA) (T : DTA) : DTE := fun σ H Q => T σ H fun ds H1 => r ds H1 Q
/-- a function of values: what the wish gives of HandS's -/
def CallD (Y : Dx) (f : Value) (r : DRA) : Prop := ∃ r', CallR Y.X f r' ∧ ∀ {μ H Hd ds vs Q} {Q' : VK}, RHp Y.X.prog Y.X.w Y.G μ H Hd → RDs Y.G μ H ds vs → r ds Hd Q →
  (∀ d v H' μ' Hd', Stp μ H μ' H' → RHp Y.X.prog Y.X.w Y.G μ' H' Hd' → RD Y.G μ' H' d v → Q d Hd' → Q' v H') → r' vs H Q'
theorem de_callB {id : String} {x : Str} {p : Pos} {r : DRA} (hc : CallD Y (.builtin id) r) (hg : Gl Y.X x) (hm : Y.X.mg x = none) (hv : bootBuiltins x = some (.builtin id)) (ha : DA Y (e :: es) T) (hn : x ≠ "__name__" := by decide) (hdb : (x == ("__debug__" : Str)) = false := by decide)
    (he : starEach (e :: es) Y.X.env = (false, eval e Y.X.env) :: starEach es Y.X.env := by rfl) (hpl : (backTo pos (starEach es Y.X.env)).any (·.1) = false := by rfl) : DE Y (.Call (.Name x p) (e :: es) [] pos) (dCB r T) := by
  obtain ⟨r', hc, g⟩ := hc
  exact .of (pe_callB hc hg hm hv ha.pa hn hdb he hpl) fun pins s σv H μ σ Hd Q I q => ⟨μ, σ, Hd, _, I.st, I.rs, I.rh, q, fun ds Hd' vs H' μ' q t rh rd =>
    g rh rd q fun d v H2 μ2 Hd2 t2 rh2 rd2 q2 => ⟨d, μ2, Hd2, t.trans t2, rh2, rd2, q2⟩⟩
theorem de_callTy {id : String} {x : Str} {p : Pos} {r : DRA} (hc : CallD Y (.type id) r) (hg : Gl Y.X x) (hm : Y.X.mg x = none) (hv : bootBuiltins x = some (.type id)) (ha : DA Y (e :: es) T) (hn : x ≠ "__name__" := by decide) (hdb : (x == ("__debug__" : Str)) = false := by decide)
    (he : starEach (e :: es) Y.X.env = (false, eval e Y.X.env) :: starEach es Y.X.env := by rfl) (hpl : (backTo pos (starEach es Y.X.env)).any (·.1) = false := by rfl) : DE Y (.Call (.Name x p) (e :: es) [] pos) (dCB r T) := by
  obtain ⟨r', hc, g⟩ := hc
  exact .of (pe_callTy hc hg hm hv ha.pa hn hdb he hpl) fun pins s σv H μ σ Hd Q I q => ⟨μ, σ, Hd, _, I.st, I.rs, I.rh, q, fun ds Hd' vs H' μ' q t rh rd =>
    g rh rd q fun d v H2 μ2 Hd2 t2 rh2 rd2 q2 => ⟨d, μ2, Hd2, t.trans t2, rh2, rd2, q2⟩⟩
/-- of a fresh list -/
def FreshD (Y : Dx) (f : Value) (r : List D → DH → DVK → Prop) : Prop := ∃ r', CallR Y.X f r' ∧ ∀ {μ H Hd ds a vs Q} {Q' : VK}, RHp Y.X.prog Y.X.w Y.G μ H Hd → RDs Y.G μ H ds vs → H a = some (.lst vs) → r ds Hd Q →
  (∀ d v H' μ' Hd', Stp μ H μ' H' → RHp Y.X.prog Y.X.w Y.G μ' H' Hd' → RD Y.G μ' H' d v → Q d Hd' → Q' v H') → r' [.ref a] H Q'
theorem de_callBF {id : String} {x : Str} {p : Pos} {r : DRA} (hc : FreshD Y (.builtin id) r) (hg : Gl Y.X x) (hm : Y.X.mg x = none) (hv : bootBuiltins x = some (.builtin id)) (ha : DF Y e T) (hn : x ≠ "__name__" := by decide) (hdb : (x == ("__debug__" : Str)) = false := by decide)
    (he : starEach [e] Y.X.env = (false, eval e Y.X.env) :: starEach [] Y.X.env := by rfl) : DE Y (.Call (.Name x p) [e] [] pos) (dCB r T) := by
  obtain ⟨r', hc, g⟩ := hc
  exact .of (pe_callB hc hg hm hv (pa_cons ha.pe pa_nil he) hn hdb he) fun pins s σv H μ σ Hd Q I q => ⟨μ, σ, Hd, _, I.st, I.rs, I.rh, q, fun ds Hd' a vs H' μ' q t rh rd h1 h2 =>
    g rh rd h1 q fun d v H2 μ2 Hd2 t2 rh2 rd2 q2 => ⟨d, μ2, Hd2, t.trans t2, rh2, rd2, q2⟩⟩
theorem de_callTyF {id : String} {x : Str} {p : Pos} {r : DRA} (hc : FreshD Y (.type id) r) (hg : Gl Y.X x) (hm : Y.X.mg x = none) (hv : bootBuiltins x = some (.type id)) (ha : DF Y e T) (hn : x ≠ "__name__" := by decide) (hdb : (x == ("__debug__" : Str)) = false := by decide)
    (he : starEach [e] Y.X.env = (false, eval e Y.X.env) :: starEach [] Y.X.env := by rfl) : DE Y (.Call (.Name x p) [e] [] pos) (dCB r T) := by
  obtain ⟨r', hc, g⟩ := hc
  exact .of (pe_callTy hc hg hm hv (pa_cons ha.pe pa_nil he) hn hdb he) fun pins s σv H μ σ Hd Q I q => ⟨μ, σ, Hd, _, I.st, I.rs, I.rh, q, fun ds Hd' a vs H' μ' q t rh rd h1 h2 =>
    g rh rd h1 q fun d v H2 μ2 Hd2 t2 rh2 rd2 q2 => ⟨d, μ2, Hd2, t.trans t2, rh2, rd2, q2⟩⟩
/-- a sequence's items: tuple, read-only list, list object -/
def itemsD : D → DH → Option (List D)
  | .tup xs, _ => some xs
  | .rol xs, _ => some xs
  | .ref i, H => match H i with | some (.lst xs) => some xs | _ => none
  | _, _ => none
theorem items_V {P : Program} {w : World} {G : Cfg} {μ : Mu} {H : Hp} {Hd : DH} {x : D} {v : V} {xs : List D} (rh : RHp P w G μ H Hd) (rd : RD G μ H x v) (e : itemsD x Hd = some xs) :
    ∃ a vs, v = .ref a ∧ RDs G μ H xs vs ∧ ((SqL G.K H a vs ∧ ∀ ys, x ≠ .tup ys) ∨ (SqT G.K H a vs ∧ x = .tup xs)) := by
  cases rd with
  | @tup ds vs a h r => cases e; exact ⟨a, vs, rfl, r, .inr ⟨h, rfl⟩⟩
  | @rol ds vs a h r => cases e; exact ⟨a, vs, rfl, r, .inl ⟨h.sq, fun ys z => by cases z⟩⟩
  | @ref i a h =>
    have e : (match Hd i with | some (.lst xs) => some xs | _ => none) = some xs := e
    split at e
    · rename_i ys h1
      cases e
      obtain ⟨a', h2, vs, h3, h4⟩ := rh.obj _ _ h1
      rw [h] at h2; cases h2
      exact ⟨a, vs, rfl, h4, .inl ⟨.of h3, fun ys z => by cases z⟩⟩
    · cases e
  | _ => cases e
def dLen : DRA := fun ds H Q => match ds with
  | [.str z] => z.length ≤ sizeLine ∧ Q (.int z.length) H
  | [.ref i] => (match H i with | some (.lst xs) => Q (.int xs.length) H | some (.dK kvs) => Q (.int kvs.length) H | _ => False)
  | [.tup xs] => Q (.int xs.length) H
  | [.rol xs] => Q (.int xs.length) H
  | _ => False
theorem callLen_all {X : Cx} : CallR X (.builtin "len") (fun xs H Q => (∃ x n, xs = [x] ∧ LenV X.K x H n ∧ Q (.int n) H) ∨ ∃ a kvs, xs = [.ref a] ∧ H a = some (.dK kvs) ∧ Q (.int kvs.length) H) := by
  intro pins s σ H xs us Q I r h
  rcases h with h | ⟨a, kvs, rfl, h1, q⟩
  · exact call_len pins s σ H xs us Q I r h
  · obtain ⟨u, rfl, rx⟩ := vals1 r
    cases rx
    exact d_len I (.inl h1) fun t s' I' => ⟨.int kvs.length, H, I', ⟨_, rfl⟩, q⟩
theorem cd_len : CallD Y (.builtin "len") dLen := by
  refine ⟨_, callLen_all, fun {μ H Hd ds vs Q Q'} rh rd q z => ?_⟩
  unfold dLen at q
  split at q
  · cases rd with
    | cons r1 r2 =>
      cases r2; cases r1
      exact .inl ⟨_, _, rfl, ⟨q.1, rfl⟩, z _ _ H μ Hd (Stp.refl _ _) rh (.int _) q.2⟩
  · cases rd with
    | cons r1 r2 =>
      cases r2
      cases r1 with
      | ref h =>
        split at q
        · rename_i xs h1
          obtain ⟨a', h2, ws, h3, h4⟩ := rh.obj _ _ h1
          rw [h] at h2; cases h2
          exact .inl ⟨_, _, rfl, .inl ⟨ws, .of h3, rfl⟩, z _ _ H μ Hd (Stp.refl _ _) rh (.int _) (by rw [← h4.length]; exact q)⟩
        · rename_i kvs h1
          obtain ⟨a', h2, ws, h3, h4⟩ := rh.obj _ _ h1
          rw [h] at h2; cases h2
          exact .inr ⟨_, _, rfl, h3, z _ _ H μ Hd (Stp.refl _ _) rh (.int _) (by rw [← h4.length]; exact q)⟩
        · exact q.elim
  · cases rd with
    | cons r1 r2 =>
      cases r2
      cases r1 with
      | tup h r => exact .inl ⟨_, _, rfl, .inr ⟨_, Y.hK ▸ h, rfl⟩, z _ _ H μ Hd (Stp.refl _ _) rh (.int _) (by rw [← r.length]; exact q)⟩
  · cases rd with
    | cons r1 r2 =>
      cases r2
      cases r1 with
      | rol h r => exact .inl ⟨_, _, rfl, .inl ⟨_, Y.hK ▸ h.sq, rfl⟩, z _ _ H μ Hd (Stp.refl _ _) rh (.int _) (by rw [← r.length]; exact q)⟩
  · exact q.elim
theorem fd_len : FreshD Y (.builtin "len") (fun ds H Q => Q (.int ds.length) H) :=
  ⟨_, call_len, fun {μ H Hd ds a vs Q Q'} rh rd h q z => ⟨_, _, rfl, .inl ⟨vs, .of h, rfl⟩, z _ _ H μ Hd (Stp.refl _ _) rh (.int _) (by rw [← rd.length]; exact q)⟩⟩
theorem fd_tuple : FreshD Y (.type "tuple") (fun ds H Q => Q (.tup ds) H) :=
  ⟨_, call_tuple_of, fun {μ H Hd ds a vs Q Q'} rh rd h q z => ⟨a, vs, rfl, .inl ⟨.of h, fun l hl => by
    obtain ⟨t2, rh2⟩ := rh.laid hl (.tup vs)
    exact z (.tup ds) _ _ μ Hd t2 rh2 (.tup (.of L2.upd_same) (rd.step t2)) q⟩⟩⟩
theorem RDs.bls {G : Cfg} {μ : Mu} {H : Hp} : ∀ {bs : List Bool} {vs : List V}, RDs G μ H (bs.map D.bl) vs → vs = bs.map V.bl
  | [], _, r => by cases r; rfl
  | b :: bs, _, r => by
    rw [List.map_cons] at r
    cases r with
    | cons r1 r2 => cases r1; rw [RDs.bls r2]; rfl
theorem RDs.intsV {G : Cfg} {μ : Mu} {H : Hp} : ∀ {bs : List Int} {vs : List V}, RDs G μ H (bs.map D.int) vs → vs = bs.map V.int
  | [], _, r => by cases r; rfl
  | b :: bs, _, r => by
    rw [List.map_cons] at r
    cases r with
    | cons r1 r2 => cases r1; rw [RDs.intsV r2]; rfl
theorem RDs.strsV {G : Cfg} {μ : Mu} {H : Hp} : ∀ {bs : List Str} {vs : List V}, RDs G μ H (bs.map D.str) vs → vs = bs.map V.str
  | [], _, r => by cases r; rfl
  | b :: bs, _, r => by
    rw [List.map_cons] at r
    cases r with
    | cons r1 r2 => cases r1; rw [RDs.strsV r2]; rfl
theorem fd_all (hc : Y.X.calm = true) : FreshD Y (.builtin "all") (fun ds H Q => ∃ bs : List Bool, ds = bs.map D.bl ∧ Q (.bl (bs.all id)) H) :=
  ⟨_, cr_all hc, fun {μ H Hd ds a vs Q Q'} rh rd h q z => by
    obtain ⟨bs, rfl, q⟩ := q
    exact ⟨a, bs, rfl, rd.bls ▸ .of h, z _ _ H μ Hd (Stp.refl _ _) rh (.bl _) q⟩⟩
theorem fd_any (hc : Y.X.calm = true) : FreshD Y (.builtin "any") (fun ds H Q => ∃ bs : List Bool, ds = bs.map D.bl ∧ Q (.bl (bs.any id)) H) :=
  ⟨_, cr_any hc, fun {μ H Hd ds a vs Q Q'} rh rd h q z => by
    obtain ⟨bs, rfl, q⟩ := q
    exact ⟨a, bs, rfl, rd.bls ▸ .of h, z _ _ H μ Hd (Stp.refl _ _) rh (.bl _) q⟩⟩
/-- tuple(a sequence) -/
def dTupleC : DRA := fun ds H Q => match ds with | [x] => (match itemsD x H with | some xs => Q (.tup xs) H | none => False) | _ => False
theorem cd_tuple : CallD Y (.type "tuple") dTupleC :=
  ⟨_, call_tuple_of, fun {μ H Hd ds vs Q Q'} rh rd q z => by
    unfold dTupleC at q
    split at q
    · rename_i x
      cases rd with
      | cons r1 r2 =>
        cases r2
        split at q
        · rename_i xs e
          obtain ⟨a, vs, rfl, r3, h | h⟩ := items_V rh r1 e
          · refine ⟨a, vs, rfl, .inl ⟨Y.hK ▸ h.1, fun l hl => ?_⟩⟩
            obtain ⟨t2, rh2⟩ := rh.laid hl (.tup vs)
            exact z (.tup xs) _ _ μ Hd t2 rh2 (.tup (.of L2.upd_same) (r3.step t2)) q
          · exact ⟨a, vs, rfl, .inr ⟨Y.hK ▸ h.1, z (.tup xs) _ _ μ Hd (Stp.refl _ _) rh (.tup h.1 r3) q⟩⟩
        · exact q.elim
    · exact q.elim⟩
/-- list(a sequence) -/
theorem df_list {x : Str} {p : Pos} (hg : Gl Y.X x) (hm : Y.X.mg x = none) (hv : bootBuiltins x = some (.type "list")) (ha : DE Y e Te) (hn : x ≠ "__name__" := by decide) (hdb : (x == ("__debug__" : Str)) = false := by decide)
    (he : starEach [e] Y.X.env = (false, eval e Y.X.env) :: starEach [] Y.X.env := by rfl) : DF Y (.Call (.Name x p) [e] [] pos) (fun σ H Q => Te σ H fun x H1 => match itemsD x H1 with | some xs => Q xs H1 | none => False) :=
  .of (pe_callTy call_list_of hg hm hv (pa_cons ha.pe pa_nil he) hn hdb he) fun pins s σv H μ σ Hd Q I q => ⟨μ, σ, Hd, _, I.st, I.rs, I.rh, q, fun d Hd' v H' μ' q t rh rd => by
    split at q
    · rename_i xs e
      obtain ⟨a, vs, rfl, r3, h⟩ := items_V rh rd e
      refine ⟨a, vs, rfl, h.imp (fun h => Y.hK ▸ h.1) (fun h => Y.hK ▸ h.1), fun l hl => ?_⟩
      obtain ⟨t2, rh2⟩ := rh.laid hl (.lst vs)
      exact ⟨xs, l, vs, μ', Hd', rfl, L2.upd_same, ⟨t.new hl, rh.nobody hl⟩, t.trans t2, rh2, r3.step t2, q⟩
    · exact q.elim⟩
def dIntC : DRA := fun ds H Q => match ds with | [.int i] => Q (.int i) H | [.bl k] => Q (.int (if k then 1 else 0)) H | _ => False
theorem cd_int : CallD Y (.type "int") dIntC :=
  ⟨_, call_int1, fun {μ H Hd ds vs Q Q'} rh rd q z => by
    unfold dIntC at q
    split at q
    · cases rd with
      | cons r1 r2 => cases r2; cases r1; exact .inl ⟨_, rfl, z _ _ H μ Hd (Stp.refl _ _) rh (.int _) q⟩
    · cases rd with
      | cons r1 r2 => cases r2; cases r1; exact .inr ⟨_, rfl, z _ _ H μ Hd (Stp.refl _ _) rh (.int _) q⟩
    · exact q.elim⟩
def dMinC : DRA := fun ds H Q => match ds with | [.int i, .int j] => Q (.int (min i j)) H | _ => False
theorem cd_min (hc : Y.X.calm = true) : CallD Y (.builtin "min") dMinC :=
  ⟨_, call_min2 hc, fun {μ H Hd ds vs Q Q'} rh rd q z => by
    unfold dMinC at q
    split at q
    · cases rd with
      | cons r1 r2 =>
        cases r2 with
        | cons r2 r3 =>
          cases r3; cases r1; cases r2
          refine ⟨_, _, rfl, z _ _ H μ Hd (Stp.refl _ _) rh (.int _) ?_⟩
          rename_i i j
          have e : min i j = if j < i then j else i := by split <;> omega
          rw [← e]; exact q
    · exact q.elim⟩
def dMaxC : DRA := fun ds H Q => match ds with | [.int i, .int j] => Q (.int (max i j)) H | _ => False
theorem cd_max (hc : Y.X.calm = true) : CallD Y (.builtin "max") dMaxC :=
  ⟨_, call_max2 hc, fun {μ H Hd ds vs Q Q'} rh rd q z => by
    unfold dMaxC at q
    split at q
    · cases rd with
      | cons r1 r2 =>
        cases r2 with
        | cons r2 r3 =>
          cases r3; cases r1; cases r2
          refine ⟨_, _, rfl, z _ _ H μ Hd (Stp.refl _ _) rh (.int _) ?_⟩
          rename_i i j
          have e : max i j = if j > i then j else i := by split <;> omega
          rw [← e]; exact q
    · exact q.elim⟩

/-! ### isinstance(x, T), T a built-in class -/
/-- is a value with the type t one of T -/
def subT (t T : String) : Bool := t == T || (t == "bool" && T == "int")
def isD (T : String) (x : D) (H : DH) : Option Bool := match x with
  | .non => some (subT "NoneType" T)
  | .bl _ => some (subT "bool" T)
  | .int _ => some (subT "int" T)
  | .str _ => some (subT "str" T)
  | .tup _ => some (subT "tuple" T)
  | .rol _ => some (subT "list" T)
  | .ref i => (match H i with | some (.lst _) => some (subT "list" T) | some (.dK _) => some (subT "dict" T) | _ => none)
  | .glo _ => none

theorem rd_sqT {K : PySem.W.Frag} {H : Hp} {a : Addr} {vs : List V} (h : SqT K H a vs) : TyX K H (.ref a) (.type "tuple") := by
  rcases h with (h | ⟨o, h⟩) | ⟨o, its, n, h1, h2, h3, h4, h5⟩
  · exact .base (.tup h)
  · exact .fTuple h
  · exact .kTuple h1 h2
theorem isD_V {K : PySem.W.Frag} {P : Program} {w : World} {G : Cfg} {μ : Mu} {H : Hp} {Hd : DH} {T : String} {x : D} {v : V} {b : Bool} (hK : G.K = K) (rh : RHp P w G μ H Hd) (rd : RD G μ H x v) (e : isD T x Hd = some b) :
    ∃ t, t ∈ ["NoneType", "bool", "int", "str", "tuple", "list", "dict"] ∧ TyX K H v (.type t) ∧ b = subT t T := by
  subst hK
  cases rd with
  | non => exact ⟨_, by decide, .base .non, (Option.some.inj e).symm⟩
  | bl k => exact ⟨_, by decide, .base (.bl k), (Option.some.inj e).symm⟩
  | int i => exact ⟨_, by decide, .base (.int i), (Option.some.inj e).symm⟩
  | str y => exact ⟨_, by decide, .base (.str y), (Option.some.inj e).symm⟩
  | tup h r => exact ⟨_, by decide, rd_sqT h, (Option.some.inj e).symm⟩
  | rol h r =>
    refine ⟨"list", by decide, ?_, (Option.some.inj e).symm⟩
    rcases h with ⟨o, h⟩ | ⟨o, its, n, h1, h2, _⟩
    · exact .base (.frz h)
    · exact .kList h1 h2
  | @ref i a h =>
    have e : (match Hd i with | some (.lst _) => some (subT "list" T) | some (.dK _) => some (subT "dict" T) | _ => none) = some b := e
    split at e
    · rename_i h1
      obtain ⟨a', h2, vs, h3, h4⟩ := rh.obj _ _ h1
      rw [h] at h2; cases h2
      exact ⟨"list", by decide, .base (.lst h3), (Option.some.inj e).symm⟩
    · rename_i h1
      obtain ⟨a', h2, vs, h3, h4⟩ := rh.obj _ _ h1
      rw [h] at h2; cases h2
      exact ⟨"dict", by decide, .base (.dK h3), (Option.some.inj e).symm⟩
    · cases e
  | glo n => cases e
def KitT (T : String) : Prop := (["NoneType", "bool", "int", "str", "tuple", "list", "dict"].all fun t => kitB t T == some (subT t T)) = true
theorem KitT.at {T : String} (h : KitT T) {t : String} (ht : t ∈ ["NoneType", "bool", "int", "str", "tuple", "list", "dict"]) : kitB t T = some (subT t T) :=
  beq_iff_eq.mp (List.all_eq_true.mp h t ht)
theorem kit_int : KitT "int" := by unfold KitT; decide +kernel
theorem kit_bool : KitT "bool" := by unfold KitT; decide +kernel
theorem kit_str : KitT "str" := by unfold KitT; decide +kernel
theorem kit_tuple : KitT "tuple" := by unfold KitT; decide +kernel
theorem kit_list : KitT "list" := by unfold KitT; decide +kernel
theorem kit_dict : KitT "dict" := by unfold KitT; decide +kernel
theorem bt_isinstance : bootBuiltins "isinstance" = some (.builtin "isinstance") := by decide +kernel
theorem bt_int : bootBuiltins "int" = some (.type "int") := by decide +kernel
theorem bt_bool : bootBuiltins "bool" = some (.type "bool") := by decide +kernel
theorem bt_str : bootBuiltins "str" = some (.type "str") := by decide +kernel
theorem bt_tuple : bootBuiltins "tuple" = some (.type "tuple") := by decide +kernel
theorem bt_list : bootBuiltins "list" = some (.type "list") := by decide +kernel
theorem bt_dict : bootBuiltins "dict" = some (.type "dict") := by decide +kernel
theorem bt_len : bootBuiltins "len" = some (.builtin "len") := by decide +kernel
theorem bt_min : bootBuiltins "min" = some (.builtin "min") := by decide +kernel
theorem bt_max : bootBuiltins "max" = some (.builtin "max") := by decide +kernel
theorem bt_all : bootBuiltins "all" = some (.builtin "all") := by decide +kernel
theorem bt_any : bootBuiltins "any" = some (.builtin "any") := by decide +kernel
theorem bt_sorted : bootBuiltins "sorted" = some (.builtin "sorted") := by decide +kernel
theorem bt_repr : bootBuiltins "repr" = some (.builtin "repr") := by decide +kernel
def dIsi (T : String) (Te : DTE) : DTE := fun σ H Q => Te σ H fun x H1 => match isD T x H1 with | some b => Q (.bl b) H1 | none => False
theorem de_isi {T : String} {n : Str} {p pT : Pos} (hT : KitT T) (hv : bootBuiltins n = some (.type T)) (hg : Gl Y.X "isinstance") (hm : Y.X.mg "isinstance" = none) (hgT : Gl Y.X n) (hmT : Y.X.mg n = none) (ha : DE Y e Te) (hn : n ≠ "__name__" := by decide) (hdb : (n == ("__debug__" : Str)) = false := by decide)
    (he : starEach [e, .Name n pT] Y.X.env = (false, eval e Y.X.env) :: starEach [.Name n pT] Y.X.env := by rfl) : DE Y (.Call (.Name "isinstance" p) [e, .Name n pT] [] pos) (dIsi T Te) :=
  .of (pe_callB call_isi hg hm bt_isinstance (pa_cons ha.pe (pa_cons (pe_bltn (v := .ty T) hgT hmT hv rfl hn hdb) pa_nil) he)  (by decide) (by decide) he) fun pins s σv H μ σ Hd Q I q =>
    ⟨μ, σ, Hd, _, I.st, I.rs, I.rh, q, fun d Hd' v H' μ' q t rh rd => by
      split at q
      · rename_i b e
        obtain ⟨t', ht, ty, rfl⟩ := isD_V Y.hK rh rd e
        exact ⟨v, .ty T, .type t', .type T, _, rfl, .ty T, ty, kit_ty (hT.at ht), .bl _, μ', Hd', t, rh, .bl _, q⟩
      · exact q.elim⟩

/-! ### subscripts -/
def IxD (Y : Dx) (r : DR2) : Prop := ∃ r', IxR Y.X r' ∧ ∀ {μ H Hd x y vx vy Q} {Q' : VK}, RHp Y.X.prog Y.X.w Y.G μ H Hd → RD Y.G μ H x vx → RD Y.G μ H y vy → r x y Hd Q → (∀ d v, RD Y.G μ H d v → Q d Hd → Q' v H) → r' vx vy H Q'
def dKat (kvs : List (D × D)) (k : D) : Option D := (kvs.find? fun p => decide (keyD p.1 = keyD k)).map (·.2)
/-- a list's, a tuple's, a text's item; a dict's value -/
def dIx : DR2 := fun x y H Q => match x, y with
  | .tup xs, .int i => (match atI xs i with | some d => Q d H | none => False)
  | .rol xs, .int i => (match atI xs i with | some d => Q d H | none => False)
  | .str z, .int i => z.length ≤ sizeLine ∧ (match atI z.cps.toList i with | some c => Q (.str ⟨#[c]⟩) H | none => False)
  | .ref i, k => (match H i with
    | some (.lst xs) => (match k with | .int j => (match atI xs j with | some d => Q d H | none => False) | _ => False)
    | some (.dK kvs) => keyD k ≠ none ∧ (match dKat kvs k with | some d => Q d H | none => False)
    | _ => False)
  | _, _ => False
theorem ix_dict {X : Cx} (hu : X.A.units + 1 < cLine) : IxR X (fun x y H Q => ∃ a v, x = .ref a ∧ DGet H a y (some v) ∧ Q v H) := by
  intro value slice pins s σ H x y v u Q I rx ry h hs
  obtain ⟨a, z, rfl, g, q⟩ := h
  cases rx
  exact tail_any (dict_typeIs I g) PySem.F.slot_dict_getitem.lookup (d_getItem hu I g ry fun w' s3 I3 rw' => ⟨z, H, I3, rw', q⟩) hs
theorem RDs.atI {G : Cfg} {μ : Mu} {H : Hp} {xs : List D} {vs : List V} {i : Int} {d : D} (r : RDs G μ H xs vs) (e : L2.atI xs i = some d) : ∃ v, L2.atI vs i = some v ∧ RD G μ H d v := by
  unfold L2.atI at e ⊢
  rw [← r.length]
  cases h : ixN xs.length i with
  | none => rw [h] at e; cases e
  | some j => rw [h] at e; exact r.get e
theorem keyD_V {G : Cfg} {μ : Mu} {H : Hp} {x : D} {v : V} {k : Key} (r : RD G μ H x v) (e : keyD x = some k) : v = kV k := by
  cases r <;> first | (cases e; rfl) | cases e
theorem dKat_V {R : D → V → Prop} : ∀ {kvs : List (D × D)} {kws : List (Key × V)} {y : D} {k : Key} {d : D}, P2 (fun (p : D × D) (q : Key × V) => keyD p.1 = some q.1 ∧ R p.2 q.2) kvs kws → keyD y = some k → dKat kvs y = some d → ∃ v, valV kws k = some v ∧ R d v
  | _, _, _, _, _, .nil, _, h => by cases h
  | _, _, y, k, d, .cons (a := p) (b := q) (as := r) (bs := t) h1 h2, e, h => by
    unfold dKat at h
    rw [List.find?_cons] at h
    by_cases hk : keyD p.1 = keyD y
    · rw [decide_eq_true hk] at h
      cases h
      refine ⟨q.2, valV_pos ?_, h1.2⟩
      rw [h1.1, e] at hk
      exact Option.some.inj hk
    · rw [decide_eq_false hk] at h
      obtain ⟨v, e1, e2⟩ := dKat_V h2 e h
      refine ⟨v, ?_, e2⟩
      rw [valV_neg (fun z => hk (by rw [h1.1, e, z]))]
      exact e1
theorem ixD (hu : Y.X.A.units + 1 < cLine) : IxD Y dIx := by
  refine ⟨_, (ix_seq (X := Y.X)).or (ix_dict hu), fun {μ H Hd x y vx vy Q Q'} rh d1 d2 q z => ?_⟩
  unfold dIx at q
  split at q
  · split at q
    · rename_i d e
      cases d2
      cases d1 with
      | tup h r => obtain ⟨v, e2, r2⟩ := r.atI e; exact .inl (.inr (.inl ⟨_, _, _, v, rfl, rfl, Y.hK ▸ h, e2, z _ _ r2 q⟩))
    · exact q.elim
  · split at q
    · rename_i d e
      cases d2
      cases d1 with
      | rol h r => obtain ⟨v, e2, r2⟩ := r.atI e; exact .inl (.inl ⟨_, _, _, v, rfl, rfl, Y.hK ▸ h.sq, e2, z _ _ r2 q⟩)
    · exact q.elim
  · obtain ⟨hz, q⟩ := q
    split at q
    · rename_i c e
      cases d1; cases d2
      exact .inl (.inr (.inr ⟨_, _, c, rfl, rfl, hz, e, z _ _ (.str _) q⟩))
    · exact q.elim
  · cases d1 with
    | ref h =>
      split at q
      · rename_i xs h1
        obtain ⟨a', h2, vs, h3, h4⟩ := rh.obj _ _ h1
        rw [h] at h2; cases h2
        split at q
        · split at q
          · rename_i d e
            cases d2
            obtain ⟨v, e2, r2⟩ := h4.atI e
            exact .inl (.inl ⟨_, _, _, v, rfl, rfl, .of h3, e2, z _ _ r2 q⟩)
          · exact q.elim
        · exact q.elim
      · rename_i kvs h1
        obtain ⟨a', h2, kws, h3, h4⟩ := rh.obj _ _ h1
        rw [h] at h2; cases h2
        obtain ⟨hk, q⟩ := q
        split at q
        · rename_i d e
          cases ek : keyD y with
          | none => exact absurd ek hk
          | some k =>
            obtain ⟨v, e2, r2⟩ := dKat_V h4 ek e
            refine .inr ⟨_, v, rfl, ?_, z _ _ r2 q⟩
            rw [keyD_V d2 ek, ← e2]
            exact .k h3
        · exact q.elim
      · exact q.elim
  · exact q.elim
variable {a b : Expr} {Ta Tb : DTE}
theorem de_ixR {r : DR2} (hr : IxD Y r) (ha : DE Y a Ta) (hb : DE Y b Tb) (hs : PlainIx b) : DE Y (.Subscript a b pos) (dOp r Ta Tb) := by
  obtain ⟨r', hr, g⟩ := hr
  exact .of (pe_ix hr ha.pe hb.pe hs) fun pins s σv H μ σ Hd Q I q => ⟨μ, σ, Hd, _, I.st, I.rs, I.rh, q, fun x Hd1 vx H1 μ1 q1 t1 rh1 dx =>
    ⟨μ1, σ, Hd1, _, I.st.trans t1, I.rs.step t1, rh1, q1, fun y Hd2 vy H2 μ2 q2 t2 rh2 dy => g rh2 (dx.step t2) dy q2 fun d v rd q3 => ⟨d, μ2, Hd2, t1.trans t2, rh2, rd, q3⟩⟩⟩
theorem de_ix (hu : Y.X.A.units + 1 < cLine) (ha : DE Y a Ta) (hb : DE Y b Tb) (hs : PlainIx b := by exact fun _ _ => rfl) : DE Y (.Subscript a b pos) (dOp dIx Ta Tb) := de_ixR (ixD hu) ha hb hs
/-- [..][x], x a name -/
def dIxF (T : DTA) (i : Nat) : DTE := fun σ H Q => T σ H fun ds H1 => match σ[i]? with | some (some (.int j)) => (match atI ds j with | some d => Q d H1 | none => False) | _ => False
theorem de_ixF {x : Str} {px : Pos} (i : Nat) (ha : DF Y a T) (hN : Y.X.N[i]? = some x := by rfl) (hv : Vis Y.X.env.scope x := by first | exact Or.inl rfl | exact Or.inr (Or.inl rfl) | exact Or.inr (Or.inr rfl)) (hd : (x == ("__debug__" : Str)) = false := by decide)
    (hcd : (x == ("__classdict__" : Str)) = false := by decide) (hs : PlainIx (.Name x px) := by exact fun _ _ => rfl) : DE Y (.Subscript a (.Name x px) pos) (dIxF T i) :=
  .of (pe_ix ix_list ha.pe (pe_var hN hv hd hcd) hs) fun pins s σv H μ σ Hd Q I q => ⟨μ, σ, Hd, _, I.st, I.rs, I.rh, q, fun ds Hd' a vs H' μ' q t rh rd h1 h2 => by
    split at q
    · rename_i j e
      split at q
      · rename_i d e2
        obtain ⟨v, e3, r3⟩ := rd.atI e2
        obtain ⟨v', e4, r4⟩ := I.rs.at_ _ _ e
        cases r4
        exact ⟨_, e4, a, vs, j, v, rfl, rfl, .of h1, e3, d, μ', Hd', t, rh, r3, q⟩
      · exact q.elim
    · exact q.elim⟩

/-! ### methods of built-in objects -/
def MtD (Y : Dx) (id : String) (r : D → List D → DH → DVK → Prop) : Prop := ∃ r', MtR Y.X id r' ∧ ∀ {μ H Hd x vx ds vs Q} {Q' : VK}, RHp Y.X.prog Y.X.w Y.G μ H Hd → RD Y.G μ H x vx → RDs Y.G μ H ds vs → r x ds Hd Q →
  (∀ d v H' μ' Hd', Stp μ H μ' H' → RHp Y.X.prog Y.X.w Y.G μ' H' Hd' → RD Y.G μ' H' d v → Q d Hd' → Q' v H') → r' vx vs H Q'
def isT (T : String) (x : D) (H : DH) : Bool := match x with
  | .str _ => T == "str"
  | .rol _ => T == "list"
  | .ref i => (match H i with | some (.lst _) => T == "list" | some (.dK _) => T == "dict" | _ => false)
  | _ => false
theorem isT_V {K : PySem.W.Frag} {P : Program} {w : World} {G : Cfg} {μ : Mu} {H : Hp} {Hd : DH} {T : String} {x : D} {v : V} (hK : G.K = K) (rh : RHp P w G μ H Hd) (rd : RD G μ H x v) (e : isT T x Hd = true) : tyV K T v H := by
  subst hK
  cases rd with
  | str y => exact beq_iff_eq.mp e
  | rol h r => exact .inl ⟨beq_iff_eq.mp e, _, h.sq⟩
  | @ref i a h =>
    have e : (match Hd i with | some (.lst _) => T == "list" | some (.dK _) => T == "dict" | _ => false) = true := e
    split at e
    · rename_i h1
      obtain ⟨a', h2, vs, h3, h4⟩ := rh.obj _ _ h1
      rw [h] at h2; cases h2
      exact .inl ⟨beq_iff_eq.mp e, vs, .of h3⟩
    · rename_i h1
      obtain ⟨a', h2, vs, h3, h4⟩ := rh.obj _ _ h1
      rw [h] at h2; cases h2
      exact .inr (.inr (.inl ⟨beq_iff_eq.mp e, .inl ⟨vs, h3⟩⟩))
    · cases e
  | _ => cases e
def dBM0 (T : String) (r : D → List D → DH → DVK → Prop) (To : DTE) : DTE := fun σ H Q => To σ H fun x H1 => isT T x H1 = true ∧ r x [] H1 Q
def dBM (T : String) (r : D → List D → DH → DVK → Prop) (To : DTE) (Ta : DTA) : DTE := fun σ H Q => To σ H fun x H1 => isT T x H1 = true ∧ Ta σ H1 fun ds H2 => r x ds H2 Q
variable {o : Expr} {To : DTE} {name : Str} {apos cpos : Pos} {Ty id : String} {r : D → List D → DH → DVK → Prop}
theorem de_bm0 (pa : PlainAttrs Ty) (slot : Slot Ty name id) (hty : typeOf (.builtin id) = pure (.type "method_descriptor")) (hm : MtD Y id r) (ho : DE Y o To)
    (hbase : attributeBase o name Y.X.env (eval o Y.X.env) = eval o Y.X.env := by rfl) (hline : (apos.endLine == cpos.line) = true := by rfl) : DE Y (.Call (.Attribute o name apos) [] [] cpos) (dBM0 Ty r To) := by
  obtain ⟨r', hm, g⟩ := hm
  exact .of (pe_bm0 pa slot hty hm ho.pe hbase hline) fun pins s σv H μ σ Hd Q I q => ⟨μ, σ, Hd, _, I.st, I.rs, I.rh, q, fun x Hd1 vx H1 μ1 ⟨q0, q1⟩ t1 rh1 dx =>
    ⟨isT_V Y.hK rh1 dx q0, g rh1 dx .nil q1 fun d v H2 μ2 Hd2 t2 rh2 rd2 q2 => ⟨d, μ2, Hd2, t1.trans t2, rh2, rd2, q2⟩⟩⟩
theorem de_bm (pa : PlainAttrs Ty) (slot : Slot Ty name id) (hty : typeOf (.builtin id) = pure (.type "method_descriptor")) (hm : MtD Y id r) (ho : DE Y o To) (ha : DA Y (e :: es) T)
    (hbase : attributeBase o name Y.X.env (eval o Y.X.env) = eval o Y.X.env := by rfl)
    (hfew : ((backTo cpos (starEach (e :: es) Y.X.env)).all (fun x => !x.1) && (backToKw cpos (keywordEach [] Y.X.env)).all (fun x => x.1.isSome)
      && decide ((e :: es).length + ([] : List Keyword).length + (if ([] : List Keyword).isEmpty then 0 else 1) < 30)) = true := by rfl)
    (hline : (apos.endLine == cpos.line) = true := by rfl) (hs : starEach (e :: es) Y.X.env = (false, eval e Y.X.env) :: starEach es Y.X.env := by rfl) (hplain : (backTo cpos (starEach es Y.X.env)).any (·.1) = false := by rfl) :
    DE Y (.Call (.Attribute o name apos) (e :: es) [] cpos) (dBM Ty r To T) := by
  obtain ⟨r', hm, g⟩ := hm
  exact .of (pe_bm pa slot hty hm ho.pe ha.pa hbase hfew hline hs hplain) fun pins s σv H μ σ Hd Q I q => ⟨μ, σ, Hd, _, I.st, I.rs, I.rh, q, fun x Hd1 vx H1 μ1 ⟨q0, q1⟩ t1 rh1 dx =>
    ⟨isT_V Y.hK rh1 dx q0, μ1, σ, Hd1, _, I.st.trans t1, I.rs.step t1, rh1, q1, fun ds Hd2 vs H2 μ2 q2 t2 rh2 rd2 => g rh2 (dx.step t2) rd2 q2 fun d v H3 μ3 Hd3 t3 rh3 rd3 q3 =>
      ⟨d, μ3, Hd3, (t1.trans t2).trans t3, rh3, rd3, q3⟩⟩⟩
def mAppend : D → List D → DH → DVK → Prop := fun x ds H Q => match x, ds with
  | .ref i, [y] => (match H i with | some (.lst xs) => xs.length < sizeLine ∧ Q .non (upd H i (.lst (xs ++ [y]))) | _ => False)
  | _, _ => False
theorem md_append : MtD Y "list.append" mAppend := by
  refine ⟨_, mt_append, fun {μ H Hd x vx ds vs Q Q'} rh d1 rd q z => ?_⟩
  unfold mAppend at q
  split at q
  · rename_i i y
    cases d1 with
    | ref h =>
      cases rd with
      | cons r1 r2 =>
        cases r2
        split at q
        · rename_i xs h1
          obtain ⟨a', h2, ws, h3, h4⟩ := rh.obj _ _ h1
          rw [h] at h2; cases h2
          obtain ⟨t, rh'⟩ := rh.set (u := .lst (ws ++ [_])) (o' := .lst (xs ++ [y])) h h1 fun t => ⟨_, L2.upd_same, (h4.step t).append (.cons (r1.step t) .nil)⟩
          exact ⟨_, ws, _, rfl, rfl, h3, by rw [← h4.length]; exact q.1, z .non .non _ μ _ t rh' .non q.2⟩
        · exact q.elim
  · exact q.elim
def mPop : D → List D → DH → DVK → Prop := fun x ds H Q => match x, ds with
  | .ref i, [] => (match H i with | some (.lst xs) => (match xs[xs.length - 1]? with | some y => Q y (upd H i (.lst xs.dropLast)) | none => False) | _ => False)
  | _, _ => False
theorem RDs.dropLast {G : Cfg} {μ : Mu} {H : Hp} : ∀ {xs : List D} {us : List V}, RDs G μ H xs us → RDs G μ H xs.dropLast us.dropLast
  | _, _, .nil => .nil
  | _, _, .cons _ .nil => .nil
  | _, _, .cons r (.cons r2 t) => .cons r (RDs.dropLast (.cons r2 t))
theorem md_pop : MtD Y "list.pop" mPop := by
  refine ⟨_, mt_pop, fun {μ H Hd x vx ds vs Q Q'} rh d1 rd q z => ?_⟩
  unfold mPop at q
  split at q
  · rename_i i
    cases d1 with
    | ref h =>
      cases rd
      split at q
      · rename_i xs h1
        obtain ⟨a', h2, ws, h3, h4⟩ := rh.obj _ _ h1
        rw [h] at h2; cases h2
        split at q
        · rename_i y e
          obtain ⟨v, e2, r2⟩ := h4.get e
          obtain ⟨t, rh'⟩ := rh.set (u := .lst ws.dropLast) (o' := .lst xs.dropLast) h h1 fun t => ⟨_, L2.upd_same, (h4.step t).dropLast⟩
          exact ⟨_, ws, v, rfl, rfl, h3, by rw [← h4.length]; exact e2, z y v _ μ _ t rh' (r2.step t) q⟩
        · exact q.elim
      · exact q.elim
  · exact q.elim
/-- how often an int stands in a list of ints -/
def mCount : D → List D → DH → DVK → Prop := fun x ds H Q => match x, ds with
  | .ref i, [.int k] => (match H i with | some (.lst xs) => ∃ ns : List Int, xs = ns.map D.int ∧ Q (.int (ns.count k : Nat)) H | _ => False)
  | _, _ => False
theorem md_count : MtD Y "list.count" mCount := by
  refine ⟨_, mt_lcount, fun {μ H Hd x vx ds vs Q Q'} rh d1 rd q z => ?_⟩
  unfold mCount at q
  split at q
  · rename_i i k
    cases d1 with
    | ref h =>
      cases rd with
      | cons r1 r2 =>
        cases r2; cases r1
        split at q
        · rename_i xs h1
          obtain ⟨a', h2, ws, h3, h4⟩ := rh.obj _ _ h1
          rw [h] at h2; cases h2
          obtain ⟨ns, rfl, q⟩ := q
          exact ⟨_, ns, k, rfl, rfl, h4.intsV ▸ .of h3, z _ _ H μ Hd (Stp.refl _ _) rh (.int _) q⟩
        · exact q.elim
  · exact q.elim
end
end DL

/-! DL4: targets, what is walked, comprehensions, generators within all, any. -/
namespace DL
open PySem PySem.Spec
open PyProof.Rows L2

/-! ### targets -/
inductive Tgt where | nm (i : Nat) | tp (ts : List Tgt)
mutual
def bindT : Tgt → D → DH → DSt → Option DSt
  | .nm i, d, _, σ => some (σ.set i (some d))
  | .tp ts, d, H, σ => match itemsD d H with | some xs => bindTs ts xs H σ | none => none
def bindTs : List Tgt → List D → DH → DSt → Option DSt
  | [], [], _, σ => some σ
  | t :: ts, x :: xs, H, σ => match bindT t x H σ with | some σ' => bindTs ts xs H σ' | none => none
  | _, _, _, _ => none
end
mutual
def tIds : Tgt → List Nat
  | .nm i => [i]
  | .tp ts => tsIds ts
def tsIds : List Tgt → List Nat
  | [] => []
  | t :: ts => tIds t ++ tsIds ts
end
/-- the slots outside vs are as they were -/
def Outs (vs : List Nat) (σ σ' : L2.St) : Prop := σ'.length = σ.length ∧ ∀ j, j ∉ vs → σ'[j]? = σ[j]?
theorem Outs.refl (vs : List Nat) (σ : L2.St) : Outs vs σ σ := ⟨rfl, fun _ _ => rfl⟩
theorem Outs.trans {vs : List Nat} {σ σ1 σ2 : L2.St} (a : Outs vs σ σ1) (b : Outs vs σ1 σ2) : Outs vs σ σ2 := ⟨b.1.trans a.1, fun j h => (b.2 j h).trans (a.2 j h)⟩
theorem Outs.mono {vs ws : List Nat} {σ σ' : L2.St} (h : ∀ j ∈ vs, j ∈ ws) (a : Outs vs σ σ') : Outs ws σ σ' := ⟨a.1, fun j n => a.2 j fun z => n (h j z)⟩
theorem wipe_get (σ : L2.St) (j : Nat) : ∀ vs : List Nat, (wipe σ vs)[j]? = if j ∈ vs ∧ j < σ.length then some none else σ[j]?
  | [] => by simp [wipe]
  | v :: vs => by
    show ((wipe σ vs).set v none)[j]? = _
    have ih := wipe_get σ j vs
    by_cases hv : v = j
    · subst hv
      by_cases hl : v < σ.length
      · rw [List.getElem?_set_self (by rw [wipe_length]; exact hl), if_pos ⟨by simp, hl⟩]
      · rw [List.getElem?_eq_none (by rw [List.length_set, wipe_length]; omega), if_neg (fun z => hl z.2), List.getElem?_eq_none (by omega)]
    · rw [List.getElem?_set_ne hv, ih]
      have : (j ∈ v :: vs) ↔ j ∈ vs := by simp [Ne.symm hv]
      simp only [this]
theorem Outs.wipe {vs : List Nat} {σ σ' : L2.St} (a : Outs vs σ σ') : L2.wipe σ' vs = L2.wipe σ vs := by
  refine List.ext_getElem? fun j => ?_
  rw [wipe_get, wipe_get, a.1]
  by_cases hj : j ∈ vs
  · by_cases hl : j < σ.length
    · rw [if_pos ⟨hj, hl⟩, if_pos ⟨hj, hl⟩]
    · rw [if_neg (fun z => hl z.2), if_neg (fun z => hl z.2), List.getElem?_eq_none (by have := a.1; omega), List.getElem?_eq_none (by have := a.1; omega)]
  · rw [if_neg (fun z => hj z.1), if_neg (fun z => hj z.1), a.2 j hj]
def wipeD (σ : DSt) : List Nat → DSt
  | [] => σ
  | v :: vs => (wipeD σ vs).set v none
theorem RSt.none_ {G : Cfg} {μ : Mu} {H : Hp} {σ : DSt} {σv : L2.St} (r : RSt G μ H σ σv) (i : Nat) : RSt G μ H (σ.set i none) (σv.set i none) := by
  refine ⟨by simpa using r.len, fun j x e => ?_⟩
  by_cases h : i = j
  · subst h
    by_cases hl : i < σ.length
    · rw [List.getElem?_set_self hl] at e; cases e
    · rw [List.getElem?_eq_none (by simpa using hl)] at e; cases e
  · rw [List.getElem?_set_ne h] at e
    obtain ⟨w, h1, h2⟩ := r.at_ j x e
    exact ⟨w, by rw [List.getElem?_set_ne h]; exact h1, h2⟩
theorem RSt.wipe {G : Cfg} {μ : Mu} {H : Hp} {σ : DSt} {σv : L2.St} (r : RSt G μ H σ σv) : ∀ vs : List Nat, RSt G μ H (wipeD σ vs) (L2.wipe σv vs)
  | [] => r
  | v :: vs => (RSt.wipe r vs).none_ v

section
variable (P : Program) (w : World) (G : Cfg) (μ0 : Mu) (H0 : Hp)
def liftG (t : Tgt) : TG := fun v σv H Q => ∃ μ σ Hd x σ', Stp μ0 H0 μ H ∧ RSt G μ H σ σv ∧ RHp P w G μ H Hd ∧ RD G μ H x v ∧ bindT t x Hd σ = some σ' ∧ ∀ σv', RSt G μ H σ' σv' → Outs (tIds t) σv σv' → Q σv' H
def liftGs (ts : List Tgt) : TGs := fun vs σv H Q => ∃ μ σ Hd xs σ', Stp μ0 H0 μ H ∧ RSt G μ H σ σv ∧ RHp P w G μ H Hd ∧ RDs G μ H xs vs ∧ bindTs ts xs Hd σ = some σ' ∧ ∀ σv', RSt G μ H σ' σv' → Outs (tsIds ts) σv σv' → Q σv' H
end
abbrev DTg (Y : Dx) (tg : Expr) (t : Tgt) : Prop := PG Y.X tg (liftG Y.X.prog Y.X.w Y.G Y.μ0 Y.H0 t)
abbrev DTgs (Y : Dx) (tgs : List Expr) (ts : List Tgt) : Prop := PGs Y.X tgs (liftGs Y.X.prog Y.X.w Y.G Y.μ0 Y.H0 ts)
section
variable {Y : Dx} {pos : Pos}
theorem outs_set {i : Nat} {σ : L2.St} {v : Option V} : Outs [i] σ (σ.set i v) := ⟨by simp, fun j hj => List.getElem?_set_ne (fun z => hj (by simp [z]))⟩
theorem dtg_name (i : Nat) {x : Str} (hN : Y.X.N.Nodup) (hi : Y.X.N[i]? = some x := by rfl) (hx : Loc Y.X.env.scope x := by first | exact Or.inl rfl | exact Or.inr rfl) (hf : Y.X.fn x = true ∨ Y.X.env.scope.names.lookup x = some .local := by first | exact .inl rfl | exact .inr rfl) :
    DTg Y (.Name x pos) (.nm i) := by
  refine ⟨fun pins s σv H v u Q I r h => ?_⟩
  obtain ⟨μ, σ, Hd, d, σ', st, rs, rh, rd, e, z⟩ := h
  simp only [bindT, Option.some.injEq] at e
  subst e
  exact (pg_name hN hi hx hf).run pins s σv H v u Q I r (z _ (rs.set i rd) outs_set)
theorem dtgs_nil : DTgs Y [] [] := by
  refine ⟨fun pins s σv H vs us Q I r h => ?_⟩
  obtain ⟨μ, σ, Hd, d, σ', st, rs, rh, rd, e, z⟩ := h
  cases rd with
  | nil =>
    cases r
    simp only [bindTs, Option.some.injEq] at e
    subst e
    exact assignInOrder_nil ⟨σv, H, I, z _ rs (Outs.refl _ _)⟩
  | cons _ _ => simp [bindTs] at e
theorem dtgs_cons {e : Expr} {es : List Expr} {t : Tgt} {ts : List Tgt} (h1 : DTg Y e t) (h2 : DTgs Y es ts)
    (hs : (assignEach (e :: es) Y.X.env).map (·.2) = assign e Y.X.env :: (assignEach es Y.X.env).map (·.2) := by rfl) : DTgs Y (e :: es) (t :: ts) := by
  refine ⟨fun pins s σv H vs us Q I r h => ?_⟩
  obtain ⟨μ, σ, Hd, d, σ', st, rs, rh, rd, e, z⟩ := h
  cases rd with
  | nil => simp [bindTs] at e
  | cons rd rds =>
    cases r with
    | cons r rr =>
      rw [hs]
      simp only [bindTs] at e
      split at e
      · rename_i σ1 e1
        refine assignInOrder_cons (thn (h1.run pins s σv H _ _ (fun σv' H' => H' = H ∧ RSt Y.G μ H σ1 σv' ∧ Outs (tIds t) σv σv') I r ⟨μ, σ, Hd, _, σ1, st, rs, rh, rd, e1, fun σv' rs' o => ⟨rfl, rs', o⟩⟩) fun _ s1 ⟨σv1, H1, I1, eH, rs1, o1⟩ => ?_)
        subst eH
        refine h2.run pins s1 σv1 H1 _ _ Q I1 rr ⟨μ, σ1, Hd, _, σ', st, rs1, rh, rds, e, fun σv' rs' o => z σv' rs' ?_⟩
        exact (o1.mono fun j hj => List.mem_append_left _ hj).trans (o.mono fun j hj => List.mem_append_right _ hj)
      · cases e
theorem dtg_tup {es : List Expr} {k : Nat} {ts : List Tgt} (hc : Y.X.calm = true) (h : DTgs Y es ts) (hl : (assignEach es Y.X.env).length = ts.length := by rfl) (hst : (assignEach es Y.X.env).findIdx? (·.1) = none := by rfl) :
    DTg Y (.Tuple es k pos) (.tp ts) := by
  have lens : ∀ (ts : List Tgt) (xs : List D) (H : DH) (σ σ' : DSt), bindTs ts xs H σ = some σ' → xs.length = ts.length := by
    intro ts
    induction ts with
    | nil => intro xs H σ σ' e; cases xs with | nil => rfl | cons _ _ => simp [bindTs] at e
    | cons t ts ih =>
      intro xs H σ σ' e
      cases xs with
      | nil => simp [bindTs] at e
      | cons x xs =>
        simp only [bindTs] at e
        split at e
        · simp [ih _ _ _ _ e]
        · cases e
  refine ⟨fun pins s σv H v u Q I r hw => ?_⟩
  obtain ⟨μ, σ, Hd, d, σ', st, rs, rh, rd, e, z⟩ := hw
  simp only [bindT] at e
  split at e
  · rename_i xs e1
    obtain ⟨a, vs, rfl, r3, hsq⟩ := items_V rh rd e1
    cases r
    have hlen := lens _ _ _ _ _ e
    rcases hsq with hsq | hsq
    · obtain ⟨its, rv, hp, hz⟩ := I.list (Y.hK ▸ hsq.1)
      have e2 : (assignEach es Y.X.env).length = its.toArray.size := by rw [hl, ← hlen, r3.length, rv.length]; simp
      rw [assign_Tuple]
      refine wpAny_bind (wpAny_standAt ?_)
      unfold unpack
      rw [e2, hst]
      refine wpAny_bind (wpAny_holding (PySem.W.kun_itemsOf (I.ok.hd hc) hp.isList fun h' hx => ?_))
      have I1 : Inv Y.X pins σv H { s with heap := h' } := I.kept (t' := s.toks) fun b o e => hx b o (Nat.ne_of_lt (Heap.lt_size e)) e
      exact h.run pins _ σv H vs _ Q I1 (by simpa using rv) ⟨μ, σ, Hd, xs, σ', st, rs, rh, r3, e, z⟩
    · obtain ⟨its, rv, ht, hz⟩ := I.tuple (Y.hK ▸ hsq.1)
      refine assign_Tuple_tuple (I.ok.hd hc) ht (by rw [hl, ← hlen, r3.length, rv.length]; simp) hst fun h' hx => ?_
      have I1 : Inv Y.X pins σv H { s with heap := h' } := I.kept (t' := s.toks) fun b o e => hx b o (Nat.ne_of_lt (Heap.lt_size e)) e
      exact h.run pins _ σv H vs _ Q I1 (by simpa using rv) ⟨μ, σ, Hd, xs, σ', st, rs, rh, r3, e, z⟩
  · cases e
end

/-! ### what is walked -/
inductive DIter where | st (xs : List D) | ls (l : Oid) | en (l : Oid)
def pairs (xs : List D) : List D := (List.range xs.length).map fun (i : Nat) => .tup [.int (i : Int), xs.getD i .non]
def DIter.at : DIter → DH → Option (List D)
  | .st xs, _ => some xs
  | .ls l, H => match H l with | some (.lst xs) => some xs | _ => none
  | .en l, H => match H l with | some (.lst xs) => some (pairs xs) | _ => none
structure DItOk (P : Program) (w : World) (G : Cfg) (J : It) (K : DIter) (μ0 : Mu) (H0 : Hp) : Prop where
  go : ∀ {i μ H Hd xs x}, Stp μ0 H0 μ H → RHp P w G μ H Hd → K.at Hd = some xs → xs[i]? = some x → J.go i H
  yld : ∀ {i μ H Hd xs x v H'}, Stp μ0 H0 μ H → RHp P w G μ H Hd → K.at Hd = some xs → xs[i]? = some x → J.yld i H v H' → Stp μ H μ H' ∧ RHp P w G μ H' Hd ∧ RD G μ H' x v
  stop : ∀ {i μ H Hd xs}, Stp μ0 H0 μ H → RHp P w G μ H Hd → K.at Hd = some xs → xs.length = i → J.stop i H
abbrev DTI := DSt → DH → (DIter → DH → Prop) → Prop
def liftI (P : Program) (w : World) (G : Cfg) (μ0 : Mu) (H0 : Hp) (T : DTI) : TI := fun σv H R => ∃ μ σ Hd Rd, Stp μ0 H0 μ H ∧ RSt G μ H σ σv ∧ RHp P w G μ H Hd ∧ T σ Hd Rd ∧
  ∀ J K Hd' H' μ', Rd K Hd' → Stp μ H μ' H' → RHp P w G μ' H' Hd' → DItOk P w G J K μ' H' → R J H'
abbrev DPI (Y : Dx) (tg iter : Expr) (T : DTI) : Prop := PI Y.X tg iter (liftI Y.X.prog Y.X.w Y.G Y.μ0 Y.H0 T)
/-- what a HandS's iterator's wish is made of: weaker wishes about the end -/
theorem PI.imp {X : Cx} {tg iter : Expr} {t t' : TI} (h : PI X tg iter t) (f : ∀ σ H R, t' σ H R → t σ H R) : PI X tg iter t' := ⟨fun pins s σ H R I q => h.run pins s σ H R I (f σ H R q)⟩
section
variable {P : Program} {w : World} {G : Cfg} {μ0 : Mu} {H0 : Hp}
theorem ito_range (lo : Int) (n : Nat) : DItOk P w G (Itr lo n) (.st ((List.range n).map fun (k : Nat) => D.int (lo + (k : Int)))) μ0 H0 where
  go := fun {i μ H Hd xs x} st rh e hx => by
    cases e
    have := (List.getElem?_eq_some_iff.mp hx).1
    show i < n
    simpa using this
  yld := fun {i μ H Hd xs x v H'} st rh e hx y => by
    cases e
    obtain ⟨rfl, rfl⟩ := y
    have h2 : i < n := by have := (List.getElem?_eq_some_iff.mp hx).1; simpa using this
    rw [List.getElem?_map, List.getElem?_range h2] at hx
    cases hx
    exact ⟨Stp.refl _ _, rh, .int _⟩
  stop := fun {i μ H Hd xs} st rh e hx => by
    cases e
    show n ≤ i
    have hx' : (List.range n).length = i := by simpa using hx
    simp at hx'
    omega
theorem sqT_det {K : PySem.W.Frag} {H : Hp} {a : Addr} {xs : List V} (h : SqT K H a xs) : True := trivial
/-- a tuple -/
theorem ito_tup {a : Addr} {xs : List D} {vs : List V} (h : SqT G.K H0 a vs) (r : RDs G μ0 H0 xs vs) : DItOk P w G (Itt G.K a) (.st xs) μ0 H0 where
  go := fun {i μ H Hd ys x} st rh e hx => by
    cases e
    obtain ⟨v, e1, r1⟩ := r.get hx
    exact ⟨vs, v, st.sqT h, e1⟩
  yld := fun {i μ H Hd ys x v H'} st rh e hx y => by
    cases e
    obtain ⟨rfl, y⟩ := y
    obtain ⟨v', e1, r1⟩ := r.get hx
    have := y vs (st.sqT h)
    rw [e1] at this; cases this
    exact ⟨Stp.refl _ _, rh, r1.step st⟩
  stop := fun {i μ H Hd ys} st rh e hx => by
    cases e
    exact ⟨vs, st.sqT h, by rw [← r.length]; exact Nat.le_of_eq hx⟩
/-- a list that nobody writes, or that has no name -/
theorem ito_rol {a : Addr} {xs : List D} {vs : List V} (h : ∀ {μ H}, Stp μ0 H0 μ H → SqL G.K H a vs) (r : RDs G μ0 H0 xs vs) : DItOk P w G (Itl G.K a) (.st xs) μ0 H0 where
  go := fun {i μ H Hd ys x} st rh e hx => by
    cases e
    obtain ⟨v, e1, r1⟩ := r.get hx
    exact ⟨vs, v, h st, e1⟩
  yld := fun {i μ H Hd ys x v H'} st rh e hx y => by
    cases e
    obtain ⟨rfl, y⟩ := y
    obtain ⟨v', e1, r1⟩ := r.get hx
    have := y vs (h st)
    rw [e1] at this; cases this
    exact ⟨Stp.refl _ _, rh, r1.step st⟩
  stop := fun {i μ H Hd ys} st rh e hx => by
    cases e
    exact ⟨vs, h st, by rw [← r.length]; exact Nat.le_of_eq hx⟩
/-- a list object as it stands -/
theorem ito_lst {l : Oid} {a : Addr} (hm : μ0 l = some a) : DItOk P w G (Itl G.K a) (.ls l) μ0 H0 := by
  have at_ : ∀ {μ H Hd xs}, Stp μ0 H0 μ H → RHp P w G μ H Hd → (DIter.ls l).at Hd = some xs → ∃ vs, H a = some (.lst vs) ∧ RDs G μ H xs vs := fun {μ H Hd xs} st rh e => by
    have e : (match Hd l with | some (.lst xs) => some xs | _ => none) = some xs := e
    split at e
    · rename_i ys h1
      cases e
      obtain ⟨a', h2, vs, h3, h4⟩ := rh.obj _ _ h1
      rw [st.mu _ _ hm] at h2; cases h2
      exact ⟨vs, h3, h4⟩
    · cases e
  refine ⟨fun {i μ H Hd ys x} st rh e hx => ?_, fun {i μ H Hd ys x v H'} st rh e hx y => ?_, fun {i μ H Hd ys} st rh e hx => ?_⟩
  · obtain ⟨vs, h3, h4⟩ := at_ st rh e
    obtain ⟨v, e1, r1⟩ := h4.get hx
    exact ⟨vs, v, .of h3, e1⟩
  · obtain ⟨vs, h3, h4⟩ := at_ st rh e
    obtain ⟨rfl, y⟩ := y
    obtain ⟨v', e1, r1⟩ := h4.get hx
    have := y vs (.of h3)
    rw [e1] at this; cases this
    exact ⟨Stp.refl _ _, rh, r1⟩
  · obtain ⟨vs, h3, h4⟩ := at_ st rh e
    exact ⟨vs, .of h3, by rw [← h4.length]; exact Nat.le_of_eq hx⟩
end
section
variable {Y : Dx} {tg : Expr}
def rangeD (lo : Int) (n : Nat) : List D := (List.range n).map fun (k : Nat) => D.int (lo + (k : Int))
def dRng1 (Ta : DTE) : DTI := fun σ H R => Ta σ H fun x H1 => match x with | .int j => (-(2 ^ 62) ≤ j ∧ j < 2 ^ 62) ∧ R (.st (rangeD 0 j.toNat)) H1 | _ => False
def dRng2 (Ta Tb : DTE) : DTI := fun σ H R => Ta σ H fun x H1 => Tb σ H1 fun y H2 => match x, y with | .int i, .int j => (-(2 ^ 62) ≤ i ∧ i < 2 ^ 62 ∧ -(2 ^ 62) ≤ j ∧ j < 2 ^ 62) ∧ R (.st (rangeD i (j - i).toNat)) H2 | _, _ => False
theorem dpi_range1 {a : Expr} {Ta : DTE} {p pos : Pos} (hg : Gl Y.X "range") (hm : Y.X.mg "range" = none) (ha : DE Y a Ta) (hs : starEach [a] Y.X.env = [(false, eval a Y.X.env)] := by rfl) : DPI Y tg (.Call (.Name "range" p) [a] [] pos) (dRng1 Ta) :=
  PI.imp (pi_range1 hg hm (pa_cons ha.pe pa_nil hs) hs) fun σv H R ⟨μ, σ, Hd, Rd, st, rs, rh, q, z⟩ => ⟨μ, σ, Hd, _, st, rs, rh, q, fun d Hd' v H' μ' q1 t1 rh1 d1 => by
    split at q1
    · cases d1
      exact ⟨_, rfl, q1.1.1, q1.1.2, z _ _ Hd' H' μ' q1.2 t1 rh1 (ito_range 0 _)⟩
    · exact q1.elim⟩
theorem dpi_range2 {a b : Expr} {Ta Tb : DTE} {p pos : Pos} (hg : Gl Y.X "range") (hm : Y.X.mg "range" = none) (ha : DE Y a Ta) (hb : DE Y b Tb) (hs : starEach [a, b] Y.X.env = [(false, eval a Y.X.env), (false, eval b Y.X.env)] := by rfl) (hs2 : starEach [b] Y.X.env = [(false, eval b Y.X.env)] := by rfl) :
    DPI Y tg (.Call (.Name "range" p) [a, b] [] pos) (dRng2 Ta Tb) :=
  PI.imp (pi_range2 hg hm (pa_cons ha.pe (pa_cons hb.pe pa_nil hs2) (by rw [hs, hs2])) hs hs2) fun σv H R ⟨μ, σ, Hd, Rd, st, rs, rh, q, z⟩ => ⟨μ, σ, Hd, _, st, rs, rh, q, fun d Hd' v H' μ' q1 t1 rh1 d1 =>
    ⟨μ', σ, Hd', _, st.trans t1, rs.step t1, rh1, q1, fun e Hd2 v2 H2 μ2 q2 t2 rh2 d2 => by
      split at q2
      · cases d1; cases d2
        exact ⟨_, _, rfl, q2.1, z _ _ Hd2 H2 μ2 q2.2 (t1.trans t2) rh2 (ito_range _ _)⟩
      · exact q2.elim⟩⟩
/-- a sequence by its value -/
def dSeq (Te : DTE) : DTI := fun σ H R => Te σ H fun x H1 => match x with
  | .ref i => (∃ xs, H1 i = some (.lst xs)) ∧ R (.ls i) H1
  | .rol xs => R (.st xs) H1
  | _ => False
theorem dpi_list {l : Expr} {Te : DTE} (hl : DE Y l Te) : DPI Y tg l (dSeq Te) :=
  PI.imp (pi_list hl.pe) fun σv H R ⟨μ, σ, Hd, Rd, st, rs, rh, q, z⟩ => ⟨μ, σ, Hd, _, st, rs, rh, q, fun d Hd' v H' μ' q1 t1 rh1 d1 => by
    split at q1
    · obtain ⟨⟨xs, h1⟩, q1⟩ := q1
      cases d1 with
      | ref h =>
        obtain ⟨a', h2, vs, h3, h4⟩ := rh1.obj _ _ h1
        rw [h] at h2; cases h2
        exact ⟨_, rfl, ⟨vs, .of h3⟩, Y.hK ▸ z _ _ Hd' H' μ' q1 t1 rh1 (ito_lst h)⟩
    · cases d1 with
      | rol h r => exact ⟨_, rfl, ⟨_, Y.hK ▸ h.sq⟩, Y.hK ▸ z _ _ Hd' H' μ' q1 t1 rh1 (ito_rol (fun t => (t.roL h).sq) r)⟩
    · exact q1.elim⟩
def dTupI (Te : DTE) : DTI := fun σ H R => Te σ H fun x H1 => match x with
  | .tup xs => R (.st xs) H1
  | _ => False
theorem dpi_tup {l : Expr} {Te : DTE} (hl : DE Y l Te) : DPI Y tg l (dTupI Te) :=
  PI.imp (pi_tup hl.pe) fun σv H R ⟨μ, σ, Hd, Rd, st, rs, rh, q, z⟩ => ⟨μ, σ, Hd, _, st, rs, rh, q, fun d Hd' v H' μ' q1 t1 rh1 d1 => by
    split at q1
    · cases d1 with
      | tup h r => exact ⟨_, rfl, ⟨_, Y.hK ▸ h⟩, Y.hK ▸ z _ _ Hd' H' μ' q1 t1 rh1 (ito_tup h r)⟩
    · exact q1.elim⟩
/-- a fresh list -/
def dFresh (T : DTA) : DTI := fun σ H R => T σ H fun ds H1 => R (.st ds) H1
theorem dpi_fresh {l : Expr} {T : DTA} (hl : DF Y l T) : DPI Y tg l (dFresh T) :=
  PI.imp (pi_list hl.pe) fun σv H R ⟨μ, σ, Hd, Rd, st, rs, rh, q, z⟩ => ⟨μ, σ, Hd, _, st, rs, rh, q, fun ds Hd' a vs H' μ' q1 t1 rh1 d1 h1 h2 =>
    ⟨a, rfl, ⟨vs, .of h1⟩, Y.hK ▸ z _ _ Hd' H' μ' q1 t1 rh1 (ito_rol (fun t => .of (t.frl h1 h2.2).1) d1)⟩⟩
end

/-! ### tests of a clause -/
structure DTs (Y : Dx) (ifs : List Expr) (T : DTT) : Prop where
  run : PTs Y.X ifs (liftT Y.X.prog Y.X.w Y.G Y.μ0 Y.H0 T)
def dYes : DTT := fun _ H Q => Q true H
theorem dts_nil {Y : Dx} : DTs Y [] dYes := ⟨⟨fun pins s σv H Q I ⟨μ, σ, Hd, Qd, st, rs, rh, q, z⟩ => pts_nil.run pins s σv H Q I (z _ _ H μ q (Stp.refl _ _) rh)⟩⟩
theorem dts_one {Y : Dx} {c : Expr} {T : DTT} (h : DT Y c T) : DTs Y [c] T := ⟨pts_one h.pt⟩

/-! ### comprehensions -/
/-- within a block -/
def Dx.blk (Y : Dx) (X' : Cx) (hp : X'.prog = Y.X.prog := by rfl) (hw : X'.w = Y.X.w := by rfl) (hk : X'.K = Y.X.K := by rfl) : Dx :=
  ⟨X', Y.G, Y.μ0, Y.H0, fun _ _ _ => False, Y.hK.trans hk.symm, fun u s' ⟨_, _, _, _, _, _, _, _, _, _, _, _, _, _, _, _, h⟩ => by obtain ⟨_, _, _, _, _, _, _, _, _, _, _, _, q⟩ := h; exact q.elim⟩
def dLc (wi : DTI) (t : Tgt) (tt : DTT) (te : DTE) (vs : List Nat) : DTA := fun σ H Q => wi σ H fun K H1 => ∃ (n : Nat) (I : Nat → List D → DH → Prop), n ≤ sizeLine ∧ I 0 [] H1 ∧
  (∀ i acc H, i < n → I i acc H → ∃ xs x σ2, K.at H = some xs ∧ xs.length = n ∧ xs[i]? = some x ∧ bindT t x H (wipeD σ vs) = some σ2 ∧ tt σ2 H fun b H3 => if b = true then te σ2 H3 fun y H4 => I (i + 1) (acc ++ [y]) H4 else I (i + 1) acc H3) ∧
  (∀ acc H, I n acc H → (∃ xs, K.at H = some xs ∧ xs.length = n) ∧ Q acc H)
section
variable {Y : Dx}
theorem lc_lift {wi : DTI} {t : Tgt} {tt : DTT} {te : DTE} {vs0 : List Nat} (hsub : ∀ j ∈ tIds t, j ∈ vs0) {σv : L2.St} {H : Hp} {μ : Mu} {σ : DSt} {Hd : DH} {Q : List D → DH → Prop} {Q' : VK}
    (st : Stp Y.μ0 Y.H0 μ H) (rs : RSt Y.G μ H σ σv) (rh : RHp Y.X.prog Y.X.w Y.G μ H Hd) (q : dLc wi t tt te vs0 σ Hd Q)
    (z : ∀ ds a vs H' μ' Hd', Q ds Hd' → H' a = some (.lst vs) → (H a = none ∧ ∀ j, μ' j ≠ some a) → Stp μ H μ' H' → RHp Y.X.prog Y.X.w Y.G μ' H' Hd' → RDs Y.G μ' H' ds vs → Q' (.ref a) H') :
    tLc (liftI Y.X.prog Y.X.w Y.G Y.μ0 Y.H0 wi) (liftG Y.X.prog Y.X.w Y.G Y.μ0 Y.H0 t) (liftT Y.X.prog Y.X.w Y.G Y.μ0 Y.H0 tt) (liftE Y.X.prog Y.X.w Y.G Y.μ0 Y.H0 te) vs0 σv H Q' := by
  refine ⟨μ, σ, Hd, _, st, rs, rh, q, fun J K Hd1 H1 μ1 q1 t1 rh1 it D hD => ?_⟩
  obtain ⟨n, Iv, hn, i0, step, fin⟩ := q1
  refine ⟨fun i m Hh => m = n - i ∧ i ≤ n ∧ ∃ acc vs μ2 Hd2, acc.length ≤ i ∧ Stp μ1 H1 μ2 Hh ∧ RHp Y.X.prog Y.X.w Y.G μ2 Hh Hd2 ∧ Hh D = some (.lst vs) ∧ (∀ j, μ2 j ≠ some D) ∧ RDs Y.G μ2 Hh acc vs ∧ Iv i acc Hd2, ⟨n, ?_⟩, ?_⟩
  · obtain ⟨t2, rh2⟩ := rh1.laid hD (.lst [])
    exact ⟨rfl, Nat.zero_le _, [], [], μ1, Hd1, Nat.le_refl _, t2, rh2, L2.upd_same, rh1.nobody hD, .nil, i0⟩
  · rintro i m Hh ⟨rfl, hi, acc, vs, μ2, Hd2, hl, t2, rh2, h1, h2, r2, iv⟩
    by_cases hlt : i < n
    · obtain ⟨xs, x, σ2, e1, e2, e3, e4, q2⟩ := step i acc Hd2 hlt iv
      refine .inr ⟨it.go t2 rh2 e1 e3, _, fun H' h => ⟨n - (i + 1), by omega, h⟩, fun v H' y => ?_⟩
      obtain ⟨t3, rh3, rx⟩ := it.yld t2 rh2 e1 e3 y
      have st3 := (t1.trans t2).trans t3
      obtain ⟨h1', h2'⟩ := t3.frl h1 h2
      refine ⟨μ2, wipeD σ vs0, Hd2, x, σ2, st.trans st3, (rs.step st3).wipe _, rh3, rx, e4, fun σv' rs' o => ⟨?_, ?_⟩⟩
      · have o' : Outs vs0 (L2.wipe σv vs0) σv' := o.mono hsub
        have w1 := o'.wipe
        have w2 : Outs vs0 σv (L2.wipe σv vs0) := ⟨wipe_length _ _, fun j hj => by rw [wipe_get, if_neg (fun z => hj z.1)]⟩
        exact w1.trans w2.wipe
      refine ⟨μ2, σ2, Hd2, _, st.trans st3, rs', rh3, q2, fun b Hd3 H3 μ3 q3 t4 rh4 => ?_⟩
      obtain ⟨h3, h4⟩ := t4.frl h1' h2'
      cases b with
      | false =>
        simp only [Bool.false_eq_true, if_false] at q3 ⊢
        exact ⟨trivial, hlt, acc, vs, μ3, Hd3, by omega, (t2.trans t3).trans t4, rh4, h3, h4, (r2.step t3).step t4, q3⟩
      | true =>
        simp only [if_true] at q3 ⊢
        refine ⟨μ3, σ2, Hd3, _, (st.trans st3).trans t4, rs'.step t4, rh4, q3, fun y Hd4 yv H4 μ4 q4 t5 rh5 ry => ?_⟩
        obtain ⟨h5, h6⟩ := t5.frl h3 h4
        have rv := ((r2.step t3).step t4).step t5
        have tt' := ((t2.trans t3).trans t4).trans t5
        have su : Stp0 μ4 H4 μ4 (L2.upd H4 D (.lst (vs ++ [yv]))) := stp0_upd (by rw [h5]; trivial)
        refine ⟨vs, h5, by rw [← rv.length]; omega, trivial, hlt, acc ++ [y], vs ++ [yv], μ4, Hd4, by simp; omega, tt'.setU hD (u0 := .lst vs) trivial h5, rh5.setU (u0 := .lst vs) trivial h5 h6, L2.upd_same, h6, (rv.step0 su).append (.cons (ry.step0 su) .nil), q4⟩
    · have e : i = n := by omega
      subst e
      obtain ⟨⟨xs, e1, e2⟩, q2⟩ := fin acc Hd2 iv
      exact .inl ⟨it.stop t2 rh2 e1 e2, z acc D vs Hh μ2 Hd2 q2 h1 ⟨t1.new hD, h2⟩ (t1.trans t2) rh2 r2⟩
theorem df_lc {elt tg iter : Expr} {ifs : List Expr} {scope : Scope} {own : List (Str × Nat)} {pos : Pos} {wi : DTI} {t : Tgt} {tt : DTT} {te : DTE} (hc : Y.X.calm = true) (hN : Y.X.N.Nodup) (hi : DPI Y tg iter wi) (ok : BlkOk Y.X.N Y.X.env.scope scope own)
    (hsub : ∀ j ∈ tIds t, j ∈ own.map (·.2))
    (hg : ∀ (s : Shared) (H : Hp) (C : Addr) (cl : List (Str × Addr)) (fp : List Addr), DTg (Y.blk (Y.X.blk s H scope (compEnvC scope cl C Y.X.env) fp)) tg t)
    (ht : ∀ (s : Shared) (H : Hp) (C : Addr) (cl : List (Str × Addr)) (fp : List Addr), DTs (Y.blk (Y.X.blk s H scope (compEnvC scope cl C Y.X.env) fp)) ifs tt)
    (he : ∀ (s : Shared) (H : Hp) (C : Addr) (cl : List (Str × Addr)) (fp : List Addr), DE (Y.blk (Y.X.blk s H scope (compEnvC scope cl C Y.X.env) fp)) elt te) (hs : ∀ x, foldedSetIterable iter Y.X.env x = pure x := by intro _; rfl) :
    DF Y (.ListComp elt [⟨tg, iter, ifs, 0⟩] scope pos) (dLc wi t tt te (own.map (·.2))) := by
  exact .of (pe_lc (g := liftG Y.X.prog Y.X.w Y.G Y.μ0 Y.H0 t) (tt := liftT Y.X.prog Y.X.w Y.G Y.μ0 Y.H0 tt) (te := liftE Y.X.prog Y.X.w Y.G Y.μ0 Y.H0 te) hc hN hi ok hg (fun s H C cl fp => (ht s H C cl fp).run) (fun s H C cl fp => (he s H C cl fp).pe) hs)
    fun pins s σv H μ σ Hd Q I q => lc_lift hsub I.st I.rs I.rh q fun ds a vs H' μ' Hd' q h1 h2 t rh r => ⟨ds, a, vs, μ', Hd', rfl, h1, h2, t, rh, r, q⟩

/-! ### all(.. for ..), any(..) -/
theorem RHp.tabbed {P : Program} {w : World} {G : Cfg} {μ : Mu} {H H' : Hp} {Hd : DH} {c p : Addr} (rh : RHp P w G μ H Hd) (hp : (c, p) ∈ G.cs) (t : GxR.Tabbed p H H') : Stp μ H μ H' ∧ RHp P w G μ H' Hd := by
  obtain ⟨tg, eq⟩ := t
  obtain ⟨ps, h1, _⟩ := rh.tab _ hp
  have ne : ∀ b u, H b = some u → (∀ q, u ≠ .tbl q) → b ≠ p := fun b u e q z => by subst z; rw [h1] at e; exact q ps (Option.some.inj e).symm
  have dom : ∀ b, H b ≠ none → H' b ≠ none := fun b h => by
    by_cases hb : b = p
    · subst hb; obtain ⟨qs, e, _⟩ := tg; rw [e]; exact fun z => by cases z
    · rw [eq b hb]; exact h
  have t0 : Stp μ H μ H' := ⟨⟨fun _ _ z => z, fun b xs z => by rw [eq b (ne b _ z fun q e => by cases e)]; exact z, fun b o u z => by rw [eq b (ne b _ z fun q e => by cases e)]; exact z⟩, dom,
    fun b o z kk n => ⟨by rw [eq b (ne b _ z kk)]; exact z, n⟩⟩
  refine ⟨t0, ⟨fun i o h => ?_, rh.inj, rh.nmd, rh.bnd, fun q hq => ?_, fun i a h => dom a (rh.there i a h)⟩⟩
  · obtain ⟨a, h2, r⟩ := rh.obj i o h
    have mu := r.tracked
    have na : a ≠ p := fun z => by subst z; rw [h1] at mu; exact mu
    exact ⟨a, h2, r.step0 t0.toStp0 fun u z => by rw [eq a na]; exact z⟩
  · by_cases hb : q.2 = p
    · rw [hb]; exact tg
    · obtain ⟨qs, e1, e2⟩ := rh.tab q hq
      exact ⟨qs, by rw [eq _ hb]; exact e1, e2⟩
def dGen (st : Bool) (wi : DTI) (t : Tgt) (tt : DTT) (te : DTE) (vs : List Nat) : DTE := fun σ H Q => wi σ H fun K H1 => ∃ (n : Nat) (I : Nat → DH → Prop), I 0 H1 ∧
  (∀ i H, i < n → I i H → ∃ xs x σ2, K.at H = some xs ∧ xs.length = n ∧ xs[i]? = some x ∧ bindT t x H (wipeD σ vs) = some σ2 ∧ tt σ2 H fun b H3 => if b = true then te σ2 H3 fun y H4 => (match y with
    | .bl k => if k = st then Q (.bl st) H4 else I (i + 1) H4
    | _ => False) else I (i + 1) H3) ∧
  (∀ H, I n H → (∃ xs, K.at H = some xs ∧ xs.length = n) ∧ Q (.bl (!st)) H)
theorem de_gen {wh : DG.Which} {c P : Addr} {elt tg iter : Expr} {ifs : List Expr} {p pos gpos : Pos} {scope : Scope} {own : List (Str × Nat)} {wi : DTI} {t : Tgt} {tt : DTT} {te : DTE} {k : Nat} {x : Str}
    (hr : Room (k + 1) Y.X.A) (hx : x = Str.ofString wh.id) (hgl : Gl Y.X x) (hm : Y.X.mg x = none) (TB : GxR.TabB Y.X.base Y.X.mg c P) (hcs : (c, P) ∈ Y.G.cs) (hcode : Y.X.env.code = .ref c) (S : DG.GenOk Y.X scope own) (hN : Y.X.N.Nodup) (hi : DPI Y tg iter wi)
    (hsub : ∀ j ∈ tIds t, j ∈ own.map (·.2))
    (hg : ∀ (s : Shared) (H : Hp) (C : Addr) (code : Value) (fp : List Addr) (A' : Around) (pn : List (Addr × Obj)), Room k A' → DTg (Y.blk (DG.genX Y.X s H (DG.genE Y.X scope C code) fp A' pn)) tg t)
    (ht : ∀ (s : Shared) (H : Hp) (C : Addr) (code : Value) (fp : List Addr) (A' : Around) (pn : List (Addr × Obj)), Room k A' → DTs (Y.blk (DG.genX Y.X s H (DG.genE Y.X scope C code) fp A' pn)) ifs tt)
    (he : ∀ (s : Shared) (H : Hp) (C : Addr) (code : Value) (fp : List Addr) (A' : Around) (pn : List (Addr × Obj)), Room k A' → DE (Y.blk (DG.genX Y.X s H (DG.genE Y.X scope C code) fp A' pn)) elt te)
    (hs : ∀ v, genFold iter Y.X.env v = pure v := by intro _; rfl)
    (hst : starEach [.GeneratorExp elt [⟨tg, iter, ifs, 0⟩] scope gpos] Y.X.env = (false, eval (.GeneratorExp elt [⟨tg, iter, ifs, 0⟩] scope gpos) Y.X.env) :: starEach [] Y.X.env := by rfl) :
    DE Y (.Call (.Name x p) [.GeneratorExp elt [⟨tg, iter, ifs, 0⟩] scope gpos] [] pos) (dGen wh.st wi t tt te (own.map (·.2))) := by
  refine .of (DG.pe_gen (wh := wh) (g := liftG Y.X.prog Y.X.w Y.G Y.μ0 Y.H0 t) (tt := liftT Y.X.prog Y.X.w Y.G Y.μ0 Y.H0 tt) (te := liftE Y.X.prog Y.X.w Y.G Y.μ0 Y.H0 te) hr hx hgl hm TB hcode S hN hi hg (fun s H C cd fp A' pn hr => (ht s H C cd fp A' pn hr).run) (fun s H C cd fp A' pn hr => (he s H C cd fp A' pn hr).pe) hs hst)
    fun pins s σv H μ σ Hd Q I q => ⟨μ, σ, Hd, _, I.st, I.rs, I.rh, q, fun J K Hd1 H1 μ1 q1 t1 rh1 it => ⟨rh1.tab _ hcs, fun H2 htab => ?_⟩⟩
  obtain ⟨n, Iv, i0, step, fin⟩ := q1
  obtain ⟨ta, rha⟩ := rh1.tabbed hcs htab
  refine ⟨fun i m Hh => m = n - i ∧ i ≤ n ∧ ∃ μ2 Hd2, Stp μ1 H1 μ2 Hh ∧ RHp Y.X.prog Y.X.w Y.G μ2 Hh Hd2 ∧ Iv i Hd2, ⟨n, by simp, Nat.zero_le _, μ1, Hd1, ta, rha, i0⟩, ?_⟩
  rintro i m Hh ⟨rfl, hi, μ2, Hd2, t2, rh2, iv⟩
  by_cases hlt : i < n
  · obtain ⟨xs, x, σ2, e1, e2, e3, e4, q2⟩ := step i Hd2 hlt iv
    refine .inr ⟨it.go t2 rh2 e1 e3, _, fun H' h => ⟨n - (i + 1), by omega, h⟩, fun v H' y => ?_⟩
    obtain ⟨t3, rh3, rx⟩ := it.yld t2 rh2 e1 e3 y
    have st3 := (t1.trans t2).trans t3
    refine ⟨μ2, wipeD σ (own.map (·.2)), Hd2, x, σ2, I.st.trans st3, (I.rs.step st3).wipe _, rh3, rx, e4, fun σv' rs' o => ⟨?_, ?_⟩⟩
    · have o' : Outs (own.map (·.2)) (L2.wipe σv (own.map (·.2))) σv' := o.mono hsub
      have w2 : Outs (own.map (·.2)) σv (L2.wipe σv (own.map (·.2))) := ⟨wipe_length _ _, fun j hj => by rw [wipe_get, if_neg (fun z => hj z.1)]⟩
      exact o'.wipe.trans w2.wipe
    refine ⟨μ2, σ2, Hd2, _, I.st.trans st3, rs', rh3, q2, fun b Hd3 H3 μ3 q3 t4 rh4 => ?_⟩
    cases b with
    | false =>
      simp only [Bool.false_eq_true, if_false] at q3 ⊢
      exact ⟨trivial, hlt, μ3, Hd3, (t2.trans t3).trans t4, rh4, q3⟩
    | true =>
      simp only [if_true] at q3 ⊢
      refine ⟨μ3, σ2, Hd3, _, (I.st.trans st3).trans t4, rs'.step t4, rh4, q3, fun y Hd4 yv H4 μ4 q4 t5 rh5 ry => ?_⟩
      split at q4
      · rename_i k
        cases ry
        have tt' := ((t2.trans t3).trans t4).trans t5
        refine ⟨k, rfl, fun e => ?_, fun e => ?_⟩
        · rw [if_pos e] at q4
          exact ⟨.bl wh.st, μ4, Hd4, t1.trans tt', rh5, .bl _, q4⟩
        · rw [if_neg e] at q4
          exact ⟨trivial, hlt, μ4, Hd4, tt', rh5, q4⟩
      · exact q4.elim
  · have e : i = n := by omega
    subst e
    obtain ⟨⟨xs, e1, e2⟩, q2⟩ := fin Hd2 iv
    exact .inl ⟨it.stop t2 rh2 e1 e2, .bl (!wh.st), μ2, Hd2, t1.trans t2, rh2, .bl _, q2⟩
end
end DL

/-! DL5: promises, calls, instances, statements, defs. -/
namespace DL
open PySem PySem.Spec
open PyProof.Rows L2

abbrev DSp := List D → DH → DVK → DXW → Prop
def spD (P : Program) (w : World) (G : Cfg) (n : Nat) (S : DSp) : Sp := fun vs H Q E => vs.length = n ∧ ∃ μ Hd ds Qd Wd, RHp P w G μ H Hd ∧ RDs G μ H ds vs ∧ S ds Hd Qd Wd ∧
  (∀ d Hd' v H' μ', Qd d Hd' → Stp μ H μ' H' → RHp P w G μ' H' Hd' → RD G μ' H' d v → Q v H') ∧
  (∀ c d Hd' a v H' μ', Wd c d Hd' → Stp μ H μ' H' → RHp P w G μ' H' Hd' → RD G μ' H' d v → H' a = some (.xd [("value", v)]) → E (.ref (G.cad c)) (some a) H')
/-- a def's promise -/
structure GFn (P : Program) (w : World) (K : PySem.W.Frag) (mg : Str → Option Value) (base : Heap) (G : Cfg) (f : Addr) (k n : Nat) (S : DSp) : Prop where
  ex : ∃ fd ps, ps.length = n ∧ FnOk P w K mg base (CX P w) k f fd ps (spD P w G n S) ∧ Binds K fd ps []
abbrev Dx.fn (Y : Dx) (f : Addr) (k n : Nat) (S : DSp) : Prop := GFn Y.X.prog Y.X.w Y.X.K Y.X.mg Y.X.base Y.G f k n S
/-- what this body wants of a callee's exception -/
def Dx.ex (Y : Dx) : XK := fun cls dx H => wxOf Y.X.prog Y.X.w Y.G Y.μ0 Y.H0 Y.W cls dx [] H
theorem Dx.passes (Y : Dx) : Passes (CX Y.X.prog Y.X.w) Y.X Y.ex := passes_call Y.tk fun _ _ _ _ h => h
/-- the promise at a call -/
theorem Dx.sp {Y : Dx} {n : Nat} {S : DSp} {μ : Mu} {H : Hp} {Hd : DH} {ds : List D} {vs : List V} {Qd : DVK} {Q : VK} (st : Stp Y.μ0 Y.H0 μ H) (rh : RHp Y.X.prog Y.X.w Y.G μ H Hd) (rd : RDs Y.G μ H ds vs) (hn : ds.length = n) (s : S ds Hd Qd Y.W)
    (z : ∀ d Hd' v H' μ', Qd d Hd' → Stp μ H μ' H' → RHp Y.X.prog Y.X.w Y.G μ' H' Hd' → RD Y.G μ' H' d v → Q v H') : spD Y.X.prog Y.X.w Y.G n S vs H Q Y.ex :=
  ⟨rd.length.symm.trans hn, μ, Hd, ds, Qd, Y.W, rh, rd, s, z, fun c d Hd' a v H' μ' q t rh' rd' e => ⟨c, d, a, v, μ', Hd', rfl, rfl, e, st.trans t, rh', rd', q⟩⟩
def dCall (n : Nat) (S : DSp) (W : DXW) (T : DTA) : DTE := fun σ H Q => T σ H fun ds H1 => ds.length = n ∧ S ds H1 Q W
section
variable {Y : Dx} {e o : Expr} {es : List Expr} {T : DTA} {Te To : DTE} {pos p apos : Pos} {x m : Str} {f : Addr} {j k n c : Nat} {S : DSp}
theorem de_call {W : DXW} (hW : Y.W = W) (F : Y.fn f k n S) (hr : Room j Y.X.A) (hm : Y.X.mg x = some (.ref f)) (hk : PySem.W.keepIn Y.X.K (.ref f) = true) (hg : Gl Y.X x) (ha : DA Y (e :: es) T) (hj : k ≤ j := by decide) (hdb : (x == ("__debug__" : Str)) = false := by decide)
    (he : starEach (e :: es) Y.X.env = (false, eval e Y.X.env) :: starEach es Y.X.env := by rfl) (hpl : (backTo pos (starEach es Y.X.env)).any (·.1) = false := by rfl) : DE Y (.Call (.Name x p) (e :: es) [] pos) (dCall n S W T) := by
  subst hW
  obtain ⟨fd, ps, hn, F, hb⟩ := F.ex
  exact .of (pe_call F (hr.mono hj) hg hm hk hb .nil Y.passes ha.pa hdb he hpl) fun pins s σv H μ σ Hd Q I q => ⟨μ, σ, Hd, _, I.st, I.rs, I.rh, q, fun ds Hd' vs H' μ' q1 t rh rd => by
    simp only [List.append_nil]
    exact Dx.sp (I.st.trans t) rh rd q1.1 q1.2 fun d Hd2 v H2 μ2 q2 t2 rh2 rd2 => ⟨d, μ2, Hd2, t.trans t2, rh2, rd2, q2⟩⟩
theorem de_call0 {W : DXW} (hW : Y.W = W) (F : Y.fn f k 0 S) (hr : Room j Y.X.A) (hm : Y.X.mg x = some (.ref f)) (hk : PySem.W.keepIn Y.X.K (.ref f) = true) (hg : Gl Y.X x) (hj : k ≤ j := by decide) (hdb : (x == ("__debug__" : Str)) = false := by decide) :
    DE Y (.Call (.Name x p) [] [] pos) (dCall 0 S W dNil) := by
  subst hW
  obtain ⟨fd, ps, hn, F, hb⟩ := F.ex
  exact .of (pe_call0 F (hr.mono hj) hg hm hk hb .nil Y.passes hdb) fun pins s σv H μ σ Hd Q I q =>
    Dx.sp I.st I.rh .nil rfl q.2 fun d Hd2 v H2 μ2 q2 t2 rh2 rd2 => ⟨d, μ2, Hd2, t2, rh2, rd2, q2⟩

/-! ### instances -/
def insOf (c : Nat) (x : D) (H : DH) : Option (List (Nat × D)) := match x with
  | .ref i => (match H i with | some (.ins c' fs) => if c' = c then some fs else none | _ => none)
  | _ => none
theorem ins_V {P : Program} {w : World} {G : Cfg} {μ : Mu} {H : Hp} {Hd : DH} {x : D} {v : V} {fs : List (Nat × D)} (rh : RHp P w G μ H Hd) (rd : RD G μ H x v) (e : insOf c x Hd = some fs) :
    ∃ i a dx fv, x = .ref i ∧ v = .ref a ∧ μ i = some a ∧ Hd i = some (.ins c fs) ∧ H a = some (.ins (G.cad c) dx fv) ∧ P2 (fun (p : Nat × D) (q : Str × V) => q.1 = G.fnm p.1 ∧ p.1 < G.nf ∧ RD G μ H p.2 q.2) fs fv := by
  cases rd with
  | @ref i a h =>
    have e : (match Hd i with | some (.ins c' fs) => if c' = c then some fs else none | _ => none) = some fs := e
    split at e
    · rename_i c' fs' h1
      split at e
      · rename_i hc
        cases e
        subst hc
        obtain ⟨a', h2, dx, fv, h3, h4⟩ := rh.obj _ _ h1
        rw [h] at h2; cases h2
        exact ⟨i, a, dx, fv, rfl, rfl, h, h1, h3, h4⟩
      · cases e
    · cases e
  | _ => cases e
def fldAt (fs : List (Nat × D)) (f : Nat) : Option D := fs.lookup f
theorem fld_V {G : Cfg} {R : D → V → Prop} {f : Nat} (hf : f < G.nf) : ∀ {fs : List (Nat × D)} {fv : List (Str × V)} , P2 (fun (p : Nat × D) (q : Str × V) => q.1 = G.fnm p.1 ∧ p.1 < G.nf ∧ R p.2 q.2) fs fv →
    (∀ d, fs.lookup f = some d → ∃ v, fv.lookup (G.fnm f) = some v ∧ R d v) ∧ (fs.lookup f = none → fv.lookup (G.fnm f) = none)
  | _, _, .nil => ⟨fun d h => (by cases h), fun _ => rfl⟩
  | _, _, .cons (a := p) (b := q) (as := r) (bs := t) h1 h2 => by
    obtain ⟨i1, i2⟩ := fld_V hf h2
    have eqv : (G.fnm f == q.1) = (f == p.1) := by
      rw [h1.1]
      by_cases h : f = p.1
      · subst h; simp
      · have : ¬ G.fnm f = G.fnm p.1 := fun z => h (G.inj _ _ hf h1.2.1 z)
        rw [beq_eq_false_iff_ne.mpr h, beq_eq_false_iff_ne.mpr this]
    obtain ⟨p1, p2⟩ := p
    obtain ⟨q1, q2⟩ := q
    dsimp only at eqv h1
    cases z : (f == p1) with
    | true =>
      have e1 : ((p1, p2) :: r).lookup f = some p2 := by rw [List.lookup_cons, z]
      have e2 : ((q1, q2) :: t).lookup (G.fnm f) = some q2 := by rw [List.lookup_cons, eqv, z]
      rw [e1, e2]
      exact ⟨fun d h => by cases h; exact ⟨q2, rfl, h1.2.2⟩, fun h => by cases h⟩
    | false =>
      have e1 : ((p1, p2) :: r).lookup f = r.lookup f := by rw [List.lookup_cons, z]
      have e2 : ((q1, q2) :: t).lookup (G.fnm f) = t.lookup (G.fnm f) := by rw [List.lookup_cons, eqv, z]
      rw [e1, e2]
      exact ⟨i1, i2⟩
/-- e.f -/
def dFld (c f : Nat) (Te : DTE) : DTE := fun σ H Q => Te σ H fun x H1 => match insOf c x H1 with | some fs => (match fs.lookup f with | some d => Q d H1 | none => False) | none => False
theorem de_fld {f : Nat} {fx : Str} (hcl : Cls Y.X.K (Y.G.cad c)) (hna : NoAttr Y.X.K (Y.G.cad c) fx) (he : DE Y e Te) (hf : f < Y.G.nf := by decide) (hfx : Y.G.fnm f = fx := by rfl) (hb : attributeBase e fx Y.X.env (eval e Y.X.env) = eval e Y.X.env := by rfl) : DE Y (.Attribute e fx pos) (dFld c f Te) :=
  .of (pe_fld he.pe hb) fun pins s σv H μ σ Hd Q I q => ⟨μ, σ, Hd, _, I.st, I.rs, I.rh, q, fun d Hd' v H' μ' q1 t rh rd => by
    split at q1
    · rename_i fs e1
      split at q1
      · rename_i d' e2
        obtain ⟨i, a, dx, fv, rfl, rfl, h1, h2, h3, h4⟩ := ins_V rh rd e1
        obtain ⟨w', e3, r3⟩ := (fld_V hf h4).1 _ e2
        exact ⟨a, _, dx, fv, w', rfl, h3, hcl, hna, hfx ▸ e3, d', μ', Hd', t, rh, r3, q1⟩
      · exact q1.elim
    · exact q1.elim⟩
def putD (f : Nat) (d : D) : List (Nat × D) → List (Nat × D)
  | [] => [(f, d)]
  | (g, x) :: r => if g = f then (g, d) :: r else (g, x) :: putD f d r
theorem put_V {G : Cfg} {R : D → V → Prop} {f : Nat} {d : D} {v : V} (hf : f < G.nf) (r : R d v) : ∀ {fs : List (Nat × D)} {fv : List (Str × V)} , P2 (fun (p : Nat × D) (q : Str × V) => q.1 = G.fnm p.1 ∧ p.1 < G.nf ∧ R p.2 q.2) fs fv →
    P2 (fun (p : Nat × D) (q : Str × V) => q.1 = G.fnm p.1 ∧ p.1 < G.nf ∧ R p.2 q.2) (putD f d fs) (putF (G.fnm f) v fv)
  | _, _, .nil => .cons ⟨rfl, hf, r⟩ .nil
  | _, _, .cons (a := p) (b := q) (as := s) (bs := t) h1 h2 => by
    obtain ⟨p1, p2⟩ := p
    obtain ⟨q1, q2⟩ := q
    obtain ⟨e1, e2, e3⟩ := h1
    dsimp only at e1 e2 e3
    subst e1
    unfold putD putF
    by_cases h : p1 = f
    · subst h
      rw [if_pos rfl, if_pos rfl]
      exact .cons ⟨rfl, e2, r⟩ h2
    · rw [if_neg h, if_neg (fun z => h (G.inj _ _ e2 hf z))]
      exact .cons ⟨rfl, e2, e3⟩ (put_V hf r h2)
/-- o.m(e, ..) -/
def dMeth (c : Nat) (n : Nat) (S : DSp) (W : DXW) (To : DTE) (T : DTA) : DTE := fun σ H Q => To σ H fun x H1 => insOf c x H1 ≠ none ∧ T σ H1 fun ds H2 => ds.length + 1 = n ∧ S (x :: ds) H2 Q W
theorem nofld {G : Cfg} {R : D → V → Prop} {m : Str} (hm : ∀ i, i < G.nf → G.fnm i ≠ m) : ∀ {fs : List (Nat × D)} {fv : List (Str × V)} , P2 (fun (p : Nat × D) (q : Str × V) => q.1 = G.fnm p.1 ∧ p.1 < G.nf ∧ R p.2 q.2) fs fv → fv.lookup m = none
  | _, _, .nil => rfl
  | _, _, .cons (a := p) (b := q) (as := s) (bs := t) h1 h2 => by
    obtain ⟨q1, q2⟩ := q
    rw [List.lookup_cons]
    have : (m == q1) = false := beq_eq_false_iff_ne.mpr fun z => hm p.1 h1.2.1 (by rw [z]; exact h1.1.symm)
    rw [this]
    exact nofld hm h2
theorem de_meth {W : DXW} (hW : Y.W = W) {pl : Sem Bool} (hcl : Cls Y.X.K (Y.G.cad c)) (hM : Meth Y.X.K (Y.G.cad c) m f) (hnf : ∀ i, i < Y.G.nf → Y.G.fnm i ≠ m) (F : Y.fn f k n S) (hr : Room j Y.X.A) (ho : DE Y o To) (ha : DA Y (e :: es) T) (hj : k ≤ j := by decide)
    (hst : starEach (e :: es) Y.X.env = (false, eval e Y.X.env) :: starEach es Y.X.env := by rfl) (hpl : (backTo pos (starEach es Y.X.env)).any (·.1) = false := by rfl)
    (ht : eval (.Call (.Attribute o m apos) (e :: es) [] pos) Y.X.env = (do
      let ov ← eval o Y.X.env
      standAt apos.atName
      let (f, first) ← holding [ov] (getMethod ov m pl)
      callWith pos f first (backTo pos (starEach (e :: es) Y.X.env)) (backToKw pos (keywordEach [] Y.X.env))) := by rfl) :
    DE Y (.Call (.Attribute o m apos) (e :: es) [] pos) (dMeth c n S W To T) := by
  subst hW
  obtain ⟨fd, ps, hn, F, hb⟩ := F.ex
  exact .of (pe_meth (pl := pl) ho.pe hcl hM F (hr.mono hj) hb .nil Y.passes ha.pa hst hpl ht) fun pins s σv H μ σ Hd Q I q => ⟨μ, σ, Hd, _, I.st, I.rs, I.rh, q, fun d Hd' v H' μ' ⟨q0, q1⟩ t rh rd => by
    cases e1 : insOf c d Hd' with
    | none => exact absurd e1 q0
    | some fs =>
      obtain ⟨i, a, dx, fv, rfl, rfl, h1, h2, h3, h4⟩ := ins_V rh rd e1
      refine ⟨a, dx, fv, rfl, h3, nofld hnf h4, μ', σ, Hd', _, I.st.trans t, I.rs.step t, rh, q1, fun ds Hd2 vs H2 μ2 q2 t2 rh2 rd2 => ?_⟩
      simp only [List.append_nil]
      exact Dx.sp ((I.st.trans t).trans t2) rh2 (.cons (rd.step t2) rd2) q2.1 q2.2 fun d3 Hd3 v3 H3 μ3 q3 t3 rh3 rd3 => ⟨d3, μ3, Hd3, (t.trans t2).trans t3, rh3, rd3, q3⟩⟩
theorem de_meth0 {W : DXW} (hW : Y.W = W) {pl : Sem Bool} (hcl : Cls Y.X.K (Y.G.cad c)) (hM : Meth Y.X.K (Y.G.cad c) m f) (hnf : ∀ i, i < Y.G.nf → Y.G.fnm i ≠ m) (F : Y.fn f k n S) (hr : Room j Y.X.A) (ho : DE Y o To) (hj : k ≤ j := by decide)
    (ht : eval (.Call (.Attribute o m apos) [] [] pos) Y.X.env = (do
      let ov ← eval o Y.X.env
      standAt apos.atName
      let (f, first) ← holding [ov] (getMethod ov m pl)
      callWith pos f first (backTo pos (starEach [] Y.X.env)) (backToKw pos (keywordEach [] Y.X.env))) := by rfl) :
    DE Y (.Call (.Attribute o m apos) [] [] pos) (dMeth c n S W To dNil) := by
  subst hW
  obtain ⟨fd, ps, hn, F, hb⟩ := F.ex
  exact .of (pe_meth0 (pl := pl) ho.pe hcl hM F (hr.mono hj) hb .nil Y.passes ht) fun pins s σv H μ σ Hd Q I q => ⟨μ, σ, Hd, _, I.st, I.rs, I.rh, q, fun d Hd' v H' μ' ⟨q0, q1⟩ t rh rd => by
    cases e1 : insOf c d Hd' with
    | none => exact absurd e1 q0
    | some fs =>
      obtain ⟨i, a, dx, fv, rfl, rfl, h1, h2, h3, h4⟩ := ins_V rh rd e1
      refine ⟨a, dx, fv, rfl, h3, nofld hnf h4, ?_⟩
      exact Dx.sp (I.st.trans t) rh (.cons rd .nil) q1.1 q1.2 fun d3 Hd3 v3 H3 μ3 q3 t3 rh3 rd3 => ⟨d3, μ3, Hd3, t.trans t3, rh3, rd3, q3⟩⟩
/-- a property -/
def dProp (c : Nat) (S : DSp) (Te : DTE) : DTE := fun σ H Q => Te σ H fun x H1 => insOf c x H1 ≠ none ∧ S [x] H1 Q (fun _ _ _ => False)
theorem de_prop {fx : Str} {pa : Addr} (hcl : Cls Y.X.K (Y.G.cad c)) (hp : PropOf Y.X.K (Y.G.cad c) fx pa f) (F : Y.fn f k 1 S) (hr : Room j Y.X.A) (he : DE Y e Te) (hj : k + 1 ≤ j := by decide) (hb : attributeBase e fx Y.X.env (eval e Y.X.env) = eval e Y.X.env := by rfl) :
    DE Y (.Attribute e fx pos) (dProp c S Te) := by
  obtain ⟨fd, ps, hn, F, hbi⟩ := F.ex
  refine .of (pe_prop he.pe hcl hp F (hr.mono hj) hbi .nil (E := fun _ _ _ => False) (fun pins σ H s er s' I hx => ?_) hb) fun pins s σv H μ σ Hd Q I q => ⟨μ, σ, Hd, _, I.st, I.rs, I.rh, q, fun d Hd' v H' μ' ⟨q0, q1⟩ t rh rd => ?_⟩
  · obtain ⟨_, _, _, _, _, _, _, _, _, _, _, _, z⟩ := hx
    exact z.elim
  · cases e1 : insOf c d Hd' with
    | none => exact absurd e1 q0
    | some fs =>
      obtain ⟨i, a, dx, fv, rfl, rfl, h1, h2, h3, h4⟩ := ins_V rh rd e1
      exact ⟨a, dx, fv, rfl, h3, rfl, μ', Hd', [_], _, _, rh, .cons rd .nil, q1, fun d3 Hd3 v3 H3 μ3 q3 t3 rh3 rd3 => ⟨d3, μ3, Hd3, t.trans t3, rh3, rd3, q3⟩, fun c d Hd' a v H' μ' z => z.elim⟩
/-- len(o), o an instance with __len__ -/
theorem de_lenO {ox : Str} (hx : ox = "len") (hm0 : Y.X.mg "len" = none) (hg : Gl Y.X "len") (hcl : Cls Y.X.K (Y.G.cad c)) (hs : PySem.W.findIn Y.X.K (.ref (Y.G.cad c)) "__len__" = some (some (.ref f))) (hfn : PySem.W.isFn Y.X.K (.ref f) = true)
    (F : Y.fn f k 1 S) (hr : Room j Y.X.A) (he : DE Y e Te) (hj : k + 1 ≤ j := by decide)
    (hst : starEach [e] Y.X.env = (false, eval e Y.X.env) :: starEach [] Y.X.env := by rfl) :
    DE Y (.Call (.Name ox p) [e] [] pos) (fun σ H Q => Te σ H fun x H1 => insOf c x H1 ≠ none ∧ S [x] H1 (fun d H2 => match d with | .int i => (0 ≤ i ∧ i < 2 ^ 63) ∧ Q (.int i) H2 | _ => False) (fun _ _ _ => False)) := by
  subst hx
  obtain ⟨fd, ps, hn, F, hbi⟩ := F.ex
  refine ⟨fun pins s σv H μ σ Hd Q I q => ?_⟩
  refine wpAny_Call_Name_kw (ld_blt I.inv hg hm0 boot_len ?_ (by decide) (by decide))
  refine PyProof.Rows.callWith_builtin1 ?_ hst (by rfl)
  rw [hst]
  show wpAny _ _ (spliced ((false, eval e Y.X.env) :: backTo pos (starEach [] Y.X.env))) _ _ s
  refine Calls.spliced_cons (thn (he.run pins s σv H μ σ Hd _ I q) fun u s1 ⟨d, v, H1, μ1, Hd1, I1, t1, r1, d1, q0, q1⟩ => Calls.spliced_nil ?_)
  cases e1 : insOf c d Hd1 with
  | none => exact absurd e1 q0
  | some fs =>
    obtain ⟨i, a, dx, fv, rfl, rfl, h1, h2, h3, h4⟩ := ins_V I1.rh d1 e1
    cases r1
    obtain ⟨mA, O, _, _, _, _⟩ := ins_get I1.inv.hok h3
    obtain ⟨od, J, _⟩ := O.look
    obtain ⟨m, FF⟩ := I1.inv.fr
    have hrj := hr.mono hj
    have hl : ([Value.ref a] ++ ([] : List Value)).length = ps.length := by rw [hn]; rfl
    refine PySem.W.len_K FF I1.inv.ok.mod.kin J hs hfn (wpAny_call (codeAny_mono (F.run Y.X.A.in1 Y.X.stack s1 H1 ⟨[.ref a], []⟩ [.ref a] [.ref a] (fun v H' => ∃ i μ' Hd', v = .int i ∧ (0 ≤ i ∧ i < 2 ^ 63) ∧ Stp μ1 H1 μ' H' ∧ RHp Y.X.prog Y.X.w Y.G μ' H' Hd' ∧ Q (.int i) Hd') (fun _ _ _ => False) hrj.in1 I1.inv.env0.in1 (hbi _ [.ref a] I1.inv.kIn hl) (.cons rfl .nil)
      ⟨rfl, μ1, Hd1, [_], _, _, I1.rh, .cons d1 .nil, q1, fun d3 Hd3 v3 H3 μ3 q3 t3 rh3 rd3 => ?_, fun c d Hd' a v H' μ' z => z.elim⟩) fun r s' hq => ?_))
    · split at q3
      · cases rd3
        exact ⟨_, μ3, Hd3, rfl, q3.1, t3, rh3, q3.2⟩
      · exact q3.elim
    · cases r with
      | error er =>
        obtain ⟨_, _, _, _, _, _, _, _, _, _, _, _, z⟩ := hq
        exact z.elim
      | ok fl =>
        cases fl with
        | ret u =>
          obtain ⟨v, H', I3, rv, i, μ', Hd', rfl, hi, t3, rh3, q3⟩ := I1.inv.after hq
          obtain ⟨t, rfl⟩ := rv
          exact ⟨hi, .int i, .int i, H', μ', Hd', I.to (I3.tok _) (t1.trans t3) rh3, t1.trans t3, ⟨_, rfl⟩, .int i, q3⟩
        | next => exact False.elim hq
        | brk => exact False.elim hq
        | cont => exact False.elim hq
end
end DL

/-! DL6: making instances, keyword calls, statements, loops, defs. -/
namespace DL
open PySem PySem.Spec
open PyProof.Rows L2

section
variable {Y : Dx} {e o : Expr} {es : List Expr} {T : DTA} {Te To : DTE} {pos p apos kpos : Pos} {x m : Str} {f : Addr} {j k n c : Nat} {S : DSp}
/-- C(e, ..) -/
def dMake (c n : Nat) (S : DSp) (W : DXW) (T : DTA) : DTE := fun σ H Q => T σ H fun ds H1 => newO H1 (.ins c []) fun i H2 => ds.length + 1 = n ∧ S (.ref i :: ds) H2 (fun d H3 => (match d with | .non => Q (.ref i) H3 | _ => False)) W
theorem make_lift {Q : DVK} {Q' : VK} {μ μ1 : Mu} {H H1 : Hp} {Hd1 : DH} {ds : List D} {vs : List V} (st : Stp Y.μ0 Y.H0 μ H) (t : Stp μ H μ1 H1) (rh : RHp Y.X.prog Y.X.w Y.G μ1 H1 Hd1) (rd : RDs Y.G μ1 H1 ds vs)
    (q : newO Hd1 (.ins c []) fun i H2 => ds.length + 1 = n ∧ S (.ref i :: ds) H2 (fun d H3 => (match d with | .non => Q (.ref i) H3 | _ => False)) Y.W)
    (z : ∀ d v H' μ' Hd', Q d Hd' → Stp μ H μ' H' → RHp Y.X.prog Y.X.w Y.G μ' H' Hd' → RD Y.G μ' H' d v → Q' v H') :
    ∀ x dx, H1 x = none → H1 dx = none → dx ≠ x → spD Y.X.prog Y.X.w Y.G n S (.ref x :: vs) (L2.upd (L2.upd H1 dx (.own x)) x (.ins (Y.G.cad c) dx [])) (fun v H2 => v = .non ∧ Q' (.ref x) H2) Y.ex := by
  intro x dx hx hdx hne
  obtain ⟨t2, rh2⟩ := rh.laid hdx (.own x)
  have hx2 : L2.upd H1 dx (.own x) x = none := by rw [L2.upd_ne (Ne.symm hne)]; exact hx
  obtain ⟨t3, rh3⟩ := rh2.laid hx2 (.ins (Y.G.cad c) dx [])
  obtain ⟨i, t4, t5, rh4, hl, q4⟩ := rh3.newO (o := .ins c []) ((t.trans t2).trans t3) (t.new hx) q (by rw [L2.upd_same]; exact fun z => by cases z) (rh2.nobody hx2) fun i _ => ⟨dx, [], L2.upd_same, .nil⟩
  refine Dx.sp (st.trans t4) rh4 (.cons (.ref muSet_same) (((rd.step t2).step t3).step0 t5)) (by rw [List.length_cons]; exact hl) q4 fun d Hd' v H' μ' q5 t6 rh6 rd6 => ?_
  split at q5
  · cases rd6
    exact ⟨rfl, z _ _ H' μ' Hd' q5 (t4.trans t6) rh6 (.ref (t6.mu _ _ muSet_same))⟩
  · exact q5.elim
theorem de_make {W : DXW} (hW : Y.W = W) (M : Mk Y.X.K (Y.G.cad c) f) (F : Y.fn f k n S) (hr : Room j Y.X.A) (hm : Y.X.mg x = some (.ref (Y.G.cad c))) (hg : Gl Y.X x) (ha : DA Y (e :: es) T) (hj : k + 1 ≤ j := by decide) (hdb : (x == ("__debug__" : Str)) = false := by decide)
    (he : starEach (e :: es) Y.X.env = (false, eval e Y.X.env) :: starEach es Y.X.env := by rfl) (hpl : (backTo pos (starEach es Y.X.env)).any (·.1) = false := by rfl) : DE Y (.Call (.Name x p) (e :: es) [] pos) (dMake c n S W T) := by
  subst hW
  obtain ⟨fd, ps, hn, F, hb⟩ := F.ex
  exact .of (pe_make M F (hr.mono hj) hg hm hb .nil Y.passes ha.pa hdb he hpl) fun pins s σv H μ σ Hd Q I q => ⟨μ, σ, Hd, _, I.st, I.rs, I.rh, q, fun ds Hd' vs H' μ' q1 t rh rd => by
    simp only [List.append_nil]
    exact make_lift (Q' := fun v H' => ∃ d μ' Hd', Stp μ H μ' H' ∧ RHp Y.X.prog Y.X.w Y.G μ' H' Hd' ∧ RD Y.G μ' H' d v ∧ Q d Hd') I.st t rh rd q1 fun d v H2 μ2 Hd2 q2 t2 rh2 rd2 => ⟨d, μ2, Hd2, t2, rh2, rd2, q2⟩⟩
theorem de_make0 {W : DXW} (hW : Y.W = W) (M : Mk Y.X.K (Y.G.cad c) f) (F : Y.fn f k 1 S) (hr : Room j Y.X.A) (hm : Y.X.mg x = some (.ref (Y.G.cad c))) (hg : Gl Y.X x) (hj : k + 1 ≤ j := by decide) (hdb : (x == ("__debug__" : Str)) = false := by decide) :
    DE Y (.Call (.Name x p) [] [] pos) (dMake c 1 S W dNil) := by
  subst hW
  obtain ⟨fd, ps, hn, F, hb⟩ := F.ex
  exact .of (pe_make0 M F (hr.mono hj) hg hm hb .nil Y.passes hdb) fun pins s σv H μ σ Hd Q I q =>
    make_lift (Q' := fun v H' => ∃ d μ' Hd', Stp μ H μ' H' ∧ RHp Y.X.prog Y.X.w Y.G μ' H' Hd' ∧ RD Y.G μ' H' d v ∧ Q d Hd') I.st (Stp.refl _ _) I.rh .nil q fun d v H2 μ2 Hd2 q2 t2 rh2 rd2 => ⟨d, μ2, Hd2, t2, rh2, rd2, q2⟩

/-! ### keywords -/
structure DK (Y : Dx) (kws : List Keyword) (T : DTA) : Prop where
  run : PK Y.X kws (liftA Y.X.prog Y.X.w Y.G Y.μ0 Y.H0 T)
theorem dk_nil : DK Y [] dNil := ⟨⟨fun pos pins s σv H Q I ⟨μ, σ, Hd, Qd, st, rs, rh, q, z⟩ => pk_nil.run pos pins s σv H Q I (z _ _ _ H μ q (Stp.refl _ _) rh .nil)⟩⟩
theorem dk_cons {nm : Option Str} {kws : List Keyword} (ha : DE Y e Te) (hr : DK Y kws T) : DK Y (⟨nm, e, kpos⟩ :: kws) (dCons Te T) :=
  ⟨⟨fun pos pins s σv H Q I ⟨μ, σ, Hd, Qd, st, rs, rh, q, z⟩ => (pk_cons ha.pe hr.run).run pos pins s σv H Q I ⟨μ, σ, Hd, _, st, rs, rh, q, fun d Hd1 v H1 μ1 q1 t1 rh1 rd1 =>
    ⟨μ1, σ, Hd1, _, st.trans t1, rs.step t1, rh1, q1, fun ds Hd2 vs H2 μ2 q2 t2 rh2 rd2 => z _ Hd2 _ H2 μ2 q2 (t1.trans t2) rh2 (.cons (rd1.step t2) rd2)⟩⟩⟩⟩
/-- how keywords bind: one permutation of values, whatever they are -/
structure KPerm (K : PySem.W.Frag) (fd : FuncData) (ps : List Str) (n : Nat) (ks : List Str) (g : {α : Type} → List α → List α → List α) : Prop where
  to : ∀ (s : Shared) (us ws : List Value), K.In s.heap → us.length = n → ws.length = ks.length → BindsTo s fd ⟨us, ks.zip ws⟩ (ps.zip (g us ws))
  rel : ∀ {vs : List V} {us : List Value} {zs : List V} {ws : List Value}, Vals vs us → Vals zs ws → Vals (g vs zs) (g us ws)
  rd : ∀ {G : Cfg} {μ : Mu} {H : Hp} {as : List D} {vs : List V} {bs : List D} {zs : List V}, RDs G μ H as vs → RDs G μ H bs zs → RDs G μ H (g as bs) (g vs zs)
structure GFnK (P : Program) (w : World) (K : PySem.W.Frag) (mg : Str → Option Value) (base : Heap) (G : Cfg) (f : Addr) (k n : Nat) (S : DSp) (a : Nat) (ks : List Str) (g : {α : Type} → List α → List α → List α) : Prop where
  ex : ∃ fd ps, ps.length = n ∧ FnOk P w K mg base (CX P w) k f fd ps (spD P w G n S) ∧ KPerm K fd ps a ks g
/-- C(k = v, ..) -/
theorem de_makeK {W : DXW} (hW : Y.W = W) {kws : List Keyword} {ks : List Str} {g : {α : Type} → List α → List α → List α} (hgl : ∀ (i : D) (ds : List D), ∃ es, g [i] ds = i :: es) (hgV : ∀ (i : V) (ds : List V), ∃ es, g [i] ds = i :: es) (M : Mk Y.X.K (Y.G.cad c) f) (F : GFnK Y.X.prog Y.X.w Y.X.K Y.X.mg Y.X.base Y.G f k n S 1 ks g) (hr : Room j Y.X.A)
    (hm : Y.X.mg x = some (.ref (Y.G.cad c))) (hg : Gl Y.X x) (ha : DK Y kws T) (hj : k + 1 ≤ j := by decide)
    (hall : (backToKw pos (keywordEach kws Y.X.env)).all (·.1.isSome) = true := by rfl) (hks : (backToKw pos (keywordEach kws Y.X.env)).filterMap (·.1) = ks := by rfl) (hdb : (x == ("__debug__" : Str)) = false := by decide)
    (hpl : ((backTo pos (starEach [] Y.X.env)).any (·.1) || (backToKw pos (keywordEach kws Y.X.env)).any (·.1.isNone)) = false := by rfl) :
    DE Y (.Call (.Name x p) [] kws pos) (fun σ H Q => T σ H fun ds H1 => ds.length = ks.length ∧ newO H1 (.ins c []) fun i H2 => (g [.ref i] ds).length = n ∧ S (g [.ref i] ds) H2 (fun d H3 => (match d with | .non => Q (.ref i) H3 | _ => False)) W) := by
  subst hW
  obtain ⟨fd, ps, hn, F, hb⟩ := F.ex
  refine .of (pe_makeK0 M F (hr.mono hj) hg hm (gV := g) (g := g) ⟨hb.to, hb.rel⟩ Y.passes ha.run hall hks hdb hpl) fun pins s σv H μ σ Hd Q I q => ⟨μ, σ, Hd, _, I.st, I.rs, I.rh, q, fun ds Hd' vs H' μ' ⟨q0, q1⟩ t rh rd => ?_⟩
  refine ⟨rfl, by rw [← rd.length]; exact q0, fun x dx hx hdx hne => ?_⟩
  obtain ⟨t2, rh2⟩ := rh.laid hdx (.own x)
  have hx2 : L2.upd H' dx (.own x) x = none := by rw [L2.upd_ne (Ne.symm hne)]; exact hx
  obtain ⟨t3, rh3⟩ := rh2.laid hx2 (.ins (Y.G.cad c) dx [])
  obtain ⟨i, t4, t5, rh4, hl, q4⟩ := rh3.newO (o := .ins c []) ((t.trans t2).trans t3) (t.new hx) q1 (by rw [L2.upd_same]; exact fun z => by cases z) (rh2.nobody hx2) fun i _ => ⟨dx, [], L2.upd_same, .nil⟩
  refine Dx.sp (I.st.trans t4) rh4 (hb.rd (.cons (.ref muSet_same) .nil) (((rd.step t2).step t3).step0 t5)) hl q4 fun d Hd' v H' μ' q5 t6 rh6 rd6 => ?_
  split at q5
  · cases rd6
    exact ⟨rfl, _, μ', Hd', t4.trans t6, rh6, .ref (t6.mu _ _ muSet_same), q5⟩
  · exact q5.elim
/-- o.m(k = v, ..) -/
theorem de_methK {W : DXW} (hW : Y.W = W) {pl : Sem Bool} {kws : List Keyword} {ks : List Str} {g : {α : Type} → List α → List α → List α} (hcl : Cls Y.X.K (Y.G.cad c)) (hM : Meth Y.X.K (Y.G.cad c) m f) (hnf : ∀ i, i < Y.G.nf → Y.G.fnm i ≠ m) (F : GFnK Y.X.prog Y.X.w Y.X.K Y.X.mg Y.X.base Y.G f k n S 1 ks g) (hr : Room j Y.X.A) (ho : DE Y o To)
    (ha : DK Y kws T) (hj : k ≤ j := by decide)
    (hall : (backToKw pos (keywordEach kws Y.X.env)).all (·.1.isSome) = true := by rfl) (hks : (backToKw pos (keywordEach kws Y.X.env)).filterMap (·.1) = ks := by rfl)
    (hpl : ((backTo pos (starEach [] Y.X.env)).any (·.1) || (backToKw pos (keywordEach kws Y.X.env)).any (·.1.isNone)) = false := by rfl)
    (ht : eval (.Call (.Attribute o m apos) [] kws pos) Y.X.env = (do
      let ov ← eval o Y.X.env
      standAt apos.atName
      let (f, first) ← holding [ov] (getMethod ov m pl)
      callWith pos f first (backTo pos (starEach [] Y.X.env)) (backToKw pos (keywordEach kws Y.X.env))) := by rfl) :
    DE Y (.Call (.Attribute o m apos) [] kws pos) (fun σ H Q => To σ H fun x H1 => insOf c x H1 ≠ none ∧ T σ H1 fun ds H2 => ds.length = ks.length ∧ (g [x] ds).length = n ∧ S (g [x] ds) H2 Q W) := by
  subst hW
  obtain ⟨fd, ps, hn, F, hb⟩ := F.ex
  refine ⟨fun pins s σv H μ σ Hd Q I q => ?_⟩
  refine PySem.W.methodCall_KW (pl := pl) (thn (ho.run pins s σv H μ σ Hd _ I q) fun u s1 ⟨d, v, H1, μ1, Hd1, I1, t1, r1, d1, q0, q1⟩ => ?_) ht
  cases e1 : insOf c d Hd1 with
  | none => exact absurd e1 q0
  | some fs =>
    obtain ⟨i, a, dx, fv, rfl, rfl, h1, h2, h3, h4⟩ := ins_V I1.rh d1 e1
    obtain rfl : u = Value.ref a := r1
    refine getmeth_ok I1.inv h3 hcl hM (nofld hnf h4) ?_
    refine PySem.W.callWith_KW0 (first := [.ref a]) (h₀ := Y.X.base) I1.inv.ok.mod.kin hM.kp hall (thn (ha.run.run pos pins s1 σv H1 (fun zs H2 => ∃ ds μ2 Hd2, Stp μ1 H1 μ2 H2 ∧ RHp Y.X.prog Y.X.w Y.G μ2 H2 Hd2 ∧ RDs Y.G μ2 H2 ds zs ∧ ds.length = ks.length ∧ (g [D.ref i] ds).length = n ∧ S (g [D.ref i] ds) Hd2 Q Y.W) I1.inv
      ⟨μ1, σ, Hd1, _, I1.st, I1.rs, I1.rh, q1, fun ds Hd2 zs H2 μ2 q2 t2 rh2 rd2 => ⟨ds, μ2, Hd2, t2, rh2, rd2, q2⟩⟩) fun ws s2 ⟨zs, H2, I2, rz, ds, μ2, Hd2, t2, rh2, rd2, q2, q3, q4⟩ => ⟨I2.kIn, ?_⟩) hpl
    rw [hks]
    have F' := F.mono hj
    have rr : Vals (g [V.ref a] zs) (g [Value.ref a] ws) := hb.rel (.cons rfl .nil) rz
    have sp := Dx.sp (Y := Y) (n := n) (S := S) (Qd := Q) (Q := fun v H' => ∃ d μ' Hd', Stp μ H μ' H' ∧ RHp Y.X.prog Y.X.w Y.G μ' H' Hd' ∧ RD Y.G μ' H' d v ∧ Q d Hd') ((I.st.trans t1).trans t2) rh2 (hb.rd (.cons (d1.step t2) .nil) rd2) q3 q4
      fun d3 Hd3 v3 H3 μ3 q5 t3 rh3 rd3 => ⟨d3, μ3, Hd3, (t1.trans t2).trans t3, rh3, rd3, q5⟩
    refine wpAny_call (codeAny_mono (F'.run Y.X.A Y.X.stack s2 H2 ⟨[.ref a] ++ [], ks.zip ws⟩ (g [Value.ref a] ws) (g [V.ref a] zs) _ Y.ex hr I2.env0 (hb.to s2 [.ref a] ws I2.kIn rfl (by rw [← rz.length, ← rd2.length]; exact q2)) rr sp) fun r s' hq => ?_)
    cases r with
    | error er => exact Y.passes pins σv H2 s2 er s' I2 hq
    | ok fl =>
      cases fl with
      | ret u =>
        obtain ⟨v, H', I3, rv, d, μ', Hd', t, rh, rd, q⟩ := I2.after hq
        exact ⟨d, v, H', μ', Hd', I.to I3 t rh, t, rv, rd, q⟩
      | next => exact False.elim hq
      | brk => exact False.elim hq
      | cont => exact False.elim hq
end

/-! ### statements -/
section
variable {Y : Dx} {st : Stmt} {rest : List Stmt} {t u : DTS} {e o value : Expr} {Te To Tv : DTE} {T : DTA} {pos pos' tpos : Pos} {c : Nat}
def dNext : DTS := fun D σ H => D.nx σ H
def dSeq2 (t u : DTS) : DTS := fun D σ H => t { D with nx := u D } σ H
theorem dss_nil : DSs Y [] dNext := ⟨fun pins s σv H μ σ Hd D I h => wpAny_execs_nil ⟨σv, H, μ, σ, Hd, I, Stp.refl _ _, h⟩⟩
theorem dss_cons (h1 : DS Y st t) (h2 : DSs Y rest u) : DSs Y (st :: rest) (dSeq2 t u) := by
  refine ⟨fun pins s σv H μ σ Hd D I h => ?_⟩
  refine wpAny_execs_cons (thn (h1.run pins s σv H μ σ Hd { D with nx := u D } I h) fun f s1 q => ?_)
  cases f with
  | next =>
    obtain ⟨σv', H', μ', σ', Hd', I', t', q⟩ := q
    exact thn (h2.run pins s1 σv' H' μ' σ' Hd' D I' q) fun _ _ z => z.back t'
  | ret v => exact q
  | brk => exact q
  | cont => exact q
theorem dss_one (h1 : DS Y st t) : DSs Y [st] t := by
  refine ⟨fun pins s σv H μ σ Hd D I h => ?_⟩
  refine wpAny_execs_cons (thn (h1.run pins s σv H μ σ Hd D I h) fun f s1 q => ?_)
  cases f with
  | next => exact wpAny_execs_nil q
  | ret v => exact q
  | brk => exact q
  | cont => exact q
def dBrk : DTS := fun D σ H => D.bk σ H
def dCont : DTS := fun D σ H => D.ct σ H
theorem ds_pass : DS Y (.Pass pos) dNext := ⟨fun pins s σv H μ σ Hd D I h => wpAny_Pass ⟨σv, H, μ, σ, Hd, I, Stp.refl _ _, h⟩⟩
theorem ds_break : DS Y (.Break pos) dBrk := ⟨fun pins s σv H μ σ Hd D I h => wpAny_Break ⟨σv, H, μ, σ, Hd, I, Stp.refl _ _, h⟩⟩
theorem ds_continue : DS Y (.Continue pos) dCont := ⟨fun pins s σv H μ σ Hd D I h => wpAny_Continue ⟨σv, H, μ, σ, Hd, I, Stp.refl _ _, h⟩⟩
theorem ds_doc {x : Str} {j} : DS Y (.Expr (.Constant (.str x) j pos) pos') dNext := .of ps_doc fun pins s σv H μ σ Hd D I h => ⟨μ, σ, Hd, Stp.refl _ _, I.rs, I.rh, h⟩
def dDrop (Te : DTE) : DTS := fun D σ H => Te σ H fun _ H1 => D.nx σ H1
theorem ds_expr (he : DE Y e Te) (hs : swapsWith e none pos.line Y.X.env = pure false := by rfl) : DS Y (.Expr e pos) (dDrop Te) :=
  .of (ps_expr he.pe hs) fun pins s σv H μ σ Hd D I h => ⟨μ, σ, Hd, _, I.st, I.rs, I.rh, h, fun d Hd' v H' μ' q t rh rd => ⟨μ', σ, Hd', t, I.rs.step t, rh, q⟩⟩
def dRet (Te : DTE) : DTS := fun D σ H => Te σ H D.rt
theorem ds_ret (he : DE Y e Te) : DS Y (.Return (some e) pos) (dRet Te) :=
  .of (ps_ret he.pe) fun pins s σv H μ σ Hd D I h => ⟨μ, σ, Hd, _, I.st, I.rs, I.rh, h, fun d Hd' v H' μ' q t rh rd => ⟨d, μ', Hd', t, rh, rd, q⟩⟩
def dRetN : DTS := fun D _ H => D.rt .non H
theorem ds_retN : DS Y (.Return none pos) dRetN := .of ps_retN fun pins s σv H μ σ Hd D I h => ⟨.non, μ, Hd, Stp.refl _ _, I.rh, .non, h⟩
def dIfS (c : DTT) (t u : DTS) : DTS := fun D σ H => c σ H fun b H1 => if b = true then t D σ H1 else u D σ H1
theorem ds_if {cnd : Expr} {a b : List Stmt} {tc : DTT} (hc : DT Y cnd tc) (ha : DSs Y a t) (hb : DSs Y b u) : DS Y (.If cnd a b pos) (dIfS tc t u) := by
  refine ⟨fun pins s σv H μ σ Hd D I h => ?_⟩
  refine wpAny_If (thn (hc.run pins s σv H μ σ Hd _ I h) fun d s1 ⟨H1, μ1, Hd1, I1, t1, q1⟩ => ?_)
  cases d with
  | true => exact thn (ha.run pins s1 σv H1 μ1 σ Hd1 D I1 q1) fun _ _ z => z.back t1
  | false => exact thn (hb.run pins s1 σv H1 μ1 σ Hd1 D I1 q1) fun _ _ z => z.back t1
def dNever : DTS := fun _ _ _ => False
theorem ds_never : DS Y st dNever := ⟨fun _ _ _ _ _ _ _ _ _ h => h.elim⟩
theorem dss_never {sts : List Stmt} : DSs Y sts dNever := ⟨fun _ _ _ _ _ _ _ _ _ h => h.elim⟩
def dSet (i : Nat) (Te : DTE) : DTS := fun D σ H => Te σ H fun d H1 => D.nx (σ.set i (some d)) H1
theorem ds_set (i : Nat) {x : Str} (hN : Y.X.N.Nodup) (he : DE Y e Te) (hi : Y.X.N[i]? = some x := by rfl) (hx : Loc Y.X.env.scope x := by first | exact Or.inl rfl | exact Or.inr rfl) (hs : swapsWith e (some (.Name x pos')) pos.line Y.X.env = pure false := by rfl)
    (hf : Y.X.fn x = true ∨ Y.X.env.scope.names.lookup x = some .local := by first | exact .inl rfl | exact .inr rfl) : DS Y (.Assign [.Name x pos'] e pos) (dSet i Te) :=
  .of (ps_set hN hi hx he.pe hs hf) fun pins s σv H μ σ Hd D I h => ⟨μ, σ, Hd, _, I.st, I.rs, I.rh, h, fun d Hd' v H' μ' q t rh rd => ⟨μ', _, Hd', t, (I.rs.step t).set i rd, rh, q⟩⟩
/-- name = [.. for ..] on one line -/
def dSetF (i : Nat) (T : DTA) : DTS := fun D σ H => T σ H fun ds H1 => newO H1 (.lst ds) fun o H2 => D.nx (σ.set i (some (.ref o))) H2
theorem ds_setLc (i : Nat) {y : Str} {py : Pos} {elt tg iter : Expr} {ifs : List Expr} {scope : Scope} {own : List (Str × Nat)} {spos : Pos} {wi : DTI} {tt' : Tgt} {tt : DTT} {te : DTE} (hc : Y.X.calm = true) (hN : Y.X.N.Nodup) (hi : DPI Y tg iter wi) (ok : BlkOk Y.X.N Y.X.env.scope scope own)
    (hsub : ∀ j ∈ tIds tt', j ∈ own.map (·.2))
    (hg : ∀ (s : Shared) (H : Hp) (C : Addr) (cl : List (Str × Addr)) (fp : List Addr), DTg (Y.blk (Y.X.blk s H scope (compEnvC scope cl C Y.X.env) fp)) tg tt')
    (ht : ∀ (s : Shared) (H : Hp) (C : Addr) (cl : List (Str × Addr)) (fp : List Addr), DTs (Y.blk (Y.X.blk s H scope (compEnvC scope cl C Y.X.env) fp)) ifs tt)
    (he : ∀ (s : Shared) (H : Hp) (C : Addr) (cl : List (Str × Addr)) (fp : List Addr), DE (Y.blk (Y.X.blk s H scope (compEnvC scope cl C Y.X.env) fp)) elt te)
    (hy : Y.X.N[i]? = some y := by rfl) (hyl : Y.X.env.scope.names.lookup y = some .local := by rfl)
    (hsw : swapsWith (.ListComp elt [⟨tg, iter, ifs, 0⟩] scope pos) (some (.Name y py)) spos.line Y.X.env = pure true := by exact sw_true rfl rfl rfl (by decide +kernel)) (hs : ∀ x, foldedSetIterable iter Y.X.env x = pure x := by intro _; rfl) :
    DS Y (.Assign [.Name y py] (.ListComp elt [⟨tg, iter, ifs, 0⟩] scope pos) spos) (dSetF i (dLc wi tt' tt te (own.map (·.2)))) :=
  .of (ps_setLc (g := liftG Y.X.prog Y.X.w Y.G Y.μ0 Y.H0 tt') (tt := liftT Y.X.prog Y.X.w Y.G Y.μ0 Y.H0 tt) (te := liftE Y.X.prog Y.X.w Y.G Y.μ0 Y.H0 te) hc hN hy hyl hsw hi ok hg (fun s H C cl fp => (ht s H C cl fp).run) (fun s H C cl fp => (he s H C cl fp).pe) hs)
    fun pins s σv H μ σ Hd D I q => lc_lift hsub I.st I.rs I.rh q fun ds a vs H' μ' Hd' q h1 h2 t rh r => by
      obtain ⟨o, t2, t3, rh2, q2⟩ := rh.newO t h2.1 q (by rw [h1]; exact fun z => by cases z) h2.2 fun o t => ⟨vs, h1, r.step0 t⟩
      exact ⟨muSet μ' o a, _, _, t2, ((I.rs.step t).step0 t3).set i (.ref muSet_same), rh2, q2⟩
/-- target = value -/
def dAsg (t : Tgt) (Te : DTE) : DTS := fun D σ H => Te σ H fun d H1 => match bindT t d H1 σ with | some σ' => D.nx σ' H1 | none => False
theorem ds_asg {tg : Expr} {t : Tgt} (he : DE Y e Te) (hg : DTg Y tg t) (hs : swapsWithSole [tg] e pos.line Y.X.env = pure false := by rfl) (hw : swappedStores [tg] e Y.X.env = pure none := by rfl)
    (h1 : (assignEach [tg] Y.X.env).map (·.2) = [assign tg Y.X.env] := by rfl) : DS Y (.Assign [tg] e pos) (dAsg t Te) :=
  .of (ps_asg he.pe hg hs hw h1) fun pins s σv H μ σ Hd D I h => ⟨μ, σ, Hd, _, I.st, I.rs, I.rh, h, fun d Hd' v H' μ' q t' rh rd => by
    split at q
    · rename_i σ' e
      exact ⟨μ', σ, Hd', d, σ', I.st.trans t', I.rs.step t', rh, rd, e, fun σv' rs' _ => ⟨μ', σ', Hd', t', rs', rh, q⟩⟩
    · exact q.elim⟩
/-- o.f = e -/
def dFldS (c f : Nat) (To Tv : DTE) : DTS := fun D σ H => Tv σ H fun y H1 => To σ H1 fun x H2 => match x with
  | .ref i => (match H2 i with | some (.ins c' fs) => c' = c ∧ fs.length < 1000 ∧ D.nx σ (upd H2 i (.ins c (putD f y fs))) | _ => False)
  | _ => False
theorem ds_fld {f : Nat} {fx : Str} (hcl : Cls Y.X.K (Y.G.cad c)) (hna : NoAttr Y.X.K (Y.G.cad c) fx) (ho : DE Y o To) (hv : DE Y value Tv) (hf : f < Y.G.nf := by decide) (hfx : Y.G.fnm f = fx := by rfl) (hs : swapsWith value (some (.Attribute o fx pos')) pos.line Y.X.env = pure false := by rfl) :
    DS Y (.Assign [.Attribute o fx pos'] value pos) (dFldS c f To Tv) :=
  .of (ps_fld ho.pe hv.pe hs) fun pins s σv H μ σ Hd D I h => ⟨μ, σ, Hd, _, I.st, I.rs, I.rh, h, fun y Hd1 vy H1 μ1 q1 t1 rh1 dy => ⟨μ1, σ, Hd1, _, I.st.trans t1, I.rs.step t1, rh1, q1, fun x Hd2 vx H2 μ2 q2 t2 rh2 dx => by
    split at q2
    · rename_i i
      split at q2
      · rename_i c' fs h1
        obtain ⟨rfl, hl, q2⟩ := q2
        obtain ⟨i', a, dx', fv, e1, rfl, h2, h3, h4, h5⟩ := ins_V (c := c') (fs := fs) rh2 dx (by unfold insOf; dsimp only; rw [h1]; dsimp only; rw [if_pos rfl])
        cases e1
        obtain ⟨t3, rh3⟩ := rh2.set (u := .ins (Y.G.cad c') dx' (putF fx vy fv)) (o' := .ins c' (putD f y fs)) h2 h1 fun t => ⟨dx', _, L2.upd_same, by
          have := put_V (G := Y.G) (R := RD Y.G μ2 (L2.upd H2 a (.ins (Y.G.cad c') dx' (putF fx vy fv)))) hf ((dy.step t2).step t) (h5.imp fun p q z => ⟨z.1, z.2.1, z.2.2.step t⟩)
          rw [hfx] at this
          exact this⟩
        exact ⟨a, _, dx', fv, rfl, h4, hcl, hna, by rw [← h5.length]; exact hl, μ2, σ, _, (t1.trans t2).trans t3, I.rs.step ((t1.trans t2).trans t3), rh3, q2⟩
      · exact q2.elim
    · exact q2.elim⟩⟩

/-! ### for -/
def dFor (wi : DTI) (t : Tgt) (tb : DTS) : DTS := fun D σ H => wi σ H fun K H1 => ∃ (n : Nat) (I : Nat → DSt → DH → Prop), I 0 σ H1 ∧
  (∀ i σ H, i < n → I i σ H → ∃ xs x σ2, K.at H = some xs ∧ xs.length = n ∧ xs[i]? = some x ∧ bindT t x H σ = some σ2 ∧ tb { D with nx := I (i + 1), ct := I (i + 1), bk := D.nx } σ2 H) ∧
  (∀ σ H, I n σ H → (∃ xs, K.at H = some xs ∧ xs.length = n) ∧ D.nx σ H)
theorem ds_for {tg iter : Expr} {body : List Stmt} {wi : DTI} {tt : Tgt} {tb : DTS} (hp : PassesOwn (model Y.X.prog Y.X.w) Y.X.A Y.X.env Y.X.xe) (hc : Y.X.calm = true) (hi : DPI Y tg iter wi) (hg : DTg Y tg tt) (hb : DSs Y body tb)
    (hs : ∀ x, foldedSetIterable iter Y.X.env x = pure x := by intro _; rfl) : DS Y (.For tg iter body [] pos) (dFor wi tt tb) := by
  refine .of (ps_for hp hc hi hg hb.pss hs) fun pins s σv H μ σ Hd D I q => ⟨μ, σ, Hd, _, I.st, I.rs, I.rh, q, fun J K Hd1 H1 μ1 q1 t1 rh1 it => ?_⟩
  obtain ⟨n, Iv, i0, step, fin⟩ := q1
  refine ⟨fun i m σv' Hh => m = n - i ∧ i ≤ n ∧ ∃ σ' μ2 Hd2, Stp μ1 H1 μ2 Hh ∧ RSt Y.G μ2 Hh σ' σv' ∧ RHp Y.X.prog Y.X.w Y.G μ2 Hh Hd2 ∧ Iv i σ' Hd2, ⟨n, rfl, Nat.zero_le _, σ, μ1, Hd1, Stp.refl _ _, I.rs.step t1, rh1, i0⟩, ?_⟩
  rintro i m σv' Hh ⟨rfl, hi, σ', μ2, Hd2, t2, rs2, rh2, iv⟩
  by_cases hlt : i < n
  · obtain ⟨xs, x, σ2, e1, e2, e3, e4, q2⟩ := step i σ' Hd2 hlt iv
    refine .inr ⟨it.go t2 rh2 e1 e3, fun σv'' H' => n - (i + 1) = n - (i + 1) ∧ i + 1 ≤ n ∧ ∃ σ' μ2 Hd2, Stp μ1 H1 μ2 H' ∧ RSt Y.G μ2 H' σ' σv'' ∧ RHp Y.X.prog Y.X.w Y.G μ2 H' Hd2 ∧ Iv (i + 1) σ' Hd2, fun σv'' H' h => ⟨n - (i + 1), by omega, h⟩, fun v H' y => ?_⟩
    obtain ⟨t3, rh3, rx⟩ := it.yld t2 rh2 e1 e3 y
    have st3 := (t1.trans t2).trans t3
    refine ⟨μ2, σ', Hd2, x, σ2, I.st.trans st3, rs2.step t3, rh3, rx, e4, fun σv2 rs' o => ?_⟩
    refine ⟨μ2, σ2, Hd2, _, I.st.trans st3, rs', rh3, q2, ?_, ?_, ?_, ?_⟩
    · exact fun σ3 Hd3 σv3 H3 μ3 q3 t4 rs3 rh4 => ⟨rfl, hlt, σ3, μ3, Hd3, (t2.trans t3).trans t4, rs3, rh4, q3⟩
    · exact fun σ3 Hd3 σv3 H3 μ3 q3 t4 rs3 rh4 => ⟨μ3, σ3, Hd3, st3.trans t4, rs3, rh4, q3⟩
    · exact fun σ3 Hd3 σv3 H3 μ3 q3 t4 rs3 rh4 => ⟨rfl, hlt, σ3, μ3, Hd3, (t2.trans t3).trans t4, rs3, rh4, q3⟩
    · exact fun d Hd3 v H3 μ3 q3 t4 rh4 rd => ⟨d, μ3, Hd3, st3.trans t4, rh4, rd, q3⟩
  · have e : i = n := by omega
    subst e
    obtain ⟨⟨xs, e1, e2⟩, q2⟩ := fin σ' Hd2 iv
    exact .inl ⟨it.stop t2 rh2 e1 e2, μ2, σ', Hd2, t1.trans t2, rs2, rh2, q2⟩

/-! ### o[i] = e, x += e, o[i] += e -/
def SetD (Y : Dx) (r : D → D → D → DH → (DH → Prop) → Prop) : Prop := ∃ r', PSet Y.X r' ∧ ∀ {μ H Hd o i d vo vi vd Q} {Q' : Hp → Prop}, RHp Y.X.prog Y.X.w Y.G μ H Hd → RD Y.G μ H o vo → RD Y.G μ H i vi → RD Y.G μ H d vd → r o i d Hd Q →
  (∀ H' μ' Hd', Stp μ H μ' H' → RHp Y.X.prog Y.X.w Y.G μ' H' Hd' → Q Hd' → Q' H') → r' vo vi vd H Q'
def dKput (kvs : List (D × D)) (k v : D) : List (D × D) := if (kvs.any fun p => decide (keyD p.1 = keyD k)) then kvs.map fun p => if keyD p.1 = keyD k then (p.1, v) else p else kvs ++ [(k, v)]
/-- a list's item, a dict's value -/
def dSetI : D → D → D → DH → (DH → Prop) → Prop := fun o i v H Q => match o with
  | .ref a => (match H a with
    | some (.lst xs) => (match i with | .int k => (match ixN xs.length k with | some j => Q (upd H a (.lst (xs.set j v))) | none => False) | _ => False)
    | some (.dK kvs) => keyD i ≠ none ∧ kvs.length < sizeLine ∧ Q (upd H a (.dK (dKput kvs i v)))
    | _ => False)
  | _ => False
theorem dKput_V {R : D → V → Prop} {y : D} {k : Key} {d : D} {v : V} (e : keyD y = some k) (r : R d v) {kvs : List (D × D)} {kws : List (Key × V)} (h : P2 (fun (p : D × D) (q : Key × V) => keyD p.1 = some q.1 ∧ R p.2 q.2) kvs kws) :
    P2 (fun (p : D × D) (q : Key × V) => keyD p.1 = some q.1 ∧ R p.2 q.2) (dKput kvs y d) (putK kws k v) := by
  have ha : (kvs.any fun p => decide (keyD p.1 = keyD y)) = kws.any fun q => decide (q.1 = k) := by
    induction h with
    | nil => rfl
    | cons h1 h2 ih =>
      rw [List.any_cons, List.any_cons, ih]
      congr 1
      rw [h1.1, e]
      simp
  unfold dKput putK
  rw [ha]
  split
  · rename_i hc
    clear hc ha
    induction h with
    | nil => exact .nil
    | @cons p q ps qs h1 h2 ih =>
      rw [List.map_cons, List.map_cons]
      refine .cons ?_ ih
      by_cases hk : q.1 = k
      · rw [if_pos (by rw [h1.1, e, hk]), if_pos hk]
        exact ⟨h1.1, r⟩
      · rw [if_neg (by rw [h1.1, e]; simpa using hk), if_neg hk]
        exact h1
  · exact h.append (.cons ⟨e, r⟩ .nil)
theorem set_all {X : Cx} (hu : X.A.units + 1 < cLine) : PSet X (fun o i v H Q => rSetL o i v H Q ∨ ∃ a H', o = .ref a ∧ DPut H a i v H' ∧ Q H') := by
  intro pins s σ H o i v ov iv u Q I r1 r2 r3 h
  rcases h with h | ⟨a, H', rfl, g, q⟩
  · exact set_list pins s σ H o i v ov iv u Q I r1 r2 r3 h
  · cases r1
    exact d_setItem hu I g r2 r3 fun s4 I4 => ⟨H', I4, q⟩
theorem setD (hu : Y.X.A.units + 1 < cLine) : SetD Y dSetI := by
  refine ⟨_, set_all hu, fun {μ H Hd o i d vo vi vd Q Q'} rh r1 r2 r3 q z => ?_⟩
  unfold dSetI at q
  split at q
  · rename_i a
    cases r1 with
    | ref h =>
      split at q
      · rename_i xs h1
        obtain ⟨a', h2, vs, h3, h4⟩ := rh.obj _ _ h1
        rw [h] at h2; cases h2
        split at q
        · rename_i k
          split at q
          · rename_i j e
            cases r2
            obtain ⟨t, rh'⟩ := rh.set (u := .lst (vs.set j vd)) (o' := .lst (xs.set j d)) h h1 fun t => ⟨_, L2.upd_same, (h4.step t).set (r3.step t) j⟩
            exact .inl ⟨_, vs, k, j, rfl, rfl, h3, by rw [← h4.length]; exact e, z _ μ _ t rh' q⟩
          · exact q.elim
        · exact q.elim
      · rename_i kvs h1
        obtain ⟨a', h2, kws, h3, h4⟩ := rh.obj _ _ h1
        rw [h] at h2; cases h2
        obtain ⟨hk, hl, q⟩ := q
        cases ek : keyD i with
        | none => exact absurd ek hk
        | some k =>
          obtain ⟨t, rh'⟩ := rh.set (u := .dK (putK kws k vd)) (o' := .dK (dKput kvs i d)) h h1 fun t => ⟨_, L2.upd_same, dKput_V (R := RD Y.G μ _) ek (r3.step t) (h4.imp fun p q z => ⟨z.1, z.2.step t⟩)⟩
          refine .inr ⟨_, _, rfl, ?_, z _ μ _ t rh' q⟩
          rw [keyD_V r2 ek]
          exact .k h3 (by rw [← h4.length]; exact hl)
      · exact q.elim
  · exact q.elim
def dSubS (r : D → D → D → DH → (DH → Prop) → Prop) (To Ti Te : DTE) : DTS := fun D σ H => Te σ H fun d H1 => To σ H1 fun o H2 => Ti σ H2 fun i H3 => r o i d H3 fun H4 => D.nx σ H4
theorem ds_subR {r : D → D → D → DH → (DH → Prop) → Prop} {i : Expr} {Ti : DTE} (hr : SetD Y r) (ho : DE Y o To) (hi : DE Y i Ti) (he : DE Y e Te)
    (hs : swapsWithSole [.Subscript o i tpos] e pos.line Y.X.env = pure false := by rfl) (hw : swappedStores [.Subscript o i tpos] e Y.X.env = pure none := by rfl)
    (h1 : (assignEach [.Subscript o i tpos] Y.X.env).map (·.2) = [assign (.Subscript o i tpos) Y.X.env] := by rfl)
    (ha : ∀ v, assign (.Subscript o i tpos) Y.X.env v = (do
      let ov ← holding [v] (eval o Y.X.env)
      let iv ← holding [v, ov] (eval i Y.X.env)
      standAt tpos
      holding [v, ov, iv] (setItem ov iv v)
      release [v, ov, iv] []) := by intro _; rfl) : DS Y (.Assign [.Subscript o i tpos] e pos) (dSubS r To Ti Te) := by
  obtain ⟨r', hr, g⟩ := hr
  exact .of (ps_asg he.pe (pg_sub ho.pe hi.pe hr ha) hs hw h1) fun pins s σv H μ σ Hd D I h => ⟨μ, σ, Hd, _, I.st, I.rs, I.rh, h, fun d Hd1 vd H1 μ1 q1 t1 rh1 d1 =>
    ⟨μ1, σ, Hd1, _, I.st.trans t1, I.rs.step t1, rh1, q1, fun o' Hd2 vo H2 μ2 q2 t2 rh2 d2 =>
      ⟨μ2, σ, Hd2, _, (I.st.trans t1).trans t2, I.rs.step (t1.trans t2), rh2, q2, fun i' Hd3 vi H3 μ3 q3 t3 rh3 d3 => g rh3 (d2.step t3) d3 ((d1.step t2).step t3) q3 fun H4 μ4 Hd4 t4 rh4 q4 =>
        ⟨μ4, σ, Hd4, ((t1.trans t2).trans t3).trans t4, I.rs.step (((t1.trans t2).trans t3).trans t4), rh4, q4⟩⟩⟩⟩
def IpD (Y : Dx) (op : Operator) (r : DR2) : Prop := ∃ r', PIp Y.X op r' ∧ ∀ {μ H Hd x y vx vy Q} {Q' : VK}, RHp Y.X.prog Y.X.w Y.G μ H Hd → RD Y.G μ H x vx → RD Y.G μ H y vy → r x y Hd Q → (∀ d v, RD Y.G μ H d v → Q d Hd → Q' v H) → r' vx vy H Q'
theorem ipD_add : IpD Y .Add (dI2 fun i j => .int (i + j)) := ⟨_, ip_add, fun {μ H Hd x y vx vy Q Q'} rh r1 r2 q z => by
  unfold dI2 at q
  split at q
  · cases r1; cases r2
    exact ⟨_, _, rfl, rfl, z _ _ (.int _) q⟩
  · exact q.elim⟩
theorem ipD_sub : IpD Y .Sub (dI2 fun i j => .int (i - j)) := ⟨_, ip_sub, fun {μ H Hd x y vx vy Q Q'} rh r1 r2 q z => by
  unfold dI2 at q
  split at q
  · cases r1; cases r2
    exact ⟨_, _, rfl, rfl, z _ _ (.int _) q⟩
  · exact q.elim⟩
def dAug (i : Nat) (Te : DTE) (r : DR2) : DTS := fun D σ H => match σ[i]? with | some (some x) => Te σ H fun y H1 => r x y H1 fun z H2 => D.nx (σ.set i (some z)) H2 | _ => False
theorem ds_aug {op : Operator} {r : DR2} (i : Nat) {x : Str} (hN : Y.X.N.Nodup) (hr : IpD Y op r) (he : DE Y e Te) (hi : Y.X.N[i]? = some x := by rfl) (hx : Loc Y.X.env.scope x := by first | exact Or.inl rfl | exact Or.inr rfl)
    (hf : Y.X.fn x = true ∨ Y.X.env.scope.names.lookup x = some .local := by first | exact .inl rfl | exact .inr rfl) : DS Y (.AugAssign (.Name x pos') op e pos) (dAug i Te r) := by
  obtain ⟨r', hr, g⟩ := hr
  exact .of (ps_aug hN hi hx he.pe hr hf) fun pins s σv H μ σ Hd D I h => by
    unfold dAug at h
    split at h
    · rename_i x e1
      obtain ⟨v, h1, h2⟩ := I.rs.at_ _ _ e1
      exact ⟨v, h1, μ, σ, Hd, _, I.st, I.rs, I.rh, h, fun y Hd1 vy H1 μ1 q1 t1 rh1 d1 => g rh1 (h2.step t1) d1 q1 fun d v rd q2 => ⟨μ1, _, Hd1, t1, (I.rs.step t1).set i rd, rh1, q2⟩⟩
    · exact h.elim
/-- o[i] as a value, without names -/
def GetD (Y : Dx) (r : DR2) : Prop := ∃ r', PGet Y.X r' ∧ ∀ {μ H Hd x y vx vy Q} {Q' : VK}, RHp Y.X.prog Y.X.w Y.G μ H Hd → RD Y.G μ H x vx → RD Y.G μ H y vy → r x y Hd Q → (∀ d v, RD Y.G μ H d v → Q d Hd → Q' v H) → r' vx vy H Q'
def dAugS (To Ti Te : DTE) (rg rp : DR2) (rs : D → D → D → DH → (DH → Prop) → Prop) : DTS := fun D σ H => To σ H fun o H1 => Ti σ H1 fun i H2 => rg o i H2 fun x H3 => Te σ H3 fun y H4 => rp x y H4 fun z H5 => rs o i z H5 fun H6 => D.nx σ H6
theorem ds_augS {i : Expr} {op : Operator} {Ti : DTE} {rg rp : DR2} {rs : D → D → D → DH → (DH → Prop) → Prop} (hg : GetD Y rg) (hp : IpD Y op rp) (hs : SetD Y rs) (ho : DE Y o To) (hi : DE Y i Ti) (he : DE Y e Te)
    (ha : ∀ ov iv new, augStore i ov iv new = (do holding [new, ov, iv] (setItem ov iv new); release [new, ov, iv] []; pure .next) := by intros; rfl) : DS Y (.AugAssign (.Subscript o i tpos) op e pos) (dAugS To Ti Te rg rp rs) := by
  obtain ⟨rg', hg, gg⟩ := hg
  obtain ⟨rp', hp, gp⟩ := hp
  obtain ⟨rs', hs, gs⟩ := hs
  exact .of (ps_augS ho.pe hi.pe hg he.pe hp hs ha) fun pins s σv H μ σ Hd D I h => ⟨μ, σ, Hd, _, I.st, I.rs, I.rh, h, fun o' Hd1 vo H1 μ1 q1 t1 rh1 d1 =>
    ⟨μ1, σ, Hd1, _, I.st.trans t1, I.rs.step t1, rh1, q1, fun i' Hd2 vi H2 μ2 q2 t2 rh2 d2 => gg rh2 (d1.step t2) d2 q2 fun x vx dx q3 =>
      ⟨μ2, σ, Hd2, _, (I.st.trans t1).trans t2, I.rs.step (t1.trans t2), rh2, q3, fun y Hd3 vy H3 μ3 q4 t3 rh3 dy => gp rh3 (dx.step t3) dy q4 fun z vz dz q5 =>
        gs rh3 ((d1.step t2).step t3) (d2.step t3) dz q5 fun H4 μ4 Hd4 t4 rh4 q6 => ⟨μ4, σ, Hd4, ((t1.trans t2).trans t3).trans t4, I.rs.step (((t1.trans t2).trans t3).trans t4), rh4, q6⟩⟩⟩⟩
end
end DL

/-! DL7: dicts with nested keys, sorted, < of nested data, dict displays, pairs of names, repr. -/
namespace DL
open PySem PySem.Spec
open PyProof.Rows L2

/-! ### plain data of values without objects -/
mutual
def pdv : D → PyData
  | .bl b => .bool b
  | .int i => .int i
  | .str x => .str x
  | .tup xs => .tuple (pdvs xs)
  | .rol xs => .list (pdvs xs)
  | _ => .none
def pdvs : List D → List PyData
  | [] => []
  | x :: xs => pdv x :: pdvs xs
end
mutual
def pureD : D → Bool
  | .non => true
  | .bl _ => true
  | .int _ => true
  | .str _ => true
  | .tup xs => pureDs xs
  | .rol xs => pureDs xs
  | _ => false
def pureDs : List D → Bool
  | [] => true
  | x :: xs => pureD x && pureDs xs
end
mutual
theorem PD.of_pure (H : DH) : ∀ d : D, pureD d = true → PD H d (pdv d)
  | .non, _ => by simp only [pdv]; exact .non
  | .bl b, _ => by simp only [pdv]; exact .bl b
  | .int i, _ => by simp only [pdv]; exact .int i
  | .str x, _ => by simp only [pdv]; exact .str x
  | .tup xs, h => by simp only [pdv]; exact .tup (PD.of_pures H xs (by simpa [pureD] using h))
  | .rol xs, h => by simp only [pdv]; exact .rol (PD.of_pures H xs (by simpa [pureD] using h))
  | .ref i, h => by simp [pureD] at h
  | .glo n, h => by simp [pureD] at h
theorem PD.of_pures (H : DH) : ∀ ds : List D, pureDs ds = true → P2 (PD H) ds (pdvs ds)
  | [], _ => by simp only [pdvs]; exact .nil
  | d :: ds, h => by
    simp only [pureDs, Bool.and_eq_true] at h
    simp only [pdvs]
    exact .cons (PD.of_pure H d h.1) (PD.of_pures H ds h.2)
end
theorem PD.reads {Y : Dx} {pins : List (Addr × Obj)} {σv : L2.St} {H : Hp} {μ : Mu} {σ : DSt} {Hd : DH} {s : Shared} {x : D} {v : V} {u : Value} {p : PyData} (I : DI Y pins σv H μ σ Hd s) (h : PD Hd x p) (rd : RD Y.G μ H x v) (r : RelV v u) : ∃ as, Reads s.heap u p as :=
  Dp.reads I.inv p v u (Y.hK ▸ h.dp I.rh rd) r

/-! ### < of nested data -/
def dLtD : DR2 := fun x y H Q => match x, y with
  | .int i, .int j => Q (.bl (decide (i < j))) H
  | x, y => ∃ p q, PD H x p ∧ PD H y q ∧ PySem.W.alike p q = true ∧ p ≠ .none ∧ p.depth ≤ 60 ∧ Q (.bl (PySem.W.dataLt p q)) H
section
variable {Y : Dx}
theorem dop_ltD (hu : Y.X.A.units + 64 < cLine) : DOpR Y (compareOp .Lt) dLtD := by
  intro pins s σv H μ σ Hd x y vx vy u1 u2 Q I r1 r2 d1 d2 q
  have key : (∃ p q, PD Hd x p ∧ PD Hd y q ∧ PySem.W.alike p q = true ∧ p ≠ .none ∧ p.depth ≤ 60 ∧ Q (.bl (PySem.W.dataLt p q)) Hd) → wpAny (model Y.X.prog Y.X.w) Y.X.A (compareOp .Lt u1 u2) (EPd Y pins σv μ H σ Q) Y.X.xe s := by
    rintro ⟨p, p', h1, h2, h3, h4, h5, q⟩
    obtain ⟨as, e1⟩ := h1.reads I d1 r1
    obtain ⟨bs, e2⟩ := h2.reads I d2 r2
    exact PySem.W.rcLt_alike p p' Y.X.A s u1 u2 as bs e1 e2 h3 h4 (by have := Nat.min_le_left p.depth p'.depth; omega) _ _ _ _ (I.end_ (v := .bl _) (d := .bl _) rfl (.bl _) q)
  unfold dLtD at q
  split at q
  · exact dop_lt pins s σv H μ σ Hd _ _ vx vy u1 u2 Q I r1 r2 d1 d2 q
  · exact key q
end

/-! ### sorted(a dict's keys) -/
mutual
theorem reads_there {h : Heap} : ∀ {v : Value} {d : PyData} {as : List Addr}, Reads h v d as → ∀ a ∈ as, ∃ o, h.get? a = some o
  | _, _, _, .none, a, m => by cases m
  | _, _, _, .bool b, a, m => by cases m
  | _, _, _, .int i t, a, m => by cases m
  | _, _, _, .str x t, a, m => by cases m
  | _, _, _, .list h1 h2 h3 h4, a, m => by
    rcases List.mem_cons.mp m with rfl | m
    · exact ⟨_, h1⟩
    · exact readsAll_there h4 a m
  | _, _, _, .tuple h1 h2 h3 h4, a, m => readsAll_there h4 a m
  | _, _, _, .dict h1 h2 h3 h4 h5, a, m => by
    rcases List.mem_cons.mp m with rfl | m
    · exact ⟨_, h1⟩
    · rcases List.mem_append.mp m with m | m
      · exact readsAll_there h4 a m
      · exact readsAll_there h5 a m
theorem readsAll_there {h : Heap} : ∀ {vs : List Value} {ds : List PyData} {as : List Addr}, ReadsAll h vs ds as → ∀ a ∈ as, ∃ o, h.get? a = some o
  | _, _, _, .nil, a, m => by cases m
  | _, _, _, .cons h1 h2, a, m => by
    rcases List.mem_append.mp m with m | m
    · exact reads_there h1 a m
    · exact readsAll_there h2 a m
end
theorem sorted_raw {prog : Program} {w : World} {A : Around} {E : Value → Shared → Prop} {s : Shared} {d : Addr} {es : Array DictEntry} {ep : Nat} {β : Type} {bs : List β} {enc : β → PyData} {R : Value → β → Prop} {Q : Value → Shared → Prop}
    (lo : (d == sysModules) = false) (hh : A.handled = none) (hm : s.heap.DictRaw d es ep) (hn : es.size ≤ sizeLine) (e : PySem.W.EachIs (fun v b => R v b ∧ ∃ as, Reads s.heap v (enc b) as) (es.toList.map (·.key)) bs)
    (hal : PySem.W.AllAlike (bs.map enc)) (hk : PySem.W.Sortable (bs.map enc)) (hu : ∀ b, b ∈ bs → A.units + 4 + (enc b).depth < cLine)
    (h : ∀ (h1 h' : Heap) (tk : Nat) (out : List Value) (c : Nat), (∀ b o, s.heap.get? b = some o → h1.get? b = some o) → (∀ b o, h1.get? b = some o → h'.get? b = some o) → h'.get? h1.objs.size = some { cls := .type "list", data := .seq (List.toArray out) c } → out.length = bs.length →
      PySem.W.EachIs R out (bs.mergeSort (PySem.W.dataLe false enc)) → Q (.ref h1.objs.size) { s with heap := h', toks := tk }) :
    wpAny (model prog w) A (call (.builtin "sorted") [.ref d]) Q E s := by
  refine PySem.Calls.call_function_entry kind_sorted plain_sorted entry_sorted (args_sorted1 _) ?_
  unfold Builtin.«sorted»
  refine wpAny_bind (m := checkCount "sorted" 1 1 _) (wpAny_pure ?_)
  refine wpAny_bind (PySem.W.kdu_collect (A := A.in1) (KdlSrc.rawDict lo) hh hm hn fun h1 tk acc kp hacc => ?_)
  have hl : acc.toList = es.toList.map (·.key) := by
    refine List.ext_getElem? fun j => ?_
    by_cases hj : j < es.size
    · have h2 : j < acc.size := by rw [hacc.1]; exact hj
      have e1 : acc[j]? = some acc[j] := by simp [h2]
      obtain ⟨hi, e2⟩ := hacc.2 j _ e1
      rw [Array.getElem?_toList, e1, e2]
      simp [hi]
    · rw [List.getElem?_eq_none (by rw [Array.length_toList, hacc.1]; omega), List.getElem?_eq_none (by simp; omega)]
  have hlen : acc.toList.length ≤ sizeLine := by rw [Array.length_toList, hacc.1]; exact hn
  have hbl : bs.length ≤ sizeLine := by
    rw [← e.length, List.length_map, Array.length_toList]; exact hn
  refine wpAny_bind (wpAny_newList ?_ hlen)
  generalize hD : h1.objs.size = D
  generalize hh2 : h1.push { cls := .type "list", data := .seq acc.toList.toArray } = h2
  have hat : h2.get? D = some (seqObj "list" acc.toList.toArray 0) := by
    rw [← hh2, ← hD]; exact Heap.get?_push_size _ rfl
  have kp2 : ∀ b o, h1.get? b = some o → h2.get? b = some o := fun b o q => by rw [← hh2]; exact Heap.get?_push_of_some _ q
  have er : PySem.W.EachIs (fun v b => ∃ as, Reads h2 v (enc b) as ∧ D ∉ as) acc.toList bs := by
    rw [hl]
    refine e.mono fun v b ⟨_, as, r⟩ => ⟨as, PyProof.Rows.Reads.keeps (fun b o q => kp2 b o (kp b o q)) r, fun m => ?_⟩
    obtain ⟨o, q⟩ := reads_there r D m
    exact absurd (Heap.lt_size (kp _ _ q)) (by rw [hD]; exact Nat.lt_irrefl _)
  refine wpAny_bind (wpAny_holding (PySem.W.list_sort_data (A := A.in1) (s := { s with heap := h2, toks := tk }) (R := R) hat (by rw [hl]; exact e.mono fun _ _ z => z.1) er hal hk hbl (fun b hb => by have := hu b hb; show A.units + 1 + 1 + _ < _; omega) fun out ho eo => ?_))
  obtain ⟨c, hc⟩ := sortedHeap_at (out := out.toArray) hat
  refine wpAny_pure ⟨_, rfl, ?_⟩
  subst hD
  refine h h1 _ tk out c kp (fun b o q => ?_) hc ho eo
  have hlt := Heap.lt_size q
  exact (sortedHeap_old (Nat.ne_of_lt hlt) (Heap.lt_size (kp2 b o q))).trans (kp2 b o q)
/-! nested keys, by the abstract heap -/
mutual
inductive NKV (K : PySem.W.Frag) (H : Hp) : V → NestedKey → Prop where
  | non : NKV K H .non .none
  | bl (b : Bool) : NKV K H (.bl b) (.num (if b then 1 else 0))
  | int (i : Int) : NKV K H (.int i) (.num i)
  | str (x : Str) : NKV K H (.str x) (.text x)
  | tup {a : Addr} {vs : List V} {ks : List NestedKey} : SqT K H a vs → NKVs K H vs ks → NKV K H (.ref a) (.tup ks)
inductive NKVs (K : PySem.W.Frag) (H : Hp) : List V → List NestedKey → Prop where
  | nil : NKVs K H [] []
  | cons {v : V} {k : NestedKey} {vs : List V} {ks : List NestedKey} : NKV K H v k → NKVs K H vs ks → NKVs K H (v :: vs) (k :: ks)
end
mutual
theorem NKV.is {X : Cx} {pins : List (Addr × Obj)} {σ : L2.St} {H : Hp} {s : Shared} (I : Inv X pins σ H s) : ∀ {v : V} {k : NestedKey} {u : Value}, NKV X.K H v k → RelV v u → NestedIs s.heap k u
  | _, _, _, .non, r => by cases r; exact .none
  | _, _, _, .bl b, r => by cases r; exact .bool rfl
  | _, _, _, .int i, r => by obtain ⟨t, rfl⟩ := r; exact .int i t
  | _, _, _, .str x, r => by obtain ⟨t, rfl⟩ := r; exact .text x t
  | _, _, _, .tup h hs, r => by
    cases r
    obtain ⟨its, rv, ⟨o, ho, hc, n, hd⟩, _⟩ := I.tuple h
    exact .tup ho hc hd (by simpa using NKVs.is I hs rv)
theorem NKVs.is {X : Cx} {pins : List (Addr × Obj)} {σ : L2.St} {H : Hp} {s : Shared} (I : Inv X pins σ H s) : ∀ {vs : List V} {ks : List NestedKey} {us : List Value}, NKVs X.K H vs ks → Vals vs us → NestedAll s.heap ks us
  | _, _, _, .nil, r => by cases r; exact .nil
  | _, _, _, .cons h hs, r => by cases r with | cons r rr => exact .cons (NKV.is I h r) (NKVs.is I hs rr)
end
mutual
theorem RD.nkv {G : Cfg} {μ : Mu} {H : Hp} : ∀ {d : D} {v : V} {k : NestedKey}, RD G μ H d v → nkD d = some k → NKV G.K H v k
  | _, _, _, .non, e => by simp only [nkD, Option.some.injEq] at e; subst e; exact .non
  | _, _, _, .bl b, e => by simp only [nkD, Option.some.injEq] at e; subst e; exact .bl b
  | _, _, _, .int i, e => by simp only [nkD, Option.some.injEq] at e; subst e; exact .int i
  | _, _, _, .str x, e => by simp only [nkD, Option.some.injEq] at e; subst e; exact .str x
  | _, _, _, .tup h r, e => by
    simp only [nkD, Option.map_eq_some_iff] at e
    obtain ⟨ks, e1, rfl⟩ := e
    exact .tup h (RDs.nkvs r e1)
  | _, _, _, .rol h r, e => by simp [nkD] at e
  | _, _, _, .ref h, e => by simp [nkD] at e
  | _, _, _, .glo n, e => by simp [nkD] at e
theorem RDs.nkvs {G : Cfg} {μ : Mu} {H : Hp} : ∀ {ds : List D} {vs : List V} {ks : List NestedKey}, RDs G μ H ds vs → nksD ds = some ks → NKVs G.K H vs ks
  | _, _, _, .nil, e => by simp only [nksD, Option.some.injEq] at e; subst e; exact .nil
  | _, _, _, .cons r rs, e => by
    simp only [nksD] at e
    split at e
    · rename_i k ks e1 e2
      cases e
      exact .cons (RD.nkv r e1) (RDs.nkvs rs e2)
    · cases e
end
section
variable {Y : Dx} {e o : Expr} {Te To Ti : DTE} {pos p : Pos}
/-- {} for nested keys -/
theorem nest_empty {P : Program} {w : World} {H : Hp} (h : Heap) : ObjOk P w H (h.push { cls := .type "dict", data := .dict #[] }) h.objs.size (nestObj P w h.objs.size []) := by
  have e : (h.push { cls := .type "dict", data := .dict #[] }).get? h.objs.size = some { cls := .type "dict", data := .dict #[] } := Heap.get?_push_size _ rfl
  refine ⟨⟨_, #[], 0, e, ⟨rfl, rfl, rfl⟩, rfl, rfl, List.nodup_nil⟩, ⟨_, e⟩, fun h1 h2 ⟨o, es, ep, e1, e2⟩ k => ⟨o, es, ep, k _ e1, e2⟩⟩
def dNewN : DTE := fun _ H Q => newO H (.dN []) fun i H1 => Q (.ref i) H1
def dNewK : DTE := fun _ H Q => newO H (.dK []) fun i H1 => Q (.ref i) H1
theorem de_dnewN : DE Y (.Dict [] [] pos) dNewN := by
  refine ⟨fun pins s σv H μ σ Hd Q I q => wpAny_Dict_empty ?_⟩
  have hn := I.inv.hok.fresh (Nat.le_refl s.heap.objs.size)
  have J := I.inv.laid (a := s.heap.objs.size) (o := nestObj Y.X.prog Y.X.w s.heap.objs.size []) (t' := s.toks) (fun _ _ q => Heap.get?_push_of_some _ q) (Nat.le_refl _) (nest_empty s.heap)
  obtain ⟨t, rh⟩ := I.rh.laid hn (nestObj Y.X.prog Y.X.w s.heap.objs.size [])
  obtain ⟨i, t2, t3, rh2, q2⟩ := rh.newO t hn q (by rw [L2.upd_same]; exact fun z => by cases z) (I.rh.nobody hn) fun i _ => ⟨[], L2.upd_same, beq_eq_false_iff_ne.mpr (Ne.symm (Nat.ne_of_lt I.inv.big)), Nat.zero_le _, .nil⟩
  exact ⟨.ref i, .ref s.heap.objs.size, _, _, _, I.to J t2 rh2, t2, rfl, .ref muSet_same, q2⟩
theorem de_dnewK : DE Y (.Dict [] [] pos) dNewK :=
  .of pe_dnewK fun pins s σv H μ σ Hd Q I q p hn => by
    obtain ⟨t, rh⟩ := I.rh.laid hn (.dK [])
    obtain ⟨i, t2, t3, rh2, q2⟩ := rh.newO t hn q (by rw [L2.upd_same]; exact fun z => by cases z) (I.rh.nobody hn) fun i _ => ⟨[], L2.upd_same, .nil⟩
    exact ⟨.ref i, _, _, t2, rh2, .ref muSet_same, q2⟩
/-- d[k] = v, k a nested tuple -/
def nput (kvs : List (D × D)) (k v : D) : List (D × D) := if (kvs.any fun p => decide (nkD p.1 = nkD k)) then kvs.map fun p => if nkD p.1 = nkD k then (p.1, v) else p else kvs ++ [(k, v)]
theorem nput_V {R : D → Addr → Prop} {S : D → Value → Prop} {y : D} {k : NestedKey} {d : D} {b : Addr} {u : Value} (ek : nkD y = some k) (hd : k.depth ≤ 8) (r : R y b) (z : S d u) {kvs : List (D × D)} {xs : List (NestedKey × Addr × Value)}
    (h : P2 (fun (p : D × D) (q : NestedKey × Addr × Value) => nkD p.1 = some q.1 ∧ q.1.depth ≤ 8 ∧ R p.1 q.2.1 ∧ S p.2 q.2.2) kvs xs) :
    P2 (fun (p : D × D) (q : NestedKey × Addr × Value) => nkD p.1 = some q.1 ∧ q.1.depth ≤ 8 ∧ R p.1 q.2.1 ∧ S p.2 q.2.2) (nput kvs y d) (storedH xs k b u) := by
  have any : (kvs.any fun p => decide (nkD p.1 = nkD y)) = (atKey xs k).isSome := by
    induction h with
    | nil => rfl
    | @cons p q ps qs h1 h2 ih =>
      rw [List.any_cons, ih]
      unfold atKey
      rw [List.find?_cons]
      by_cases hk : q.1 = k
      · rw [decide_eq_true hk, decide_eq_true (by rw [h1.1, ek, hk])]; rfl
      · rw [decide_eq_false hk, decide_eq_false (by rw [h1.1, ek]; simpa using hk)]; rfl
  unfold nput storedH
  rw [any]
  cases hA : (atKey xs k).isSome with
  | true =>
    rw [if_pos rfl, if_pos rfl]
    clear any hA
    induction h with
    | nil => exact .nil
    | @cons p q ps qs h1 h2 ih =>
      rw [List.map_cons, List.map_cons]
      refine .cons ?_ ih
      unfold putAt
      by_cases hk : q.1 = k
      · rw [if_pos (by rw [h1.1, ek, hk]), if_pos hk]
        exact ⟨h1.1, h1.2.1, h1.2.2.1, z⟩
      · rw [if_neg (by rw [h1.1, ek]; simpa using hk), if_neg hk]
        exact h1
  | false =>
    rw [if_neg Bool.false_ne_true, if_neg Bool.false_ne_true]
    exact h.append (.cons ⟨ek, hd, r, z⟩ .nil)
def dSetN : D → D → D → DH → (DH → Prop) → Prop := fun o i v H Q => match o, i with
  | .ref a, .tup ks => (match H a with
    | some (.dN kvs) => (∃ k, nkD (.tup ks) = some k ∧ k.depth ≤ 8) ∧ kvs.length < sizeLine ∧ Q (upd H a (.dN (nput kvs (.tup ks) v)))
    | _ => False)
  | _, _ => False
def rSetN (P : Program) (w : World) (K : PySem.W.Frag) : V → V → V → Hp → (Hp → Prop) → Prop := fun o i v H Q => ∃ a b xs k, o = .ref a ∧ i = .ref b ∧ H a = some (nestObj P w a xs) ∧ xs.length < sizeLine ∧ NKV K H (.ref b) k ∧ k.depth ≤ 8 ∧
  (∀ x ∈ xs, NKV K H (.ref x.2.1) x.1 ∧ x.1.depth ≤ 8) ∧ ∀ u, RelV v u → Q (L2.upd H a (nestObj P w a (storedH xs k b u)))
theorem set_nest {X : Cx} (hu : X.A.units + 64 < cLine) : PSet X (rSetN X.prog X.w X.K) := by
  intro pins s σ H o i v ov iv u Q I r1 r2 r3 h
  obtain ⟨a, b, xs, k, rfl, rfl, e, hl, nk, hd, all, z⟩ := h
  cases r1
  cases r2
  obtain ⟨⟨ob, es, ep, e1, e2, e3, e4, e5⟩, _, _⟩ := I.hok a _ e
  have dd : s.heap.DictOfH (nestedKind X.prog X.w) a xs := ⟨ob, es, ep, e1, e2, e3, e4, fun x hx => ⟨(all x hx).1.is I rfl, (all x hx).2⟩, e5⟩
  refine wpAny_setItem_heap (knd := nestedKind X.prog X.w) (hsz := Nat.le_of_lt hl) (show X.A.in1.units + 8 < cLine by show X.A.units + 1 + 8 < cLine; omega) ⟨nk.is I rfl, hd⟩ dd fun h' dd' hs => ⟨_, ?_, z u r3⟩
  obtain ⟨q, es', ep', hq, h2, h3, h4, _, h5⟩ := dd'
  exact d_write I (by rw [e]; exact True.intro) hs ⟨q, hq⟩ ⟨⟨q, es', ep', hq, h2, h3, h4, h5⟩, ⟨q, hq⟩, fun h1 h2 ⟨o, es, ep, e1, e2⟩ k => ⟨o, es, ep, k _ e1, e2⟩⟩
theorem setND (hu : Y.X.A.units + 64 < cLine) : SetD Y dSetN := by
  refine ⟨_, set_nest hu, fun {μ H Hd o i d vo vi vd Q Q'} rh r1 r2 r3 q z => ?_⟩
  unfold dSetN at q
  split at q
  · rename_i a ks
    cases r1 with
    | ref h =>
      split at q
      · rename_i kvs h1
        obtain ⟨a', h2, xs, h3, h4, h5, h6⟩ := rh.obj _ _ h1
        rw [h] at h2; cases h2
        obtain ⟨⟨k, ek, hd⟩, hl, q⟩ := q
        have nk := r2.nkv ek
        have r2' := r2
        cases r2 with
        | @tup _ tvs b hb hbs =>
          have len : kvs.length = xs.length := h6.length
          refine ⟨_, b, xs, k, rfl, rfl, h3, by rw [← len]; exact hl, Y.hK ▸ nk, hd, fun x hx => ?_, fun u ru => ?_⟩
          · obtain ⟨i, hi⟩ := List.mem_iff_getElem?.mp hx
            obtain ⟨p, _, z1, z2, z3, _⟩ := h6.get2 hi
            exact ⟨Y.hK ▸ z3.nkv z1, z2⟩
          · obtain ⟨t, rh'⟩ := rh.set (u := nestObj Y.X.prog Y.X.w _ (storedH xs k b u)) (o' := .dN (nput kvs (.tup ks) d)) h h1 fun t => by
              refine ⟨_, L2.upd_same, h4, ?_, ?_⟩
              · unfold nput; split
                · rw [List.length_map]; omega
                · rw [List.length_append, List.length_singleton]; omega
              · exact nput_V (R := fun p b => RD Y.G μ _ p (.ref b)) (S := fun p u => ∃ v, RelV v u ∧ RD Y.G μ _ p v) ek hd (r2'.step t) ⟨vd, ru, r3.step t⟩ (h6.imp fun p q ⟨z1, z2, z3, v, z4, z5⟩ => ⟨z1, z2, z3.step t, v, z4, z5.step t⟩)
            exact z _ μ _ t rh' q
      · exact q.elim
  · exact q.elim
/-- sorted(d): d's keys, d with nested keys -/
def dSortN (Te : DTE) : DTA := fun σ H Q => Te σ H fun x H1 => match x with
  | .ref i => (match H1 i with
    | some (.dN kvs) => (∀ p ∈ kvs, pureD p.1 = true ∧ (pdv p.1).depth ≤ 50) ∧ PySem.W.AllAlike ((kvs.map (·.1)).map pdv) ∧ PySem.W.Sortable ((kvs.map (·.1)).map pdv) ∧ Q ((kvs.map (·.1)).mergeSort (PySem.W.dataLe false pdv)) H1
    | _ => False)
  | _ => False
theorem df_sortN {x : Str} (hx : x = "sorted") (hg : Gl Y.X "sorted") (hm : Y.X.mg "sorted" = none) (hc : Y.X.calm = true) (hu : Y.X.A.units + 64 < cLine) (he : DE Y e Te) (hst : starEach [e] Y.X.env = (false, eval e Y.X.env) :: starEach [] Y.X.env := by rfl) :
    DF Y (.Call (.Name x p) [e] [] pos) (dSortN Te) := by
  subst hx
  refine ⟨fun pins s σv H μ σ Hd Q I q => ?_⟩
  refine wpAny_Call_Name_kw (ld_blt I.inv hg hm bt_sorted ?_ (by decide) (by decide))
  refine PyProof.Rows.callWith_builtin1 ?_ hst (by rfl)
  rw [hst]
  show wpAny _ _ (spliced ((false, eval e Y.X.env) :: backTo pos (starEach [] Y.X.env))) _ _ s
  refine Calls.spliced_cons (thn (he.run pins s σv H μ σ Hd _ I q) fun u s1 ⟨d, v, H1, μ1, Hd1, I1, t1, r1, d1, q1⟩ => Calls.spliced_nil ?_)
  try dsimp only at q1
  split at q1
  · rename_i i
    cases d1 with
    | @ref _ a hμ =>
      cases r1
      split at q1
      · rename_i kvs hd
        obtain ⟨a', h2, xs, h3, h4, h5, h6⟩ := I1.rh.obj _ _ hd
        rw [hμ] at h2; cases h2
        obtain ⟨hp, hal, hso, q1⟩ := q1
        obtain ⟨⟨ob, es, ep, e1, e2, e3, e4, e5⟩, hz1, hz2⟩ := I1.inv.hok _ _ h3
        have len : kvs.length = xs.length := h6.length
        have hes : es.size = xs.length := by rw [← Array.length_toList, e4, List.length_map]
        have each : PySem.W.EachIs (fun (v : Value) (b : D) => (∃ vV, RelV vV v ∧ RD Y.G μ1 H1 b vV) ∧ ∃ as, Reads s1.heap v (pdv b) as) (es.toList.map (·.key)) (kvs.map (·.1)) := by
          rw [e4]
          clear e4 e5 hes len h5 h3 hd hal hso q1 hz1 hz2
          induction h6 with
          | nil => exact .nil
          | @cons p q ps qs h1 h2 ih =>
            rw [List.map_cons, List.map_cons, List.map_cons]
            have hp0 := hp p (List.mem_cons_self ..)
            have rd := h1.2.2.1
            refine .cons ⟨⟨.ref q.2.1, rfl, rd⟩, (PD.of_pure Hd1 p.1 hp0.1).reads I1 rd rfl⟩ (ih fun p hm => hp p (List.mem_cons_of_mem _ hm))
        refine sorted_raw h4 (I1.inv.ok.hd hc) ⟨ob, e1, e2, e3⟩ (by rw [hes, ← len]; exact h5) each hal hso (fun b hb => ?_) fun hA hB tk out c k1 k2 hat hol eo => ?_
        · obtain ⟨p, hp1, rfl⟩ := List.mem_map.mp hb
          have := (hp p hp1).2
          omega
        · have J1 : Inv Y.X pins σv H1 { s1 with heap := hA, toks := tk } := I1.inv.kept k1
          have hf : H1 hA.objs.size = none := J1.hok.fresh (Nat.le_refl _)
          obtain ⟨vs, rv, rds⟩ : ∃ vs, Vals vs out ∧ RDs Y.G μ1 H1 ((kvs.map (·.1)).mergeSort (PySem.W.dataLe false pdv)) vs := by
            clear hat hol
            generalize (kvs.map (·.1)).mergeSort (PySem.W.dataLe false pdv) = bs at eo
            induction eo with
            | nil => exact ⟨[], .nil, .nil⟩
            | cons a b ih =>
              obtain ⟨vs, r1, r2⟩ := ih
              obtain ⟨vV, r3, r4⟩ := a
              exact ⟨vV :: vs, .cons r3 r1, .cons r4 r2⟩
          have hz : vs.length ≤ sizeLine := by
            rw [rv.length, hol, List.length_map]; exact h5
          have J2 : Inv Y.X pins σv (L2.upd H1 hA.objs.size (.lst vs)) { s1 with heap := hB, toks := tk } := J1.laid (h' := hB) (t' := tk) k2 (Nat.le_refl _) ⟨hz, out, c, rv, hat⟩
          obtain ⟨t2, rh2⟩ := I1.rh.laid hf (.lst vs)
          exact ⟨_, vs, hA.objs.size, _, μ1, Hd1, I.to J2 (t1.trans t2) rh2, t1.trans t2, rfl, L2.upd_same, ⟨t1.new hf, I1.rh.nobody hf⟩, rds.step t2, q1⟩
      · exact q1.elim
  · exact q1.elim
end
end DL

/-! DL8: enumerate, pairs of names, dict displays, o[i] op= e. -/
namespace DL
open PySem PySem.Spec
open PyProof.Rows L2

theorem enum_new1 {v : Value} {o : Obj} {Hp0 : Heap → Prop} (B : Begins v o Hp0) :
    Meets (Builtin.«enumerate.__new__» ⟨[.type "enumerate", v], []⟩) (fun _ R s => Hp0 s.heap ∧
      R (.ok (.ret (.ref (s.heap.push o).objs.size))) { s with heap := (s.heap.push o).push { cls := .type "enumerate", data := .fields #[.none, .bool false, .ref s.heap.objs.size, rawInt 0, .none, .none] } }) :=
  .of_wp fun prog w A R s hyp => by
    obtain ⟨hp0, gs, dr, tk0, os0⟩ := s
    obtain ⟨hB, hR⟩ := hyp
    have sb := sub_enumerate
    have itq : ∀ {A' : Around} {E' : Value → Shared → Prop} {Q' : Value → Shared → Prop}, Q' (.ref hp0.objs.size) ⟨hp0.push o, gs, dr, tk0, os0⟩ → wpAny (model prog w) A' (pyIter v) Q' E' ⟨hp0, gs, dr, tk0, os0⟩ :=
      fun q => B.iter prog w _ _ ⟨hp0, gs, dr, tk0, os0⟩ _ hB q
    wp_walk using itq
    refine wpAny_stack_any fun stk => wpAny_pure ?_
    split
    · rename_i c0 _ _ _ _ _
      cases (c0 == Value.type "enumerate") <;> (wp_walk using itq; exact ⟨_, rfl, hR⟩)
    · wp_walk using itq
      exact ⟨_, rfl, hR⟩
theorem enum_call1 {prog : Program} {w : World} {A : Around} {E : Value → Shared → Prop} {s : Shared} {v : Value} {o : Obj} {Hp0 : Heap → Prop} {Q : Value → Shared → Prop} (B : Begins v o Hp0) (hB : Hp0 s.heap)
    (k : ∀ h', IsEnum h' (s.heap.objs.size + 1) s.heap.objs.size 0 .none → h'.get? s.heap.objs.size = some o → h'.objs.size = s.heap.objs.size + 2 →
      (∀ b u, s.heap.get? b = some u → h'.get? b = some u) → Q (.ref (s.heap.objs.size + 1)) { s with heap := h' }) :
    wpAny (model prog w) A (call (.type "enumerate") [v]) Q E s := by
  have sz1 : (s.heap.push o).objs.size = s.heap.objs.size + 1 := Heap.size_push ..
  have at1 := Heap.get?_push_size (s.heap.push o) (o := { cls := .type "enumerate", data := .fields #[.none, .bool false, .ref s.heap.objs.size, rawInt 0, .none, .none] }) rfl
  rw [sz1] at at1
  refine callType_new F.called_enumerate (by decide) (F.typeCall_enumerate_1 _) (F.newCall_enumerate_1 _) (fun ob => F.args_object_init_2 ob _) F.entry_enumerate_new (enum_new1 B) ⟨hB, ?_⟩
  show _ ∧ _
  rw [sz1]
  exact ⟨⟨_, at1, rfl⟩, k _ at1 (Heap.get?_push_of_some _ (Heap.get?_push_size _ B.free)) (by rw [Heap.size_push, sz1]) fun b u x => Heap.get?_push_of_some _ (Heap.get?_push_of_some _ x)⟩
/-- enumerate over a tuple: each item in a new pair -/
def ItET (K : PySem.W.Frag) (a : Addr) : It where
  go := fun i H => ∃ (xs : List V) (x : V), SqT K H a xs ∧ xs[i]? = some x
  yld := fun i H v H' => ∃ T x, v = .ref T ∧ H T = none ∧ H' = L2.upd H T (.tup [.int (i : Nat), x]) ∧ ∀ xs, SqT K H a xs → xs[i]? = some x
  stop := fun i H => ∃ xs : List V, SqT K H a xs ∧ xs.length = i
theorem turn_enumT {P : Program} {w : World} {K : PySem.W.Frag} {elts : List Expr} {kk : Nat} {tpos : Pos} (a e it : Addr) (hai : a ≠ it) :
    Turn P w K (.Tuple elts kk tpos) (ItET K a) [e, it] e (fun i h => (∃ old, IsEnum h e it ((i : Nat) : Int) old) ∧ h.IsTupleIter it a i ∧ e ≠ it) where
  mem := List.mem_cons_self ..
  obj := fun i h st b hb => by
    obtain ⟨⟨old, he⟩, ⟨o, ho, hc, hd⟩, _⟩ := st
    rcases List.mem_cons.mp hb with z | z
    · subst z; exact ⟨_, he, fun v q => nomatch q⟩
    · rw [List.mem_singleton.mp z]; exact ⟨o, ho, fun v q => by rw [hd] at q; cases q⟩
  keep := fun i h h' st k => by
    obtain ⟨⟨old, he⟩, hi, hne⟩ := st
    exact ⟨⟨old, k e (by simp) _ he⟩, hi.at fun o q => k it (by simp) o q, hne⟩
  item := by
    intro X hP hw hK hc i pins s σ H E I hf st hg
    subst hP hw hK
    obtain ⟨⟨old, he⟩, hit, hne⟩ := st
    obtain ⟨xs, x, hq, hx⟩ := hg
    obtain ⟨its, rv, pt, hz⟩ := I.tuple hq
    obtain ⟨u0, hu0, ru0⟩ := rv.get hx
    have hlt : i < its.toArray.size := by have := (List.getElem?_eq_some_iff.mp hu0).1; simpa using this
    have e_lt : e < s.heap.objs.size := Heap.lt_size he
    have it_lt : it < s.heap.objs.size := by obtain ⟨_, q, _⟩ := hit; exact Heap.lt_size q
    have hea : e ∉ [it, a] := fun z => by
      rcases List.mem_cons.mp z with z | z
      · exact hne z
      · have za : e = a := List.mem_singleton.mp z
        obtain ⟨ob, h1, h2, _⟩ := pt
        rw [← za, he] at h1
        cases h1
        exact absurd h2 (by show Value.type "enumerate" ≠ Value.type "tuple"; decide +kernel)
    refine wpAny_pyNext_enum_itemD (Draws.tuple (A := X.A.in1) (show X.A.in1.handled = none from I.ok.hd hc) it a hai its.toArray) he ⟨hit, pt⟩ hlt hne hea fun u h' tk hP ho hst hT hsz hk => ?_
    have eu : u = u0 := by
      have z : its.toArray[i]? = some u := hP
      rw [List.getElem?_toArray, hu0] at z
      exact (Option.some.inj z).symm
    subst eu
    refine ⟨_, rfl, wpAny_letOwnedTupleGo_enum (s := { s with heap := h', toks := tk + 1 }) ho fun h'' he' sb => ?_⟩
    have hT2 : h''.get? s.heap.objs.size = some { cls := .type "tuple", data := .seq #[.int i tk, u] } := (sb.2 _ (Nat.ne_of_gt e_lt)).trans hT
    have new : ObjOk X.prog X.w (L2.upd H s.heap.objs.size (.tup [.int (i : Nat), x])) h'' s.heap.objs.size (.tup [.int (i : Nat), x]) :=
      ⟨(by decide : 2 ≤ sizeLine), [.int i tk, u], .cons ⟨_, rfl⟩ (.cons ru0 .nil), ⟨_, hT2, rfl, _, rfl⟩⟩
    have I1 : Inv X pins σ (L2.upd H s.heap.objs.size (.tup [.int (i : Nat), x])) { s with heap := h'', toks := tk + 1 } :=
      I.turnedNew (ch := [e, it]) (fun b ob hb q => (sb.2 b (fun z => hb (by simp [z]))).trans (hk b ob (fun z => hb (by simp [z])) (fun z => hb (by simp [z])) q)) hf (Nat.le_refl _) new
    refine ⟨.ref s.heap.objs.size, _, I1, rfl, ⟨_, x, rfl, I.hok.fresh (Nat.le_refl _), rfl, fun ys hy => by rw [I.tuple_inj hy hq]; exact hx⟩, ⟨⟨u, ?_⟩, hst.1.at fun o q => (sb.2 it (Ne.symm hne)).trans q, hne⟩, fun b hb => ?_⟩
    · rw [show ((i + 1 : Nat) : Int) = (i : Int) + 1 by omega]
      exact he'
    · have hb' : b < s.heap.objs.size := by
        rcases List.mem_cons.mp hb with z | z
        · rw [z]; exact e_lt
        · rw [List.mem_singleton.mp z]; exact it_lt
      rw [L2.upd_ne (Nat.ne_of_lt hb')]
      exact (hf b hb).1
  done := by
    intro X hP hw hK hc i pins s σ H E I hf st hg
    subst hP hw hK
    obtain ⟨⟨old, he⟩, hit, hne⟩ := st
    obtain ⟨xs, hq, hx⟩ := hg
    obtain ⟨its, rv, pt, hz⟩ := I.tuple hq
    obtain ⟨f0, f1, f2, f3, f4, f5⟩ := hf it (by simp)
    have hl := rv.length
    have sz : its.toArray.size = i := by simp; omega
    subst sz
    exact wpAny_pyNext_enum_endD (Draws.tuple (A := X.A.in1) (show X.A.in1.handled = none from I.ok.hd hc) it a hai its.toArray) he ⟨hit, pt⟩ fun h' eb => ⟨rfl, I.turned (t' := s.toks) (fun b o hb q => eb b o hb q) f0 f1 f3 f4 f5⟩
  self := fun A i s Q E st h => by
    obtain ⟨⟨_, he⟩, _⟩ := st
    exact wpAny_pyIter_enum he h

section
variable {P : Program} {w : World} {G : Cfg} {μ0 : Mu} {H0 : Hp}
theorem pairs_get {xs : List D} {i : Nat} {x : D} (h : (pairs xs)[i]? = some x) : ∃ d, xs[i]? = some d ∧ x = .tup [.int (i : Nat), d] := by
  unfold pairs at h
  rw [List.getElem?_map] at h
  by_cases hi : i < xs.length
  · rw [List.getElem?_range hi] at h
    refine ⟨xs[i], by simp [hi], ?_⟩
    have h' := Option.some.inj h
    rw [← h']
    simp [List.getD_eq_getElem?_getD, hi]
  · rw [List.getElem?_eq_none (by simpa using hi)] at h; cases h
theorem pairs_length (xs : List D) : (pairs xs).length = xs.length := by simp [pairs]
theorem ito_enumT {a : Addr} {xs : List D} {vs : List V} (h : SqT G.K H0 a vs) (r : RDs G μ0 H0 xs vs) : DItOk P w G (ItET G.K a) (.st (pairs xs)) μ0 H0 where
  go := fun {i μ H Hd ys x} st rh e hx => by
    cases e
    obtain ⟨d, e1, _⟩ := pairs_get hx
    obtain ⟨v, e2, r1⟩ := r.get e1
    exact ⟨vs, v, st.sqT h, e2⟩
  yld := fun {i μ H Hd ys x v H'} st rh e hx y => by
    cases e
    obtain ⟨T, y0, rfl, hT, rfl, y1⟩ := y
    obtain ⟨d, e1, rfl⟩ := pairs_get hx
    obtain ⟨v', e2, r1⟩ := r.get e1
    obtain rfl : y0 = v' := Option.some.inj ((y1 vs (st.sqT h)).symm.trans e2)
    obtain ⟨t, rh'⟩ := rh.laid hT (.tup [.int (i : Nat), y0])
    exact ⟨t, rh', .tup (.of L2.upd_same) (.cons (.int _) (.cons ((r1.step st).step t) .nil))⟩
  stop := fun {i μ H Hd ys} st rh e hx => by
    cases e
    exact ⟨vs, st.sqT h, by rw [← r.length, ← pairs_length]; exact hx⟩
theorem ito_enumL {l : Oid} {a : Addr} (hm : μ0 l = some a) : DItOk P w G (Ite G.K a) (.en l) μ0 H0 := by
  have at_ : ∀ {μ H Hd ys}, Stp μ0 H0 μ H → RHp P w G μ H Hd → (DIter.en l).at Hd = some ys → ∃ xs vs, ys = pairs xs ∧ H a = some (.lst vs) ∧ RDs G μ H xs vs := fun {μ H Hd ys} st rh e => by
    have e : (match Hd l with | some (.lst xs) => some (pairs xs) | _ => none) = some ys := e
    split at e
    · rename_i xs h1
      cases e
      obtain ⟨a', h2, vs, h3, h4⟩ := rh.obj _ _ h1
      rw [st.mu _ _ hm] at h2; cases h2
      exact ⟨xs, vs, rfl, h3, h4⟩
    · cases e
  refine ⟨fun {i μ H Hd ys x} st rh e hx => ?_, fun {i μ H Hd ys x v H'} st rh e hx y => ?_, fun {i μ H Hd ys} st rh e hx => ?_⟩
  · obtain ⟨xs, vs, rfl, h3, h4⟩ := at_ st rh e
    obtain ⟨d, e1, _⟩ := pairs_get hx
    obtain ⟨v, e2, r1⟩ := h4.get e1
    exact ⟨vs, v, .of h3, e2⟩
  · obtain ⟨xs, vs, rfl, h3, h4⟩ := at_ st rh e
    obtain ⟨T, y0, rfl, hT, rfl, y1⟩ := y
    obtain ⟨d, e1, rfl⟩ := pairs_get hx
    obtain ⟨v', e2, r1⟩ := h4.get e1
    obtain rfl : y0 = v' := Option.some.inj ((y1 vs (.of h3)).symm.trans e2)
    obtain ⟨t, rh'⟩ := rh.laid hT (.tup [.int (i : Nat), y0])
    exact ⟨t, rh', .tup (.of L2.upd_same) (.cons (.int _) (.cons (r1.step t) .nil))⟩
  · obtain ⟨xs, vs, rfl, h3, h4⟩ := at_ st rh e
    exact ⟨vs, .of h3, by rw [← h4.length, ← pairs_length]; exact Nat.le_of_eq hx⟩
end
section
variable {Y : Dx} {e : Expr} {Te : DTE} {pos p tpos : Pos} {elts : List Expr} {kk : Nat}
/-- enumerate(a tuple) -/
def iEnumT (K : PySem.W.Frag) (te : TE) : TI := fun σ H R => te σ H fun v H1 => ∃ a xs, v = .ref a ∧ SqT K H1 a xs ∧ R (ItET K a) H1
theorem pi_enumT {X : Cx} {te : TE} (hg : Gl X "enumerate") (hm : X.mg "enumerate" = none) (he : PE X e te) (hs : starEach [e] X.env = [(false, eval e X.env)] := by rfl) :
    PI X (.Tuple elts kk tpos) (.Call (.Name "enumerate" p) [e] [] pos) (iEnumT X.K te) := by
  refine ⟨fun pins s σ H R I h => ?_⟩
  refine Call_ (ld_blt I hg hm boot_enumerate (PyProof.Rows.callWith_type1 (thn ((pa_cons he pa_nil hs).run pos pins s σ H (fun vs H1 => match vs with | [v] => (∃ a xs, v = .ref a ∧ SqT X.K H1 a xs ∧ R (ItET X.K a) H1) | _ => False) I h) fun us s1 ⟨vs, H1, I1, r1, q1⟩ => ?_) hs rfl))
  try dsimp only at q1
  split at q1
  · obtain ⟨a, xs, rfl, hq, q⟩ := q1
    cases r1 with
    | cons r rr =>
      cases rr
      cases r
      obtain ⟨its, rv, pt, hz⟩ := I1.tuple hq
      have a_lt : a < s1.heap.objs.size := pt.lt
      refine enum_call1 (begins_tuple a its.toArray) pt fun h' he' hit hsz hk => wpAny_pyIter_enum he' ?_
      have I2 : Inv X pins σ H1 { s1 with heap := h' } := I1.kept (t' := s1.toks) hk
      refine ⟨s1.heap.objs.size + 1, [s1.heap.objs.size + 1, s1.heap.objs.size], _, _, H1, rfl, I2, turn_enumT a (s1.heap.objs.size + 1) s1.heap.objs.size (Nat.ne_of_lt a_lt), ⟨⟨.none, he'⟩, ⟨_, hit, rfl, rfl⟩, Nat.succ_ne_self _⟩, fun b hb => ?_, q⟩
      have hle : s1.heap.objs.size ≤ b := by
        rcases List.mem_cons.mp hb with z | z
        · rw [z]; exact Nat.le_add_right _ _
        · rw [List.mem_singleton.mp z]; exact Nat.le_refl _
      exact I1.fpOk hle (I1.hok.fresh hle)
  · exact q1.elim
/-- enumerate(a tuple, a list) -/
def dEnumT (Te : DTE) : DTI := fun σ H R => Te σ H fun x H1 => match x with | .tup xs => R (.st (pairs xs)) H1 | _ => False
def dEnumL (Te : DTE) : DTI := fun σ H R => Te σ H fun x H1 => match x with | .ref i => (∃ xs, H1 i = some (.lst xs)) ∧ R (.en i) H1 | _ => False
theorem dpi_enumT (hg : Gl Y.X "enumerate") (hm : Y.X.mg "enumerate" = none) (he : DE Y e Te) (hs : starEach [e] Y.X.env = [(false, eval e Y.X.env)] := by rfl) : DPI Y (.Tuple elts kk tpos) (.Call (.Name "enumerate" p) [e] [] pos) (dEnumT Te) :=
  PI.imp (pi_enumT hg hm he.pe hs) fun σv H R ⟨μ, σ, Hd, Rd, st, rs, rh, q, z⟩ => ⟨μ, σ, Hd, _, st, rs, rh, q, fun d Hd' v H' μ' q1 t1 rh1 d1 => by
    split at q1
    · cases d1 with
      | @tup ds vs a h r => exact ⟨a, vs, rfl, Y.hK ▸ h, Y.hK ▸ z _ _ Hd' H' μ' q1 t1 rh1 (ito_enumT h r)⟩
    · exact q1.elim⟩
theorem dpi_enumL (hg : Gl Y.X "enumerate") (hm : Y.X.mg "enumerate" = none) (he : DE Y e Te) (hs : starEach [e] Y.X.env = [(false, eval e Y.X.env)] := by rfl) : DPI Y (.Tuple elts kk tpos) (.Call (.Name "enumerate" p) [e] [] pos) (dEnumL Te) :=
  PI.imp (pi_enum hg hm (pa_cons he.pe pa_nil hs) hs) fun σv H R ⟨μ, σ, Hd, Rd, st, rs, rh, q, z⟩ => ⟨μ, σ, Hd, _, st, rs, rh, q, fun d Hd' v H' μ' q1 t1 rh1 d1 => by
    split at q1
    · obtain ⟨⟨xs, h1⟩, q1⟩ := q1
      cases d1 with
      | ref h =>
        obtain ⟨a', h2, vs, h3, h4⟩ := rh1.obj _ _ h1
        rw [h] at h2; cases h2
        exact ⟨_, vs, rfl, .of h3, Y.hK ▸ z _ _ Hd' H' μ' q1 t1 rh1 (ito_enumL h)⟩
    · exact q1.elim⟩

/-! ### dict displays -/
def dPairs : List (DTE × DTE) → DSt → DH → (List (D × D) → DH → Prop) → Prop
  | [], _, H, Q => Q [] H
  | (tk, tv) :: r, σ, H, Q => tk σ H fun x H1 => tv σ H1 fun y H2 => dPairs r σ H2 fun ps H3 => Q ((x, y) :: ps) H3
structure DPs (Y : Dx) (pos : Pos) (keys : List (Option Expr)) (values : List Expr) (trs : List (DTE × DTE)) : Prop where
  run : PPs Y.X pos keys values (trs.map fun t => (Y.lE t.1, Y.lE t.2))
theorem dps_nil : DPs Y pos [] [] [] := ⟨pps_nil⟩
theorem dps_cons {k v : Expr} {ks : List (Option Expr)} {vs : List Expr} {tk tv : DTE} {trs : List (DTE × DTE)} (hk : DE Y k tk) (hv : DE Y v tv) (hr : DPs Y pos ks vs trs) : DPs Y pos (some k :: ks) (v :: vs) ((tk, tv) :: trs) := ⟨pps_cons hk.pe hv.pe hr.run⟩
theorem pairs_lift {σv : L2.St} {σ : DSt} : ∀ {trs : List (DTE × DTE)} {μ : Mu} {H : Hp} {Hd : DH} {Q : List (D × D) → DH → Prop} {Q' : List (V × V) → Hp → Prop}, Stp Y.μ0 Y.H0 μ H → RSt Y.G μ H σ σv → RHp Y.X.prog Y.X.w Y.G μ H Hd → dPairs trs σ Hd Q →
    (∀ ps vs Hd' H' μ', Q ps Hd' → Stp μ H μ' H' → RHp Y.X.prog Y.X.w Y.G μ' H' Hd' → P2 (fun (p : D × D) (q : V × V) => RD Y.G μ' H' p.1 q.1 ∧ RD Y.G μ' H' p.2 q.2) ps vs → Q' vs H') → tPairs (trs.map fun t => (Y.lE t.1, Y.lE t.2)) σv H Q'
  | [], μ, H, Hd, Q, Q', st, rs, rh, q, z => z [] [] Hd H μ q (Stp.refl _ _) rh .nil
  | (tk, tv) :: r, μ, H, Hd, Q, Q', st, rs, rh, q, z =>
    ⟨μ, σ, Hd, _, st, rs, rh, q, fun x Hd1 vx H1 μ1 q1 t1 rh1 d1 => ⟨μ1, σ, Hd1, _, st.trans t1, rs.step t1, rh1, q1, fun y Hd2 vy H2 μ2 q2 t2 rh2 d2 =>
      pairs_lift (st.trans (t1.trans t2)) (rs.step (t1.trans t2)) rh2 q2 fun ps vs Hd3 H3 μ3 q3 t3 rh3 ps3 => z _ _ Hd3 H3 μ3 q3 ((t1.trans t2).trans t3) rh3 (.cons ⟨(d1.step t2).step t3, d2.step t3⟩ ps3)⟩⟩
def dMerge (ps : List (D × D)) (acc : List (D × D)) : List (D × D) := ps.foldl (fun acc p => dKput acc p.1 p.2) acc
def dDisp (trs : List (DTE × DTE)) : DTE := fun σ H Q => dPairs trs σ H fun ps H1 => (∀ p ∈ ps, keyD p.1 ≠ none) ∧ ps.length ≤ 15 ∧ newO H1 (.dK (dMerge ps [])) fun i H2 => Q (.ref i) H2
theorem merge_V {R : D → V → Prop} : ∀ {ps : List (D × D)} {vs : List (V × V)} {acc : List (D × D)} {kws : List (Key × V)}, (∀ p ∈ ps, keyD p.1 ≠ none) → (∀ p ∈ ps, ∀ v k, R p.1 v → keyD p.1 = some k → v = kV k) →
    P2 (fun (p : D × D) (q : V × V) => R p.1 q.1 ∧ R p.2 q.2) ps vs → P2 (fun (p : D × D) (q : Key × V) => keyD p.1 = some q.1 ∧ R p.2 q.2) acc kws →
    ∃ kvs : List (Key × V), vs = kvs.map (fun kv => (kV kv.1, kv.2)) ∧ kvs.length = ps.length ∧ P2 (fun (p : D × D) (q : Key × V) => keyD p.1 = some q.1 ∧ R p.2 q.2) (dMerge ps acc) (mergeK kws kvs)
  | [], [], acc, kws, _, _, .nil, ha => ⟨[], rfl, rfl, ha⟩
  | p :: ps, q :: vs, acc, kws, h1, h2, .cons hp t, ha => by
    cases e : keyD p.1 with
    | none => exact absurd e (h1 p (List.mem_cons_self ..))
    | some k =>
      obtain ⟨kvs, e1, e2, e3⟩ := merge_V (acc := dKput acc p.1 p.2) (kws := putK kws k q.2) (fun p hp => h1 p (List.mem_cons_of_mem _ hp)) (fun p hp => h2 p (List.mem_cons_of_mem _ hp)) t (dKput_V e hp.2 ha)
      refine ⟨(k, q.2) :: kvs, ?_, by simp [e2], e3⟩
      rw [List.map_cons, ← e1, ← h2 p (List.mem_cons_self ..) _ _ hp.1 e]
theorem de_disp {keys : List (Option Expr)} {values : List Expr} {trs : List (DTE × DTE)} (h : DPs Y pos keys values trs) (hall : keys.all (·.isSome) = true := by rfl) (hl : keys.length = values.length := by rfl) (h0 : keys ≠ [] := by exact List.cons_ne_nil _ _)
    (h15 : keys.length ≤ 15 := by decide) : DE Y (.Dict keys values pos) (dDisp trs) :=
  .of (pe_disp h.run hall hl h0 h15) fun pins s σv H μ σ Hd Q I q p hn => by
    obtain ⟨t0, rh0⟩ := I.rh.laid hn (.dK [])
    refine pairs_lift (I.st.trans t0) (I.rs.step t0) rh0 q fun ps vs Hd1 H1 μ1 ⟨q1, q2, q3⟩ t1 rh1 hp => ?_
    obtain ⟨k1, k2⟩ := t1.fr p _ L2.upd_same (fun _ z => by cases z) (I.rh.nobody hn)
    obtain ⟨kvs, e1, e2, e3⟩ := merge_V (R := RD Y.G μ1 H1) (acc := []) (kws := []) q1 (fun p _ v k r e => keyD_V r e) hp .nil
    refine ⟨k1, kvs, e1, by rw [e2]; exact q2, ?_⟩
    have rh2 : RHp Y.X.prog Y.X.w Y.G μ1 (L2.upd H1 p (.dK (mergeK [] kvs))) Hd1 := rh1.setU (u0 := .dK []) trivial k1 k2
    have t2 : Stp μ H μ1 (L2.upd H1 p (.dK (mergeK [] kvs))) := (t0.trans t1).setU hn (u0 := .dK []) trivial k1
    have su : Stp0 μ1 H1 μ1 (L2.upd H1 p (.dK (mergeK [] kvs))) := stp0_upd (by rw [k1]; trivial)
    obtain ⟨i, t3, t4, rh3, q4⟩ := rh2.newO t2 hn q3 (by rw [L2.upd_same]; exact fun z => by cases z) k2 fun i t => ⟨_, L2.upd_same, (e3.imp fun p q z => ⟨z.1, (z.2.step0 su).step0 t⟩)⟩
    exact ⟨.ref i, _, _, t3, rh3, .ref muSet_same, q4⟩

/-! ### a, b = x, y -/
def dPar (i j : Nat) (Ta Tb : DTE) : DTS := fun D σ H => Ta σ H fun x H1 => Tb σ H1 fun y H2 => D.nx ((σ.set i (some x)).set j (some y)) H2
theorem ds_par {i j : Nat} {x y : Str} {a b : Expr} {Ta Tb : DTE} {px py pt : Pos} {kt k2 pt2} (hc : Y.X.calm = true) (hN : Y.X.N.Nodup) (ha : DE Y a Ta) (hb : DE Y b Tb) (hi : Y.X.N[i]? = some x := by rfl) (hj : Y.X.N[j]? = some y := by rfl) (hij : i ≠ j := by decide)
    (hx : Y.X.env.scope.names.lookup x = some .local := by rfl) (hy : Y.X.env.scope.names.lookup y = some .local := by rfl)
    (hs1 : starEach [a, b] Y.X.env = (false, eval a Y.X.env) :: starEach [b] Y.X.env := by rfl) (hs2 : starEach [b] Y.X.env = (false, eval b Y.X.env) :: starEach [] Y.X.env := by rfl)
    (hw : swappedStores [.Tuple [.Name x px, .Name y py] kt pt] (.Tuple [a, b] k2 pt2) Y.X.env = pure (some [x, y]) := by rfl)
    (hs : swapsWithSole [.Tuple [.Name x px, .Name y py] kt pt] (.Tuple [a, b] k2 pt2) pos.line Y.X.env = pure false := by rfl) :
    DS Y (.Assign [.Tuple [.Name x px, .Name y py] kt pt] (.Tuple [a, b] k2 pt2) pos) (dPar i j Ta Tb) :=
  .of (ps_par hc hN hi hj hij hx hy (pa_cons ha.pe (pa_cons hb.pe pa_nil hs2) hs1) hw hs) fun pins s σv H μ σ Hd D I h => ⟨μ, σ, Hd, _, I.st, I.rs, I.rh, h, fun x Hd1 vx H1 μ1 q1 t1 rh1 d1 =>
    ⟨μ1, σ, Hd1, _, I.st.trans t1, I.rs.step t1, rh1, q1, fun y Hd2 vy H2 μ2 q2 t2 rh2 d2 => ⟨_, _, rfl, μ2, _, Hd2, t1.trans t2, ((I.rs.step (t1.trans t2)).set i (d1.step t2)).set j d2, rh2, q2⟩⟩⟩

/-! ### o[i], without names -/
def dGet : DR2 := fun x y H Q => match x with
  | .ref i => (match H i with
    | some (.lst xs) => (match y with | .int j => (match L2.atI xs j with | some d => Q d H | none => False) | _ => False)
    | some (.dK kvs) => keyD y ≠ none ∧ (match dKat kvs y with | some d => Q d H | none => False)
    | _ => False)
  | _ => False
theorem get_all {X : Cx} (hu : X.A.units + 1 < cLine) : PGet X (fun o i H Q => (∃ p xs j v, o = .ref p ∧ i = .int j ∧ H p = some (.lst xs) ∧ L2.atI xs j = some v ∧ Q v H) ∨ ∃ a v, o = .ref a ∧ DGet H a i (some v) ∧ Q v H) := by
  intro pins s σ H o i ov iv Q I r1 r2 h
  rcases h with ⟨p, xs, j, v, rfl, rfl, hp, he, q⟩ | ⟨a, v, rfl, g, q⟩
  · cases r1
    obtain ⟨t, rfl⟩ := r2
    obtain ⟨its, r, pl, hz⟩ := I.list (SqL.of (K := X.K) hp)
    obtain ⟨k, h1, h2, h3, h4, h5⟩ := atI_get he
    obtain ⟨u, eu, ru⟩ := r.get h2
    have hl := r.length
    have hn := line63
    have fin : EP X pins σ Q u s := ⟨v, H, I, ru, q⟩
    by_cases h0 : 0 ≤ j
    · have hj : j.toNat = k := by
        rw [seqIndex_of h0 h5] at h1
        exact Option.some.inj h1
      exact wpAny_getItem_list pl.isList h0 (by omega) (x := u) (by rw [hj]; simpa using eu) fin
    · have hj : (j + (its.toArray.size : Int)).toNat = k := by
        rw [seqIndex_neg (by omega) h4] at h1
        rw [List.size_toArray, ← hl]
        exact Option.some.inj h1
      exact wpAny_getItem_list_neg (x := u) pl.isList (by omega) (by rw [List.size_toArray] <;> omega) (by omega) (by rw [hj]; simpa using eu) fin
  · cases r1
    exact d_getItem hu I g r2 fun w' s3 I3 rw' => ⟨v, H, I3, rw', q⟩
theorem getD (hu : Y.X.A.units + 1 < cLine) : GetD Y dGet := by
  refine ⟨_, get_all hu, fun {μ H Hd x y vx vy Q Q'} rh d1 d2 q z => ?_⟩
  unfold dGet at q
  split at q
  · cases d1 with
    | ref h =>
      split at q
      · rename_i xs h1
        obtain ⟨a', h2, vs, h3, h4⟩ := rh.obj _ _ h1
        rw [h] at h2; cases h2
        split at q
        · split at q
          · rename_i d e
            cases d2
            obtain ⟨v, e2, r2⟩ := h4.atI e
            exact .inl ⟨_, vs, _, v, rfl, rfl, h3, e2, z _ _ r2 q⟩
          · exact q.elim
        · exact q.elim
      · rename_i kvs h1
        obtain ⟨a', h2, kws, h3, h4⟩ := rh.obj _ _ h1
        rw [h] at h2; cases h2
        obtain ⟨hk, q⟩ := q
        split at q
        · rename_i d e
          cases ek : keyD y with
          | none => exact absurd ek hk
          | some k =>
            obtain ⟨v, e2, r2⟩ := dKat_V h4 ek e
            refine .inr ⟨_, v, rfl, ?_, z _ _ r2 q⟩
            rw [keyD_V d2 ek, ← e2]
            exact .k h3
        · exact q.elim
      · exact q.elim
  · exact q.elim
end
end DL

/-! DL9: defs keep their promises; repr; the law's end. -/
namespace DL
open PySem PySem.Spec
open PyProof.Rows L2

/-- the values at a def's entry -/
def startD (N : List Str) (ds : List D) : DSt := ds.map some ++ List.replicate (N.length - ds.length) none
theorem rst_start {G : Cfg} {μ : Mu} {H : Hp} {N : List Str} {ds : List D} {vs : List V} (r : RDs G μ H ds vs) : RSt G μ H (startD N ds) (L2.start N vs) := by
  have hl := r.length
  refine ⟨by simp [startD, L2.start, hl], fun i d e => ?_⟩
  unfold startD at e
  by_cases hi : i < ds.length
  · rw [List.getElem?_append_left (by simpa using hi), List.getElem?_map] at e
    cases q : ds[i]? with
    | none => rw [q] at e; cases e
    | some d' =>
      rw [q] at e
      cases e
      obtain ⟨v, h1, h2⟩ := r.get q
      exact ⟨v, by unfold L2.start; rw [List.getElem?_append_left (by rw [List.length_map, ← hl]; exact hi), List.getElem?_map, h1]; rfl, h2⟩
  · rw [List.getElem?_append_right (by simpa using hi), List.getElem?_replicate] at e
    split at e <;> cases e
/-- the wish about exceptions at a def's entry -/
theorem takes_def {P : Program} {w : World} {G : Cfg} {X : Cx} {E : XK} {W : DXW} {μ : Mu} {H : Hp} (tk : Takes X (fun cls d _ H => E cls d H))
    (z : ∀ c d Hd' a v H' μ', W c d Hd' → Stp μ H μ' H' → RHp P w G μ' H' Hd' → RD G μ' H' d v → H' a = some (.xd [("value", v)]) → E (.ref (G.cad c)) (some a) H') : Takes X (wxOf P w G μ H W) :=
  tk.imp fun cls dx σ H' ⟨c, d, a, v, μ', Hd', e1, e2, e3, st, rh, rd, q⟩ => by
    subst e1 e2
    exact z c d Hd' a v H' μ' q st rh rd e3
/-- a body's lifted reading at the entry -/
theorem body_start {P : Program} {w : World} {G : Cfg} {N : List Str} {T : DTS} {μ : Mu} {H : Hp} {Hd : DH} {ds : List D} {vs : List V} {Qd : DVK} {Q : VK} (rh : RHp P w G μ H Hd) (rd : RDs G μ H ds vs)
    (q : T { nx := fun _ Hd' => Qd .non Hd', rt := Qd } (startD N ds) Hd) (z : ∀ d Hd' v H' μ', Qd d Hd' → Stp μ H μ' H' → RHp P w G μ' H' Hd' → RD G μ' H' d v → Q v H') :
    liftS P w G μ H T { nx := fun _ H' => Q .non H', rt := Q } (L2.start N vs) H :=
  ⟨μ, startD N ds, Hd, _, Stp.refl _ _, rst_start rd, rh, q, fun σ' Hd' σv' H' μ' q t rs rh' => z .non Hd' .non H' μ' q t rh' .non, fun _ _ _ _ _ q => q.elim, fun _ _ _ _ _ q => q.elim, fun d Hd' v H' μ' q t rh' rd' => z d Hd' v H' μ' q t rh' rd'⟩
/-- the code object of the function at f -/
def codeA (K : PySem.W.Frag) (f : Addr) : Addr := match K.lookup f with
  | some ⟨_, _, .func fd, _⟩ => (match fd.code with
    | .ref c => c
    | _ => 0)
  | _ => 0
theorem codeA_eq {K : PySem.W.Frag} {f : Addr} {oc : Value} {od : Option Addr} {osl : Array (Option Value)} {fd : FuncData} {c : Addr} (lk : K.lookup f = some ⟨oc, od, .func fd, osl⟩) (e : fd.code = .ref c) : codeA K f = c := by
  unfold codeA
  rw [lk]
  show (match fd.code with | .ref c => c | _ => 0) = c
  rw [e]
section
variable {P : Program} {w : World} {K : PySem.W.Frag} {mg : Str → Option Value} {base : Heap} {G : Cfg} {x qual : Str} {params : Arguments} {body : List Stmt} {scope : Scope} {dvs : List V} {kws : List (Str × V)} {f : Addr} {fd : FuncData} {N ps : List Str} {k n : Nat} {S : DSp} {T : DXW → DTS}
/-- a def's context -/
abbrev dcx (P : Program) (w : World) (K : PySem.W.Frag) (mg : Str → Option Value) (base : Heap) (N : List Str) (qual : Str) (scope : Scope) (f : Addr) (cdv : Value) (A : Around) (outer : List Env) (s : Shared) (H : Hp) (E : XK) : Cx :=
  cxOf (CX P w) P w K mg base N qual scope f cdv A outer s H E
/-- what a def's walk has to be: for every entry -/
def Walk (P : Program) (w : World) (K : PySem.W.Frag) (mg : Str → Option Value) (base : Heap) (G : Cfg) (hK : G.K = K) (N : List Str) (qual : Str) (scope : Scope) (f : Addr) (cdv : Value) (k : Nat) (body : List Stmt) (T : DXW → DTS) : Prop :=
  ∀ (A : Around) (outer : List Env) (s : Shared) (H : Hp) (E : XK) (μ : Mu) (W : DXW) (tk : Takes (dcx P w K mg base N qual scope f cdv A outer s H E) (wxOf P w G μ H W)), Room k (A.deeper (envOfC qual scope s.heap.objs.size f cdv)) →
    DSs ⟨dcx P w K mg base N qual scope f cdv A outer s H E, G, μ, H, W, hK, tk⟩ body (T W)
theorem def_ok (F : FunD K x qual params body scope dvs kws f fd) (hK : G.K = K) (Sc : FnScope N ps scope) (hn : ps.length = n) (hb : Walk P w K mg base G hK N qual scope f (.ref (codeA K f)) k body T)
    (hT : ∀ ds Hd Qd Wd, ds.length = n → S ds Hd Qd Wd → T Wd { nx := fun _ Hd' => Qd .non Hd', rt := Qd } (startD N ds) Hd) : FnOk P w K mg base (CX P w) (k + 1) f fd ps (spD P w G n S) := by
  obtain ⟨oc, od, dV, kV, doc, pm, an, cdv, ct, osl, rfl, lk, hcd, _, _⟩ := F.ex
  obtain ⟨c, rfl⟩ := He.codeIn_ref hcd
  have hc : codeA K f = c := codeA_eq lk rfl
  rw [hc] at hb
  refine fn_of lk hcd Sc (fun vs H Q E h => h.1.trans hn.symm) fun A outer s H vs Q E hr hsp => ?_
  obtain ⟨hl, μ, Hd, ds, Qd, Wd, rh, rd, hs, z1, z2⟩ := hsp
  have tk := takes_def (P := P) (w := w) (G := G) (takes_of (X := dcx P w K mg base N qual scope f (.ref c) A outer s H E) rfl rfl rfl rfl) z2
  exact ⟨_, (hb A outer s H E μ Wd tk hr).pss, body_start rh rd (hT ds Hd Qd Wd (rd.length.trans hl) hs) z1⟩
/-- .. at one place of calling -/
theorem def_at (F : FunD K x qual params body scope dvs kws f fd) (hK : G.K = K) (Sc : FnScope N ps scope) {A : Around} {outer : List Env} {s : Shared} {H : Hp} {args : Args} {us : List Value} {vs : List V} {Q : VK} {E : XK}
    (hr : Room (k + 1) A) (e0 : Env0 P w K mg base A outer s H) (hbi : BindsTo s fd args (ps.zip us)) (rv : Vals vs us) (hl : vs.length = ps.length)
    (go : Room k (A.deeper (envOfC qual scope s.heap.objs.size f (.ref (codeA K f)))) → ∃ t, PSs (dcx P w K mg base N qual scope f (.ref (codeA K f)) A outer s H E) body t ∧ t { nx := fun _ H' => Q .non H', rt := Q } (L2.start N vs) H) :
    codeAny (model P w) A (.call (.ref f) args) (CR (CX P w) outer P w H s Q E) s := by
  obtain ⟨oc, od, dV, kV, doc, pm, an, cdv, ct, osl, rfl, lk, hcd, _, _⟩ := F.ex
  obtain ⟨c, rfl⟩ := He.codeIn_ref hcd
  have hc : codeA K f = c := codeA_eq lk rfl
  rw [hc] at go
  have inK : K.In s.heap := e0.mod.kin.keeps fun b o q => (e0.bs b o q).1
  have nl : s.heap.NoLimit := e0.mod.nolimit.keeps fun b o q => (e0.bs b o q).1
  have kinds : ∀ y ∈ ps.zip us, scope.names.lookup y.1 = some .local ∨ (scope.names.lookup y.1 = some .cell ∧ ((cellsFrom (s.heap.objs.size + 1) scope.names []).lookup y.1).isSome = true) := fun ⟨m, v⟩ hy =>
    (Sc.par m (List.of_mem_zip hy).1).imp id fun q => ⟨q, PySem.W.cellsFrom_some _ _ _ (.inl q)⟩
  refine codeAny_call_function hr.depth (inK _ _ lk) rfl Sc.co Sc.gen rfl (PySem.W.codeRec_of inK hcd) (hbi _ _ _ _ ?_)
  refine wpAny_newFunctionEnv_cells Sc.kind kinds fun env he s1 x1 => ?_
  subst he
  refine ⟨nl.keeps x1.toInCall.keep, codeAny_func ?_⟩
  obtain ⟨t, ht, hq⟩ := go (hr.deeper _)
  have J : Inv (dcx P w K mg base N qual scope f (.ref c) A outer s H E) [] (L2.start N vs) H s1 := inv_start Sc hr.hd e0 hl rv x1
  refine wpAny_mono (ht.run [] s1 (L2.start N vs) H _ J hq) (fun fl s' hs => ?_) fun e s' hs => hs
  cases fl with
  | ret u =>
    obtain ⟨v, σ', H', J', r', q⟩ := hs
    exact ⟨v, H', J'.os, J'.bare, J'.base, J'.hok, r', q⟩
  | next =>
    obtain ⟨σ', H', J', q⟩ := hs
    exact ⟨.non, H', J'.os, J'.bare, J'.base, J'.hok, rfl, q⟩
  | brk =>
    obtain ⟨_, _, _, q⟩ := hs
    exact q.elim
  | cont =>
    obtain ⟨_, _, _, q⟩ := hs
    exact q.elim
end

/-! ### repr of plain data in a new list -/
section
variable {Y : Dx} {e : Expr} {T : DTA} {pos p : Pos}
def dRepr (T : DTA) : DTE := fun σ H Q => T σ H fun ds H1 => ∃ ps, P2 (PD H1) ds ps ∧ (PyData.list ps).showable = true ∧ (PyData.list ps).hasDict = false ∧ (PyData.list ps).depth ≤ 50 ∧ (PyData.list ps).shown.length ≤ sizeLine ∧ Q (.str (PyData.list ps).shown) H1
theorem de_repr {x : Str} (hx : x = "repr") (hg : Gl Y.X "repr") (hm : Y.X.mg "repr" = none) (hgd : Y.X.A.guards = some []) (hu : Y.X.A.units + 64 < cLine) (he : DF Y e T) (hst : starEach [e] Y.X.env = (false, eval e Y.X.env) :: starEach [] Y.X.env := by rfl) :
    DE Y (.Call (.Name x p) [e] [] pos) (dRepr T) := by
  subst hx
  refine ⟨fun pins s σv H μ σ Hd Q I q => ?_⟩
  refine wpAny_Call_Name_kw (ld_blt I.inv hg hm bt_repr ?_ (by decide) (by decide))
  refine PyProof.Rows.callWith_builtin1 ?_ hst (by rfl)
  rw [hst]
  show wpAny _ _ (spliced ((false, eval e Y.X.env) :: backTo pos (starEach [] Y.X.env))) _ _ s
  refine Calls.spliced_cons (thn (he.run pins s σv H μ σ Hd _ I q) fun u s1 ⟨ds, vs, a, H1, μ1, Hd1, I1, t1, r1, h1, h2, rd, q1⟩ => Calls.spliced_nil ?_)
  subst r1
  obtain ⟨ps, hp, hs, hd, hdep, hz, q1⟩ := q1
  have all : DpAll Y.X.K H1 vs ps := by
    clear q1 hz hdep hd hs h1
    induction hp generalizing vs with
    | nil => cases rd; exact .nil
    | cons a b ih => cases rd with | cons r rs => exact .cons (Y.hK ▸ PD.dp I1.rh a r) (ih _ rs)
  obtain ⟨as, hr⟩ := Dp.reads I1.inv (.list ps) (.ref a) (.ref a) (.lst (.of h1) all) rfl
  refine repr_of_reads' (h₀ := s1.heap) hr hs (PyData.noDict_hsm hd) hgd (by omega) (fun b o q => q) (fun h' u tk k => ?_) hz
  exact ⟨.str _, .str _, H1, μ1, Hd1, I.to (I1.inv.kept k) t1 I1.rh, t1, ⟨u, rfl⟩, .str _, q1⟩
end
end DL

/-! DL10: the end of a law's row, where the law's def is walked at its caller alone. -/
namespace DL
open PySem PySem.Spec
open PyProof.Rows L2

/-- the heap at the law's entry: the tables, the script -/
def lawH (K : PySem.W.Frag) (cs : List (Addr × Addr)) (a : Addr) (o : Obj) (ns : List Int) : Hp := fun b =>
  if b ∈ cs.map (·.2) then some (.tbl #[]) else if b = a ∧ K.lookup a = none then some (.frz o (.lst (ns.map V.int))) else none
structure LawEntry (P : Program) (w : World) (K : PySem.W.Frag) (mg : Str → Option Value) (cs : List (Addr × Addr)) (a : Addr) (ns : List Int) (base : Heap) (H : Hp) (s : Shared) : Prop where
  e0 : Env0 P w K mg base callerA [] s H
  kin : K.In base
  glob : base.Ns mainGlobals mg
  tb : ∀ p ∈ cs, LamX.TabB base mg p.1 p.2
  tab : ∀ p ∈ cs, H p.2 = some (.tbl #[])
  script : RoL K H a (ns.map V.int)
theorem law_entry {P : Program} {w : World} {K : PySem.W.Frag} {mg mb : Str → Option Value} {a : Addr} {cs : List (Addr × Addr)} {s1 : Shared} {vs : List Value} {ns : List Int}
    (inK : K.In s1.heap) (gN : s1.heap.Ns mainGlobals mg) (bN : s1.heap.Ns builtinsNs mb) (bb : ∀ x : Str, x ≠ "__name__" → mb x = bootBuiltins x) (nl : s1.heap.NoLimit) (gens0 : s1.gens = #[])
    (tE : ∀ p ∈ cs, s1.heap.get? p.2 = some { cls := .none, data := .fields #[] }) (tN : ∀ p ∈ cs, K.lookup p.2 = none) (cH : ∀ p ∈ cs, PySem.W.CodeHd s1.heap p.1 p.2)
    (bm : ∃ (c : Addr) (ob : Obj), mg "__builtins__" = some (.ref c) ∧ c ≠ builtinsNs ∧ s1.heap.get? c = some ob ∧ ob.cls = .type "module" ∧ ob.dict = some builtinsNs ∧ ob.data = .plain)
    (lA : s1.heap.get? a = some { cls := .type "list", data := .seq vs.toArray }) (hI : IntsAre vs ns) (len : ns.length ≤ sizeLine) :
    LawEntry P w K mg cs a ns (hidT s1.heap (lawH K cs a { cls := .type "list", data := .seq vs.toArray } ns)) (lawH K cs a { cls := .type "list", data := .seq vs.toArray } ns) s1 := by
  have rv := vals_ints hI
  generalize hH : lawH K cs a { cls := .type "list", data := .seq vs.toArray } ns = H
  have atT : ∀ b, b ∈ cs.map (·.2) → s1.heap.get? b = some { cls := .none, data := .fields #[] } := fun b hb => by
    obtain ⟨q, hq, rfl⟩ := List.mem_map.mp hb
    exact tE q hq
  have aNo : a ∉ cs.map (·.2) := fun z => by
    have q := atT a z
    rw [lA] at q
    cases q
  have hT : ∀ b, b ∈ cs.map (·.2) → H b = some (.tbl #[]) := fun b hb => by rw [← hH]; exact if_pos hb
  have cases_ : ∀ b, H b ≠ none → b ∈ cs.map (·.2) ∨ (b = a ∧ K.lookup a = none ∧ H b = some (.frz { cls := .type "list", data := .seq vs.toArray } (.lst (ns.map V.int)))) := fun b hb => by
    rw [← hH] at hb ⊢
    unfold lawH at hb ⊢
    by_cases h1 : b ∈ cs.map (·.2)
    · exact .inl h1
    · by_cases h2 : b = a ∧ K.lookup a = none
      · rw [if_neg h1, if_pos h2]; exact .inr ⟨h2.1, h2.2, rfl⟩
      · rw [if_neg h1, if_neg h2] at hb; exact absurd rfl hb
  -- what is neither a list nor an empty table is free
  have free : ∀ {b : Addr} {o : Obj}, s1.heap.get? b = some o → (∀ l n, o.data ≠ .seq l n) → o.data ≠ .fields #[] → H b = none := fun {b o} e n1 n2 => by
    cases q : H b with
    | none => rfl
    | some u =>
      rcases cases_ b (by rw [q]; exact fun z => by cases z) with h | ⟨h, _, _⟩
      · rw [atT b h] at e; cases e; exact absurd rfl n2
      · rw [h, lA] at e; cases e; exact absurd rfl (n1 _ _)
  have stay : ∀ {b : Addr} {o : Obj}, s1.heap.get? b = some o → H b = none → (hidT s1.heap H).get? b = some o := fun e n => hidT_get e n
  have ns_ : ∀ {b : Addr} {m : Str → Option Value}, s1.heap.Ns b m → (hidT s1.heap H).Ns b m := fun {b m} ⟨o, es, ep, e, d, r⟩ =>
    ⟨o, es, ep, stay e (free e (fun l n z => by rw [d] at z; cases z) (fun z => by rw [d] at z; cases z)), d, r⟩
  have kin : K.In (hidT s1.heap H) := fun b o e => stay (inK b o e) (by
    cases q : H b with
    | none => rfl
    | some u =>
      rcases cases_ b (by rw [q]; exact fun z => by cases z) with h | ⟨h, n, _⟩
      · obtain ⟨p, hp, rfl⟩ := List.mem_map.mp h
        rw [tN p hp] at e; cases e
      · rw [h, n] at e; cases e)
  have md : L2.Mod K mg (hidT s1.heap H) := ⟨kin, ns_ gN, ⟨mb, ns_ bN, bb⟩, let ⟨mc, q1, q2⟩ := nl; ⟨mc, ns_ q1, q2⟩⟩
  have okH : HOk P w H s1.heap := fun b o e => by
    rcases cases_ b (by rw [e]; exact fun z => by cases z) with h | ⟨h, _, h3⟩
    · rw [hT b h] at e; cases e; exact atT b h
    · rw [h3] at e; cases e
      subst h
      exact ⟨lA, by rw [List.length_map]; exact len, vs, _, rv, lA⟩
  refine ⟨⟨rfl, md, fun b o e => of_hidT e, Nat.le_of_eq (hidT_size _ _), trivial, fun b hb => absurd (show b ∈ ([] : List Addr) from hb) (by simp), okH, .of_eq gens0⟩, kin, ns_ gN, fun p hp => ⟨?_, ?_, fun z => ?_⟩, fun p hp => hT _ (List.mem_map.mpr ⟨p, hp, rfl⟩), ?_⟩
  · obtain ⟨o, us, f1, f2, f3, f4, f5, f6, f7, e1, r1, r2, r3, rest⟩ := cH p hp
    refine ⟨o, us, f1, f2, f3, f4, f5, f6, f7, stay e1 (free e1 (fun l n z => by rw [r2] at z; cases z) (fun z => by rw [r2] at z; cases z; simp at r3)), r1, r2, r3, rest⟩
  · obtain ⟨c, ob, b1, b2, b3, b4, b5, b6⟩ := bm
    refine ⟨c, ob, b1, b2, fun q => ?_, fun q => ?_, stay b3 (free b3 (fun l n z => by rw [b6] at z; cases z) (fun z => by rw [b6] at z; cases z)), b4, b5, b6⟩
    · obtain ⟨o, es, ep, e, hd, _⟩ := gN
      rw [q, e] at b3; cases b3
      rw [hd] at b6; cases b6
    · rw [q, tE p hp] at b3; cases b3; cases b6
  · obtain ⟨o, es, ep, e, hd, _⟩ := gN
    rw [z, tE p hp] at e; cases e; cases hd
  · cases q : K.lookup a with
    | none => exact .inl ⟨_, by rw [← hH]; unfold lawH; rw [if_neg aNo, if_pos ⟨rfl, q⟩]⟩
    | some o =>
      have e := inK a o q
      rw [lA] at e; cases e
      exact .inr ⟨_, vs.toArray, _, q, rfl, rfl, rfl, by rw [List.size_toArray, hI.length]; exact len, by simpa using rv⟩
/-- back from the law -/
theorem law_back {P : Program} {w : World} {K : PySem.W.Frag} {mg : Str → Option Value} {a : Addr} {cs : List (Addr × Addr)} {s1 s' : Shared} {vs : List Value} {ns : List Int} {base : Heap} {H : Hp} {r : Result}
    (hH : H = lawH K cs a { cls := .type "list", data := .seq vs.toArray } ns) (L : LawEntry P w K mg cs a ns base H s1) (tE : ∀ p ∈ cs, s1.heap.get? p.2 = some { cls := .none, data := .fields #[] }) (cH : ∀ p ∈ cs, PySem.W.CodeHd s1.heap p.1 p.2)
    (h : CR (CX P w) [] P w H s1 (fun v _ => v = .bl true) (fun _ _ _ => False) r s') : r = .ok (.ret (.bool true)) ∧ OldK s1.heap s'.heap ∧ s'.os = s1.os ∧ AllBare s'.gens := by
  cases r with
  | error e =>
    obtain ⟨_, _, _, _, _, _, _, _, _, _, _, _, z⟩ := h
    exact z.elim
  | ok fl =>
    cases fl with
    | next => exact False.elim h
    | brk => exact False.elim h
    | cont => exact False.elim h
    | ret u =>
      obtain ⟨v, H', os, bare, un, ok', r', q⟩ := h
      subst q
      obtain rfl : u = Value.bool true := r'
      have same : ∀ b o, b ∉ cs.map (·.2) → s1.heap.get? b = some o → s'.heap.get? b = some o := fun b o nb e => by
        cases q : H b with
        | none => exact un.keep b o e q (fun z => absurd (show b ∈ ([] : List Addr) from z) (by simp)) (by simp)
        | some u =>
          have q2 := q
          rw [hH] at q2
          unfold lawH at q2
          rw [if_neg nb] at q2
          split at q2
          · cases q2
            have z := un.frzs b _ _ q
            obtain ⟨e1, _⟩ := L.e0.hok b _ q
            obtain ⟨e2, _⟩ := ok' b _ z
            rw [e] at e1; cases e1
            exact e2
          · cases q2
      have grown : ∀ p ∈ cs, ∃ more : Array Value, s'.heap.get? p.2 = some { cls := .none, data := .fields more } := fun p hp => by
        obtain ⟨more, z⟩ := un.tbls p.2 #[] (L.tab p hp)
        exact ⟨_, ok' p.2 _ z⟩
      refine ⟨rfl, ⟨fun b o e => ?_, fun b o e => ?_⟩, os, bare⟩
      · by_cases hb : b ∈ cs.map (·.2)
        · obtain ⟨p, hp, rfl⟩ := List.mem_map.mp hb
          obtain ⟨more, hm⟩ := grown p hp
          rw [tE p hp] at e; cases e
          exact .inr (.inl ⟨((cH p hp).tab (tE p hp)).isCodeTable, rfl, #[], more, rfl, by rw [Array.empty_append]; exact hm⟩)
        · exact .inl (same b o hb e)
      · by_cases hb : b ∈ cs.map (·.2)
        · obtain ⟨p, hp, rfl⟩ := List.mem_map.mp hb
          obtain ⟨more, hm⟩ := grown p hp
          exact ⟨_, hm⟩
        · exact ⟨o, same b o hb e⟩
end DL

/-! DL11: [x] * n, comparisons with a new list; readings in short. -/
namespace DL
open PySem PySem.Spec
open PyProof.Rows L2
section
variable {Y : Dx} {a b : Expr} {T : DTA} {Ta Tb : DTE} {pos : Pos}
/-- a new list times a name's int -/
def dRep (T : DTA) (Tb : DTE) : DTA := fun σ H Q => T σ H fun ds H1 => Tb σ H1 fun y H2 => match y with | .int k => (-(2 ^ 63) ≤ k ∧ k < 2 ^ 63) ∧ ds.length * k.toNat ≤ sizeLine ∧ Q (List.replicate k.toNat ds).flatten H2 | _ => False
theorem RDs.flat {G : Cfg} {μ : Mu} {H : Hp} {ds : List D} {vs : List V} (r : RDs G μ H ds vs) : ∀ n, RDs G μ H (List.replicate n ds).flatten (List.replicate n vs).flatten
  | 0 => .nil
  | n + 1 => by
    rw [List.replicate_succ, List.replicate_succ, List.flatten_cons, List.flatten_cons]
    exact r.append (RDs.flat r n)
theorem df_rep (ha : DF Y a T) (hb : DE Y b Tb) : DF Y (.BinOp a .Mult b pos) (dRep T Tb) :=
  .of (pe_op op_rep ha.pe hb.pe) fun pins s σv H μ σ Hd Q I q => ⟨μ, σ, Hd, _, I.st, I.rs, I.rh, q, fun ds Hd1 a vs H1 μ1 q1 t1 rh1 rd1 h1 h2 => ⟨μ1, σ, Hd1, _, I.st.trans t1, I.rs.step t1, rh1, q1, fun y Hd2 vy H2 μ2 q2 t2 rh2 d2 => by
    split at q2
    · cases d2
      obtain ⟨h3, h4⟩ := t2.frl h1 h2.2
      have rd2 := rd1.step t2
      refine ⟨a, _, vs, rfl, rfl, h3, q2.1.1, q2.1.2, by rw [← rd2.length]; exact q2.2.1, fun p hp => ?_⟩
      obtain ⟨t3, rh3⟩ := rh2.laid hp (.lst (List.replicate _ vs).flatten)
      exact ⟨_, p, _, μ2, Hd2, rfl, L2.upd_same, ⟨(t1.trans t2).new hp, rh2.nobody hp⟩, (t1.trans t2).trans t3, rh3, (rd2.step t3).flat _, q2.2.2⟩
    · exact q2.elim⟩⟩
/-- e == [..], e != [..] -/
def dCmpF (neg : Bool) (Ta : DTE) (T : DTA) : DTE := fun σ H Q => Ta σ H fun x H1 => T σ H1 fun ds H2 => ∃ p qs, PD H2 x p ∧ P2 (PD H2) ds qs ∧ SeqAt.shaped p = true ∧ SeqAt.shaped (.list qs) = true ∧ Q (.bl (neg ^^ PyData.eqv p (.list qs))) H2
theorem pd_all {P : Program} {w : World} {G : Cfg} {μ : Mu} {H : Hp} {Hd : DH} (rh : RHp P w G μ H Hd) {ds : List D} {ps : List PyData} (h : P2 (PD Hd) ds ps) : ∀ {vs : List V}, RDs G μ H ds vs → DpAll G.K H vs ps := by
  induction h with
  | nil => intro vs r; cases r; exact .nil
  | cons a b ih => intro vs r; cases r with | cons r rs => exact .cons (PD.dp rh a r) (ih rs)
theorem cmpF_ok {op : CmpOp} {r : R2} {neg : Bool} (ho : OpR Y.X (compareOp op) r) (hr : ∀ x y H Q, (∃ d e, Dp Y.X.K H x d ∧ Dp Y.X.K H y e ∧ SeqAt.shaped d = true ∧ SeqAt.shaped e = true ∧ Q (.bl (neg ^^ PyData.eqv d e)) H) → r x y H Q) (ha : DE Y a Ta) (hb : DF Y b T) (hm : behindInMarks op b = false) :
    DE Y (.Compare a [op] [b] pos) (dCmpF neg Ta T) :=
  .of (pe_cmpR ho ha.pe hb.pe hm) fun pins s σv H μ σ Hd Q I q => ⟨μ, σ, Hd, _, I.st, I.rs, I.rh, q, fun x Hd1 vx H1 μ1 q1 t1 rh1 d1 => ⟨μ1, σ, Hd1, _, I.st.trans t1, I.rs.step t1, rh1, q1, fun ds Hd2 a vs H2 μ2 q2 t2 rh2 d2 h1 h2 => by
    obtain ⟨p, qs, e1, e2, e3, e4, q2⟩ := q2
    exact hr _ _ _ _ ⟨p, .list qs, Y.hK ▸ e1.dp rh2 (d1.step t2), .lst (.of h1) (Y.hK ▸ pd_all rh2 e2 d2), e3, e4, _, μ2, Hd2, t1.trans t2, rh2, .bl _, q2⟩⟩⟩
theorem de_eqF (hu : Y.X.A.units + 64 < cLine) (ha : DE Y a Ta) (hb : DF Y b T) : DE Y (.Compare a [.Eq] [b] pos) (dCmpF false Ta T) :=
  cmpF_ok (op_eqD hu) (fun x y H Q ⟨d, e, h1, h2, h3, h4, q⟩ => ⟨d, e, h1, h2, h3, h4, by simpa using q⟩) ha hb (L2.nomark _)
theorem de_neF (hu : Y.X.A.units + 64 < cLine) (ha : DE Y a Ta) (hb : DF Y b T) : DE Y (.Compare a [.NotEq] [b] pos) (dCmpF true Ta T) :=
  cmpF_ok (op_neD hu) (fun x y H Q ⟨d, e, h1, h2, h3, h4, q⟩ => ⟨d, e, h1, h2, h3, h4, by simpa using q⟩) ha hb (L2.nomark _)
/-- a comparison, any expression, whose value is a bool, as a test -/
theorem dt_of_cmp {op : CmpOp} {b' : Expr} {Tc : DTE} (h : DE Y (.Compare a [op] [b'] pos) Tc) (he : ∀ whole, isTrue (.Compare a [op] [b'] pos) Y.X.env whole = (do let v ← whole; standAt (Expr.Compare a [op] [b'] pos).pos; holding [v] (truthy v)) := by intro _; rfl) : DT Y (.Compare a [op] [b'] pos) (dTest Tc) := dt_val h he
end

/-! ### readings of comprehensions whose parts leave the heap as it is -/
theorem dLc_map {K : DIter} {n : Nat} {t : Tgt} {tt : DTT} {te : DTE} {vs : List Nat} {σ : DSt} {H1 : DH} {Q : List D → DH → Prop} {xs : List D} (f : Nat → D) (hK : K.at H1 = some xs) (hl : xs.length = n) (hz : n ≤ sizeLine)
    (hs : ∀ (i : Nat) (x : D), xs[i]? = some x → ∃ σ2, bindT t x H1 (wipeD σ vs) = some σ2 ∧ ∀ R : Bool → DH → Prop, R true H1 → tt σ2 H1 R)
    (he : ∀ (i : Nat) (x : D) (σ2 : DSt), xs[i]? = some x → bindT t x H1 (wipeD σ vs) = some σ2 → ∀ R : DVK, R (f i) H1 → te σ2 H1 R) (q : Q ((List.range n).map f) H1) :
    ∃ (n : Nat) (I : Nat → List D → DH → Prop), n ≤ sizeLine ∧ I 0 [] H1 ∧
      (∀ i acc H, i < n → I i acc H → ∃ xs x σ2, K.at H = some xs ∧ xs.length = n ∧ xs[i]? = some x ∧ bindT t x H (wipeD σ vs) = some σ2 ∧ tt σ2 H fun b H3 => if b = true then te σ2 H3 fun y H4 => I (i + 1) (acc ++ [y]) H4 else I (i + 1) acc H3) ∧
      (∀ acc H, I n acc H → (∃ xs, K.at H = some xs ∧ xs.length = n) ∧ Q acc H) := by
  refine ⟨n, fun i acc H => H = H1 ∧ acc = (List.range i).map f, hz, ⟨rfl, rfl⟩, ?_, ?_⟩
  · rintro i acc H hi ⟨rfl, rfl⟩
    have e : xs[i]? = some xs[i] := by simp [hl, hi]
    obtain ⟨σ2, h1, h2⟩ := hs i _ e
    refine ⟨xs, _, σ2, hK, hl, e, h1, h2 _ ?_⟩
    rw [if_pos rfl]
    refine he i _ σ2 e h1 _ ⟨rfl, ?_⟩
    rw [List.range_succ, List.map_append]; rfl
  · rintro acc H ⟨rfl, rfl⟩
    exact ⟨⟨xs, hK, hl⟩, q⟩
/-- with a filter -/
theorem dLc_fil {K : DIter} {n : Nat} {t : Tgt} {tt : DTT} {te : DTE} {vs : List Nat} {σ : DSt} {H1 : DH} {Q : List D → DH → Prop} {xs : List D} (p : Nat → Bool) (f : Nat → D) (hK : K.at H1 = some xs) (hl : xs.length = n) (hz : n ≤ sizeLine)
    (hs : ∀ (i : Nat) (x : D), xs[i]? = some x → ∃ σ2, bindT t x H1 (wipeD σ vs) = some σ2 ∧ (∀ R : Bool → DH → Prop, R (p i) H1 → tt σ2 H1 R) ∧ ∀ R : DVK, p i = true → R (f i) H1 → te σ2 H1 R) (q : Q (((List.range n).filter p).map f) H1) :
    ∃ (n : Nat) (I : Nat → List D → DH → Prop), n ≤ sizeLine ∧ I 0 [] H1 ∧
      (∀ i acc H, i < n → I i acc H → ∃ xs x σ2, K.at H = some xs ∧ xs.length = n ∧ xs[i]? = some x ∧ bindT t x H (wipeD σ vs) = some σ2 ∧ tt σ2 H fun b H3 => if b = true then te σ2 H3 fun y H4 => I (i + 1) (acc ++ [y]) H4 else I (i + 1) acc H3) ∧
      (∀ acc H, I n acc H → (∃ xs, K.at H = some xs ∧ xs.length = n) ∧ Q acc H) := by
  refine ⟨n, fun i acc H => H = H1 ∧ acc = ((List.range i).filter p).map f, hz, ⟨rfl, rfl⟩, ?_, ?_⟩
  · rintro i acc H hi ⟨rfl, rfl⟩
    have e : xs[i]? = some xs[i] := by simp [hl, hi]
    obtain ⟨σ2, h1, h2, h3⟩ := hs i _ e
    refine ⟨xs, _, σ2, hK, hl, e, h1, h2 _ ?_⟩
    cases hp : p i with
    | true =>
      rw [if_pos rfl]
      refine h3 _ hp ⟨rfl, ?_⟩
      rw [List.range_succ, List.filter_append, List.map_append]
      simp [hp]
    | false =>
      rw [if_neg Bool.false_ne_true]
      refine ⟨rfl, ?_⟩
      rw [List.range_succ, List.filter_append, List.map_append]
      simp [hp]
  · rintro acc H ⟨rfl, rfl⟩
    exact ⟨⟨xs, hK, hl⟩, q⟩
/-- all(..), any(..) of parts that leave the heap as it is -/
theorem dGen_all {K : DIter} {n : Nat} {t : Tgt} {te : DTE} {vs : List Nat} {σ : DSt} {H1 : DH} {Q : DVK} {xs : List D} (p : Nat → Bool) (hK : K.at H1 = some xs) (hl : xs.length = n)
    (hs : ∀ (i : Nat) (x : D), xs[i]? = some x → (∀ j, j < i → p j = true) → ∃ σ2, bindT t x H1 (wipeD σ vs) = some σ2 ∧ ∀ R : DVK, R (.bl (p i)) H1 → te σ2 H1 R) (q : Q (.bl ((List.range n).all p)) H1) :
    ∃ (n : Nat) (I : Nat → DH → Prop), I 0 H1 ∧
      (∀ i H, i < n → I i H → ∃ xs x σ2, K.at H = some xs ∧ xs.length = n ∧ xs[i]? = some x ∧ bindT t x H (wipeD σ vs) = some σ2 ∧ dYes σ2 H fun b H3 => if b = true then te σ2 H3 fun y H4 => (match y with
        | .bl k => if k = false then Q (.bl false) H4 else I (i + 1) H4
        | _ => False) else I (i + 1) H3) ∧
      (∀ H, I n H → (∃ xs, K.at H = some xs ∧ xs.length = n) ∧ Q (.bl (!false)) H) := by
  refine ⟨n, fun i H => H = H1 ∧ ∀ j, j < i → p j = true, ⟨rfl, fun j h => by omega⟩, ?_, ?_⟩
  · rintro i H hi ⟨rfl, ha⟩
    have e : xs[i]? = some xs[i] := by simp [hl, hi]
    obtain ⟨σ2, h1, h2⟩ := hs i _ e ha
    refine ⟨xs, _, σ2, hK, hl, e, h1, ?_⟩
    unfold dYes
    dsimp only
    rw [if_pos rfl]
    refine h2 _ ?_
    dsimp only
    cases hp : p i with
    | false =>
      rw [if_pos rfl]
      have e2 : (List.range n).all p = false := by
        rw [List.all_eq_false]
        exact ⟨i, List.mem_range.mpr hi, by simp [hp]⟩
      rw [e2] at q
      exact q
    | true =>
      rw [if_neg (by simp)]
      exact ⟨rfl, fun j hj => by
        by_cases h : j = i
        · rw [h]; exact hp
        · exact ha j (by omega)⟩
  · rintro H ⟨rfl, ha⟩
    refine ⟨⟨xs, hK, hl⟩, ?_⟩
    have e2 : (List.range n).all p = true := by
      rw [List.all_eq_true]
      exact fun j hj => ha j (List.mem_range.mp hj)
    rw [e2] at q
    exact q
end DL

/-! DL12: short names of readings; the head's facts, by a hook of my own. -/
namespace DL
open PySem PySem.Spec
open PyProof.Rows L2
def dListOf (Te : DTE) : DTA := fun σ H Q => Te σ H fun x H1 => match itemsD x H1 with | some xs => Q xs H1 | none => False
def dLenF : DRA := fun ds H Q => Q (.int ds.length) H
def dTupF : DRA := fun ds H Q => Q (.tup ds) H
def dAllF : DRA := fun ds H Q => ∃ bs : List Bool, ds = bs.map D.bl ∧ Q (.bl (bs.all id)) H
def dAnyF : DRA := fun ds H Q => ∃ bs : List Bool, ds = bs.map D.bl ∧ Q (.bl (bs.any id)) H
def dLenO (c : Nat) (S : DSp) (Te : DTE) : DTE := fun σ H Q => Te σ H fun x H1 => insOf c x H1 ≠ none ∧ S [x] H1 (fun d H2 => match d with | .int i => (0 ≤ i ∧ i < 2 ^ 63) ∧ Q (.int i) H2 | _ => False) (fun _ _ _ => False)
def dMakeK (c n : Nat) (g : {α : Type} → List α → List α → List α) (m : Nat) (S : DSp) (W : DXW) (T : DTA) : DTE := fun σ H Q => T σ H fun ds H1 => ds.length = m ∧ newO H1 (.ins c []) fun i H2 => (g [D.ref i] ds).length = n ∧ S (g [.ref i] ds) H2 (fun d H3 => (match d with | .non => Q (.ref i) H3 | _ => False)) W
def dMethK (c n : Nat) (g : {α : Type} → List α → List α → List α) (m : Nat) (S : DSp) (W : DXW) (To : DTE) (T : DTA) : DTE := fun σ H Q => To σ H fun x H1 => insOf c x H1 ≠ none ∧ T σ H1 fun ds H2 => ds.length = m ∧ (g [x] ds).length = n ∧ S (g [x] ds) H2 Q W
abbrev noW : DXW := fun _ _ _ => False
theorem nofm {G : Cfg} {m : Str} (h : (List.range G.nf).all (fun i => decide (G.fnm i ≠ m)) = true) : ∀ i, i < G.nf → G.fnm i ≠ m := fun i hi => of_decide_eq_true (List.all_eq_true.mp h i (List.mem_range.mpr hi))
section
variable {Y : Dx} {a b : Expr} {T : DTA} {Ta : DTE} {pos : Pos}
def dCmpFT (neg : Bool) (Ta : DTE) (T : DTA) : DTT := fun σ H Q => Ta σ H fun x H1 => T σ H1 fun ds H2 => ∃ p qs, PD H2 x p ∧ P2 (PD H2) ds qs ∧ SeqAt.shaped p = true ∧ SeqAt.shaped (.list qs) = true ∧ Q (neg ^^ PyData.eqv p (.list qs)) H2
theorem cmpFT_ok {op : CmpOp} {r : R2} {neg : Bool} (ho : OpR Y.X (compareOp op) r) (hr : ∀ x y H Q, (∃ d e, Dp Y.X.K H x d ∧ Dp Y.X.K H y e ∧ SeqAt.shaped d = true ∧ SeqAt.shaped e = true ∧ Q (.bl (neg ^^ PyData.eqv d e)) H) → r x y H Q) (ha : DE Y a Ta) (hb : DF Y b T) (hm : behindInMarks op b = false) :
    DT Y (.Compare a [op] [b] pos) (dCmpFT neg Ta T) :=
  .of (pt_cmpR ho ha.pe hb.pe hm) fun pins s σv H μ σ Hd Q I q => ⟨μ, σ, Hd, _, I.st, I.rs, I.rh, q, fun x Hd1 vx H1 μ1 q1 t1 rh1 d1 => ⟨μ1, σ, Hd1, _, I.st.trans t1, I.rs.step t1, rh1, q1, fun ds Hd2 a vs H2 μ2 q2 t2 rh2 d2 h1 h2 => by
    obtain ⟨p, qs, e1, e2, e3, e4, q2⟩ := q2
    exact hr _ _ _ _ ⟨p, .list qs, Y.hK ▸ e1.dp rh2 (d1.step t2), .lst (.of h1) (Y.hK ▸ pd_all rh2 e2 d2), e3, e4, _, rfl, μ2, Hd2, t1.trans t2, rh2, q2⟩⟩⟩
theorem dt_eqF (hu : Y.X.A.units + 64 < cLine) (ha : DE Y a Ta) (hb : DF Y b T) : DT Y (.Compare a [.Eq] [b] pos) (dCmpFT false Ta T) :=
  cmpFT_ok (op_eqD hu) (fun x y H Q ⟨d, e, h1, h2, h3, h4, q⟩ => ⟨d, e, h1, h2, h3, h4, by simpa using q⟩) ha hb (L2.nomark _)
theorem dt_neF (hu : Y.X.A.units + 64 < cLine) (ha : DE Y a Ta) (hb : DF Y b T) : DT Y (.Compare a [.NotEq] [b] pos) (dCmpFT true Ta T) :=
  cmpFT_ok (op_neD hu) (fun x y H Q ⟨d, e, h1, h2, h3, h4, q⟩ => ⟨d, e, h1, h2, h3, h4, by simpa using q⟩) ha hb (L2.nomark _)
end

theorem genOkBy {X : Cx} {N : List Str} {sc scope : Scope} {own : List (Str × Nat)} (h : DG.genC N sc scope own = true) (hN : X.N = N := by rfl) (hs : X.env.scope = sc := by rfl) : DG.GenOk X scope own := DG.genOk_by (by rw [hN, hs]; exact h)
/-! ### the head -/
def ppA (K : PySem.W.Frag) (C m : Str) : Addr := match PySem.W.findIn K (.ref (He.ga K C)) m with
  | some (some (.ref p)) => p
  | _ => 0
def gAd (K : PySem.W.Frag) (C m : Str) : Addr := match PySem.W.recIn K (ppA K C m) "property" with
  | some (.ref g :: _) => g
  | _ => 0
def isCons (g : Addr) : Option (List Value) → Bool
  | some (.ref h :: _) => decide (h = g)
  | _ => false
def propB (K : PySem.W.Frag) (q : Str × Str) : Bool := He.eqO (PySem.W.findIn K (.ref (He.ga K q.1)) q.2) (some (some (.ref (ppA K q.1 q.2)))) && (He.eqO (PySem.W.specialIn K (.ref (ppA K q.1 q.2)) "__get__") (some (some (.builtin "property.__get__"))) &&
  (decide (PySem.W.takesIn K (.ref (ppA K q.1 q.2)) = some true) && isCons (gAd K q.1 q.2) (PySem.W.recIn K (ppA K q.1 q.2) "property")))
theorem propB_ok {K : PySem.W.Frag} {q : Str × Str} (h : propB K q = true) : PropOf K (He.ga K q.1) q.2 (ppA K q.1 q.2) (gAd K q.1 q.2) := by
  obtain ⟨h1, h⟩ := He.ba h
  obtain ⟨h2, h⟩ := He.ba h
  obtain ⟨h3, h4⟩ := He.ba h
  refine ⟨He.eqO_ok h1, He.eqO_ok h2, of_decide_eq_true h3, ?_⟩
  revert h4
  generalize gAd K q.1 q.2 = g
  cases e : PySem.W.recIn K (ppA K q.1 q.2) "property" with
  | none => intro h; cases h
  | some l =>
    intro h
    cases l with
    | nil => cases h
    | cons x r =>
      cases x with
      | ref b => exact ⟨r, by rw [← of_decide_eq_true h]⟩
      | _ => cases h
abbrev FnP := PySem.W.Frag → Addr
def cTA (K : PySem.W.Frag) (f : FnP) : Addr × Addr := (codeA K (f K), He.tabOf K (codeA K (f K)))
def tabsA (g : Addr → Option Obj) (tf : List FnP) (K : PySem.W.Frag) : Bool := tf.all fun p => PySem.W.codeHdIn K (cTA K p).1 (cTA K p).2 && (match g (cTA K p).2 with
  | some o => He.emptyTab o
  | none => false)
structure SaysL (fa : List He.Fa) (fn : List He5.DefA) (pr : List (Str × Str)) (tf : List FnP) (h : Heap) (K : PySem.W.Frag) : Prop where
  fa_ : He5.obsA fa fn K = He5.valA fn
  pr_ : ∀ q ∈ pr, propB K q = true
  hd : ∀ p ∈ tf, PySem.W.codeHdIn K (cTA K p).1 (cTA K p).2 = true
  out : ∀ p ∈ tf, K.lookup (cTA K p).2 = none
  empty : ∀ p ∈ tf, h.get? (cTA K p).2 = some { cls := .none, data := .fields #[] }
abbrev AlL : Type := He.AlD × Bool
def obsLK (fa : List He.Fa) (fn : List He5.DefA) (pr : List (Str × Str)) (tf : List FnP) (g : Addr → Option Obj) (K : PySem.W.Frag) : AlL := (He5.obsA fa fn K, (pr.all fun q => propB K q) && tabsA g tf K)
def obsL (n : Nat) (fa : List He.Fa) (fn : List He5.DefA) (pr : List (Str × Str)) (tf : List FnP) (g : Addr → Option Obj) : AlL := obsLK fa fn pr tf g (He.frT g (He.asD g n))
def valL (fn : List He5.DefA) : AlL := (He5.valA fn, true)
theorem saysL_of {n : Nat} {fa : List He.Fa} {fn : List He5.DefA} {pr : List (Str × Str)} {tf : List FnP} {h : Heap} (e : obsL n fa fn pr tf h.get? = valL fn) : SaysL fa fn pr tf h (He.frT h.get? (He.asD h.get? n)) := by
  have e1 : He5.obsA fa fn (He.frT h.get? (He.asD h.get? n)) = He5.valA fn := congrArg (fun z : AlL => z.1) e
  have e2 : ((pr.all fun q => propB (He.frT h.get? (He.asD h.get? n)) q) && tabsA h.get? tf (He.frT h.get? (He.asD h.get? n))) = true := congrArg (fun z : AlL => z.2) e
  obtain ⟨h1, h2⟩ := He.ba e2
  have key : ∀ p ∈ tf, PySem.W.codeHdIn (He.frT h.get? (He.asD h.get? n)) (cTA (He.frT h.get? (He.asD h.get? n)) p).1 (cTA (He.frT h.get? (He.asD h.get? n)) p).2 = true ∧ ∃ o, h.get? (cTA (He.frT h.get? (He.asD h.get? n)) p).2 = some o ∧ He.emptyTab o = true := fun p hp => by
    obtain ⟨h3, h4⟩ := He.ba (List.all_eq_true.mp h2 p hp)
    refine ⟨h3, ?_⟩
    cases q : h.get? (cTA (He.frT h.get? (He.asD h.get? n)) p).2 with
    | none => rw [q] at h4; cases h4
    | some o => rw [q] at h4; exact ⟨o, rfl, h4⟩
  exact ⟨e1, fun q hq => List.all_eq_true.mp h1 q hq, fun p hp => (key p hp).1, fun p hp => by
    obtain ⟨_, o, q, z⟩ := key p hp
    exact He.frT_none q z, fun p hp => by
    obtain ⟨_, o, q, z⟩ := key p hp
    rw [q, He.emptyTab_eq z]⟩
def hookL (n : Nat) (fa : List He.Fa) (fn : List He5.DefA) (pr : List (Str × Str)) (tf : List FnP) : PySem.W.Hook where
  α := AlL
  obs := fun s => obsL n fa fn pr tf s.heap.get?
  val := fun _ => valL fn
  says := fun _ h => ∃ K : PySem.W.Frag, K.In h ∧ SaysL fa fn pr tf h K
  of := fun _ _ e => ⟨_, He.frT_in, saysL_of e⟩
  keeps := fun _ _ _ ⟨K, hK, c⟩ k => ⟨K, PySem.W.Frag.In.keeps hK k, ⟨c.fa_, c.pr_, c.hd, c.out, fun p hp => k _ _ (c.empty p hp)⟩⟩
theorem obsL_eq {n : Nat} {fa : List He.Fa} {fn : List He5.DefA} {pr : List (Str × Str)} {tf : List FnP} {g : Addr → Option Obj} {s : Shared} (h : ∀ a, g a = s.heap.get? a) : obsL n fa fn pr tf g = (hookL n fa fn pr tf).obs s := by
  have e : g = s.heap.get? := funext h
  rw [e] <;> rfl
/-- what a walk leans on -/
structure KC (fa : List He.Fa) (pr : List (Str × Str)) (tf : List FnP) (K : PySem.W.Frag) (mg : Str → Option Value) (base : Heap) : Prop where
  kin : K.In base
  ns : base.Ns mainGlobals mg
  fa_ : ∀ f ∈ fa, f.ok K = true
  pr_ : ∀ q ∈ pr, propB K q = true
  tb_ : ∀ p ∈ tf, GxR.TabB base mg (cTA K p).1 (cTA K p).2
section
variable {fa : List He.Fa} {pr : List (Str × Str)} {tf : List FnP} {K : PySem.W.Frag} {mg : Str → Option Value} {base : Heap} (C : KC fa pr tf K mg base)
include C
theorem KC.free (i : Nat) {x : Str} (h : fa[i]? = some (.free x)) : mg x = none := He.free_ok C.kin C.ns (C.fa_ _ (List.mem_of_getElem? h))
theorem KC.glo (i : Nat) {x : Str} (h : fa[i]? = some (.glo x)) : mg x = some (.ref (He.ga K x)) := He.glo_ok C.kin C.ns (C.fa_ _ (List.mem_of_getElem? h))
theorem KC.keep (i : Nat) {x : Str} (h : fa[i]? = some (.keep x)) : PySem.W.keepIn K (.ref (He.ga K x)) = true := He.keep_ok (C.fa_ _ (List.mem_of_getElem? h))
theorem KC.cls (i : Nat) {x : Str} (h : fa[i]? = some (.cls x)) : Cls K (He.ga K x) := He.cls_ok (C.fa_ _ (List.mem_of_getElem? h))
theorem KC.noat (i : Nat) {x f : Str} (h : fa[i]? = some (.noat x f)) : NoAttr K (He.ga K x) f := He.noat_ok (C.fa_ _ (List.mem_of_getElem? h))
theorem KC.meth (i : Nat) {x m : Str} (h : fa[i]? = some (.meth x m)) : Meth K (He.ga K x) m (He.ma K (He.ga K x) m) := He.meth_ok (C.fa_ _ (List.mem_of_getElem? h))
theorem KC.mkr (i : Nat) {x : Str} (h : fa[i]? = some (.mkr x)) : Mk K (He.ga K x) (He.ma K (He.ga K x) "__init__") := He.mkr_ok (C.fa_ _ (List.mem_of_getElem? h))
theorem KC.prop (i : Nat) {x m : Str} (h : pr[i]? = some (x, m)) : PropOf K (He.ga K x) m (ppA K x m) (gAd K x m) := propB_ok (C.pr_ _ (List.mem_of_getElem? h))
theorem KC.tb (i : Nat) {p : FnP} (h : tf[i]? = some p) : GxR.TabB base mg (cTA K p).1 (cTA K p).2 := C.tb_ _ (List.mem_of_getElem? h)
end
theorem cs_mem {tf : List FnP} {K : PySem.W.Frag} (i : Nat) {p : FnP} (h : tf[i]? = some p) : cTA K p ∈ tf.map (cTA K) := List.mem_map.mpr ⟨p, List.mem_of_getElem? h, rfl⟩
end DL

/-! K57B: the text's places, the configuration. -/
namespace K57
open PySem PySem.Spec
open PyProof.Rows L2
open DL
def top (i : Nat) : Stmt := PySem.Challenge.pw_wholecounts_k57_whole_boards_in_historie.main.body.getD i (.Pass ⟨0, 0, 0, 0⟩)
def inClass (st : Stmt) (j : Nat) : Stmt := match st with
  | .ClassDef _ _ _ body _ _ _ _ _ _ _ => body.getD j (.Pass ⟨0, 0, 0, 0⟩)
  | s => s
def fnm (i : Nat) : Str := ["_net", "_bags", "_deeds"].getD i ""
theorem fnm_inj : ∀ m n, m < 3 → n < 3 → fnm m = fnm n → m = n := by
  intro m n hm hn h
  match m, n, hm, hn with
  | 0, 0, _, _ => rfl
  | 1, 1, _, _ => rfl
  | 2, 2, _, _ => rfl
  | 0, 1, _, _ => exact absurd h (by decide)
  | 0, 2, _, _ => exact absurd h (by decide)
  | 1, 0, _, _ => exact absurd h (by decide)
  | 1, 2, _, _ => exact absurd h (by decide)
  | 2, 0, _, _ => exact absurd h (by decide)
  | 2, 1, _, _ => exact absurd h (by decide)
  | _ + 3, _, h, _ => omega
  | _, _ + 3, _, h => omega
def tabs : List FnP := [fun K => He.ga K "are_integers", fun K => He.ga K "are_naturals", fun K => He.ga K "is_ascending", fun K => He.ga K "is_net"]
def props : List (Str × Str) := [("Board", "bag"), ("Board", "row")]
def cfg (K : PySem.W.Frag) : Cfg := { K := K, cs := tabs.map (cTA K), cad := fun _ => He.ga K "Board", fnm := fnm, nf := 3, gad := fun _ => 0, inj := fnm_inj }
theorem nofmK (K : PySem.W.Frag) (m : Str) (h : (List.range 3).all (fun i => decide (fnm i ≠ m)) = true) : ∀ i, i < (cfg K).nf → (cfg K).fnm i ≠ m := fun i hi => of_decide_eq_true (List.all_eq_true.mp h i (List.mem_range.mpr hi))
def g_Board_do_deed {α : Type} (us ws : List α) : List α := us ++ ws
def g_Board___init___bag_net {α : Type} (us ws : List α) : List α := us ++ ws.reverse
end K57

/-! K57S: the data, what each def promises. -/
namespace K57
open PySem PySem.Spec
open DL
structure Net where
  places : Nat
  deeds : List (Nat × List Int)
def bagD (b : List Int) : D := .tup (b.map D.int)
def natsD (l : List Nat) : List D := l.map fun (i : Nat) => D.int (i : Int)
def deedD (d : Nat × List Int) : D := .tup [.int (d.1 : Int), bagD d.2]
def netD (n : Net) : D := .tup [.int (n.places : Int), .tup (n.deeds.map deedD)]
structure BagOk (k : Nat) (b : List Int) : Prop where
  len : b.length = k
  nn : ∀ x ∈ b, 0 ≤ x
def Asc (ds : List (Nat × List Int)) : Prop := ∀ i x y, ds[i]? = some x → ds[i + 1]? = some y → PySem.W.dataLt (pdv (deedD x)) (pdv (deedD y)) = true
structure NetOk (n : Net) : Prop where
  lo : 1 ≤ n.places
  hi : n.places ≤ 3
  each : ∀ d ∈ n.deeds, d.1 < n.places ∧ BagOk n.places d.2
  asc : Asc n.deeds
  few : n.deeds.length ≤ 4
/-- numbers of one figure -/
def SmallB (b : List Int) : Prop := ∀ x ∈ b, x ≤ 8
def SmallN (n : Net) : Prop := ∀ d ∈ n.deeds, SmallB d.2
def canB (n : Net) (b : List Int) (i : Nat) : Bool := match n.deeds[i]? with | some d => decide (0 < b.getD d.1 0) | none => false
def afterL (b : List Int) (p : Nat) (l : List Int) : List Int := (List.range b.length).map fun j => b.getD j 0 - (if j = p then 1 else 0) + l.getD j 0
def after (n : Net) (b : List Int) (i : Nat) : List Int := match n.deeds[i]? with | some d => afterL b d.1 d.2 | none => b
def can (n : Net) (b : List Int) : List Nat := (List.range n.deeds.length).filter (canB n b)
def row (n : Net) (ds : List Nat) : List Int := (List.range n.deeds.length).map fun d => ((ds.count d : Nat) : Int)
/-- a history: the bags behind each deed -/
inductive Hist (n : Net) : List (List Int) → List Nat → Prop where
  | one {b : List Int} : BagOk n.places b → Hist n [b] []
  | more {bs : List (List Int)} {b : List Int} {ds : List Nat} {i : Nat} : Hist n (bs ++ [b]) ds → i < n.deeds.length → canB n b i = true → Hist n (bs ++ [b] ++ [after n b i]) (ds ++ [i])
structure BoardAt (H : DH) (i i1 i2 : Oid) (n : Net) (bs : List (List Int)) (ds : List Nat) : Prop where
  self : H i = some (.ins 0 [(0, netD n), (1, .ref i1), (2, .ref i2)])
  bags : H i1 = some (.lst (bs.map bagD))
  deeds : H i2 = some (.lst (natsD ds))
  ne : i1 ≠ i2
/-- what stood stands, no name is taken -/
structure Ext (H H' : DH) : Prop where
  st : ∀ j o, H j = some o → H' j = some o
  fr : ∀ p, H (.nm p) = none → H' (.nm p) = none
/-- .. but for the object i -/
structure ExtE (i : Oid) (H H' : DH) : Prop where
  st : ∀ j o, j ≠ i → H j = some o → H' j = some o
  fr : ∀ p, H (.nm p) = none → H' (.nm p) = none
structure WellAt (H : DH) (i ic : Oid) : Prop where
  ex : ∃ (cells : List Int) (nx : Nat) (dg sd : Int) (ct : Int), H i = some (.dK [(.str "cells", .ref ic), (.str "next", .int nx), (.str "digits", .int dg), (.str "seed", .int sd), (.str "count", .int ct)]) ∧ H ic = some (.lst (cells.map D.int)) ∧
    cells.length ≤ 63 ∧ nx ≤ cells.length ∧ 0 ≤ dg ∧ 0 ≤ sd ∧ sd < 2305843009213693951
structure Game where
  net : Net
  bags : List (List Int)
  deeds : List Nat
structure GameAt (H : DH) (k : Nat) (g : Game) : Prop where
  self : H (.nm [k, 0]) = some (.lst [.ref (.nm [k, 1]), netD g.net, .ref (.nm [k, 4]), .ref (.nm [k, 5])])
  board : BoardAt H (.nm [k, 1]) (.nm [k, 2]) (.nm [k, 3]) g.net g.bags g.deeds
  bags : H (.nm [k, 4]) = some (.lst (g.bags.map bagD))
  deeds : H (.nm [k, 5]) = some (.lst (natsD g.deeds))
structure GameOk (g : Game) : Prop where
  net : NetOk g.net
  hist : Hist g.net g.bags g.deeds
  few : g.deeds.length ≤ 500

/-! ### promises -/
def S_is_integer : DSp := fun as H Q _ => ∃ i : Int, as = [.int i] ∧ Q (.bl true) H
def S_is_between : DSp := fun as H Q _ => ∃ v lo hi : Int, as = [.int v, .int lo, .int hi] ∧ lo ≤ v ∧ v ≤ hi ∧ Q (.bl true) H
def S_are_integers : DSp := fun as H Q _ => ∃ b : List Int, as = [bagD b, .int (b.length : Int)] ∧ Q (.bl true) H
def S_are_naturals : DSp := fun as H Q _ => ∃ b : List Int, as = [bagD b, .int (b.length : Int)] ∧ (∀ x ∈ b, 0 ≤ x) ∧ Q (.bl true) H
def S_is_ascending : DSp := fun as H Q _ => ∃ l : List (Nat × List Int), as = [.tup (l.map deedD)] ∧ Asc l ∧ l.length ≤ 4 ∧ Q (.bl true) H
def S_is_deed : DSp := fun as H Q _ => ∃ (k : Nat) (d : Nat × List Int), as = [.int (k : Int), deedD d] ∧ d.1 < k ∧ BagOk k d.2 ∧ Q (.bl true) H
def S_is_net : DSp := fun as H Q _ => ∃ n : Net, as = [netD n] ∧ NetOk n ∧ Q (.bl true) H
def S_check_net : DSp := fun as H Q _ => ∃ n : Net, as = [netD n] ∧ NetOk n ∧ Q .non H
def S_check_marks : DSp := fun as H Q _ => ∃ (n : Net) (b : List Int), as = [netD n, bagD b] ∧ BagOk n.places b ∧ Q .non H
def S_can_be_done : DSp := fun as H Q _ => ∃ (n : Net) (b : List Int) (i : Nat), as = [netD n, bagD b, .int (i : Int)] ∧ NetOk n ∧ BagOk n.places b ∧ i < n.deeds.length ∧ Q (.bl (canB n b i)) H
def S_bag_after : DSp := fun as H Q _ => ∃ (n : Net) (b : List Int) (i : Nat), as = [netD n, bagD b, .int (i : Int)] ∧ NetOk n ∧ BagOk n.places b ∧ i < n.deeds.length ∧ Q (bagD (after n b i)) H
def S_check_deed : DSp := fun as H Q _ => ∃ (n : Net) (b : List Int) (i : Nat), as = [netD n, bagD b, .int (i : Int)] ∧ NetOk n ∧ BagOk n.places b ∧ i < n.deeds.length ∧ canB n b i = true ∧ Q .non H
def S_Board___init__ : DSp := fun as H Q _ => ∃ (i : Oid) (n : Net) (b : List Int), as = [.ref i, netD n, bagD b] ∧ H i = some (.ins 0 []) ∧ NetOk n ∧ BagOk n.places b ∧ ∃ p1 p2 : List Nat, H (.nm p1) = none ∧ H (.nm p2) = none ∧ p1 ≠ p2 ∧
  ∀ H', BoardAt H' i (.nm p1) (.nm p2) n [b] [] → (∀ j, j ≠ i → j ≠ .nm p1 → j ≠ .nm p2 → H' j = H j) → Q .non H'
def S_Board_bag : DSp := fun as H Q _ => ∃ (i i1 i2 : Oid) (n : Net) (bs : List (List Int)) (b : List Int) (ds : List Nat), as = [.ref i] ∧ BoardAt H i i1 i2 n (bs ++ [b]) ds ∧ Q (bagD b) H
def S_Board_row : DSp := fun as H Q _ => ∃ (i i1 i2 : Oid) (n : Net) (bs : List (List Int)) (ds : List Nat), as = [.ref i] ∧ BoardAt H i i1 i2 n bs ds ∧ NetOk n ∧ Q (bagD (row n ds)) H
def S_Board___len__ : DSp := fun as H Q _ => ∃ (i i1 i2 : Oid) (n : Net) (bs : List (List Int)) (ds : List Nat), as = [.ref i] ∧ BoardAt H i i1 i2 n bs ds ∧ Q (.int (ds.length : Int)) H
def S_Board_can : DSp := fun as H Q _ => ∃ (i i1 i2 : Oid) (n : Net) (bs : List (List Int)) (b : List Int) (ds : List Nat), as = [.ref i] ∧ BoardAt H i i1 i2 n (bs ++ [b]) ds ∧ NetOk n ∧ BagOk n.places b ∧ newO H (.lst (natsD (can n b))) fun o H' => Q (.ref o) H'
def S_Board_do : DSp := fun as H Q _ => ∃ (i i1 i2 : Oid) (n : Net) (bs : List (List Int)) (b : List Int) (ds : List Nat) (d : Nat), as = [.ref i, .int (d : Int)] ∧ BoardAt H i i1 i2 n (bs ++ [b]) ds ∧ NetOk n ∧ BagOk n.places b ∧ d < n.deeds.length ∧ canB n b d = true ∧ bs.length ≤ 1000 ∧ ds.length ≤ 1000 ∧
  ∀ H', BoardAt H' i i1 i2 n (bs ++ [b] ++ [after n b d]) (ds ++ [d]) → (∀ j, j ≠ i1 → j ≠ i2 → H' j = H j) → Q .non H'
def S_Board_undo : DSp := fun as H Q _ => ∃ (i i1 i2 : Oid) (n : Net) (bs : List (List Int)) (b : List Int) (ds : List Nat) (d : Nat), as = [.ref i] ∧ BoardAt H i i1 i2 n (bs ++ [b]) (ds ++ [d]) ∧
  ∀ H', BoardAt H' i i1 i2 n bs ds → (∀ j, j ≠ i1 → j ≠ i2 → H' j = H j) → Q .non H'
def S_Board_twin : DSp := fun as H Q _ => ∃ (i i1 i2 : Oid) (n : Net) (bs : List (List Int)) (ds : List Nat), as = [.ref i] ∧ BoardAt H i i1 i2 n bs ds ∧ NetOk n ∧ Hist n bs ds ∧ ds.length ≤ 500 ∧ ∃ p p1 p2 : List Nat, H (.nm p) = none ∧ H (.nm p1) = none ∧ H (.nm p2) = none ∧ p ≠ p1 ∧ p ≠ p2 ∧ p1 ≠ p2 ∧
  ∀ H', BoardAt H' (.nm p) (.nm p1) (.nm p2) n bs ds → (∀ j, j ≠ .nm p → j ≠ .nm p1 → j ≠ .nm p2 → H' j = H j) → Q (.ref (.nm p)) H'
def S__law_well : DSp := fun as H Q _ => ∃ (ns : List Int) (p pc : List Nat), as = [.rol (ns.map D.int)] ∧ ns.length ≤ 63 ∧ p ≠ pc ∧ H (.nm p) = none ∧ H (.nm pc) = none ∧
  ∀ H', WellAt H' (.nm p) (.nm pc) → (∀ j, j ≠ .nm p → j ≠ .nm pc → H' j = H j) → Q (.ref (.nm p)) H'
def S__law_draw : DSp := fun as H Q _ => ∃ (i ic : Oid) (many : Nat), as = [.ref i, .int (many : Int)] ∧ WellAt H i ic ∧ 0 < many ∧ many < 1000000 ∧ ∀ (r : Nat) H', r < many → WellAt H' i ic → (∀ j, j ≠ i → H' j = H j) → Q (.int (r : Int)) H'
/-- the same data, of a depth -/
def Same : Nat → DH → D → D → Prop
  | 0, _, x, y => ∃ i : Int, x = .int i ∧ y = .int i
  | d + 1, H, x, y => (∃ i : Int, x = .int i ∧ y = .int i) ∨
    (∃ xs ys, x = .tup xs ∧ y = .tup ys ∧ xs.length = ys.length ∧ xs.length ≤ 1000 ∧ ∀ (k : Nat) a b, xs[k]? = some a → ys[k]? = some b → Same d H a b) ∨
    (∃ i j xs ys, x = .ref i ∧ y = .ref j ∧ H i = some (.lst xs) ∧ H j = some (.lst ys) ∧ xs.length = ys.length ∧ xs.length ≤ 1000 ∧ ∀ (k : Nat) a b, xs[k]? = some a → ys[k]? = some b → Same d H a b)
def S__law_like : Nat → DSp
  | 0 => fun _ _ _ _ => False
  | d + 1 => fun as H Q _ => ∃ x y, as = [x, y] ∧ Same d H x y ∧ Q (.bl true) H
def sumL (a b : List Int) (m : Int) : List Int := (List.range a.length).map fun j => a.getD j 0 + m * b.getD j 0
def unitL (k p : Nat) : List Int := (List.range k).map fun j => if j = p then 1 else 0
def S__law_sum : DSp := fun as H Q _ => ∃ (a b : List Int) (m : Int), as = [bagD a, bagD b, .int m] ∧ a.length = b.length ∧ a.length ≤ 3 ∧ (m = 1 ∨ m = -1) ∧ Q (bagD (sumL a b m)) H
def S__law_unit : DSp := fun as H Q _ => ∃ k p : Nat, as = [.int (k : Int), .int (p : Int)] ∧ k ≤ 3 ∧ Q (bagD (unitL k p)) H
def S__law_tally : DSp := fun as H Q _ => ∃ (i ic : Oid) (size total : Nat), as = [.ref i, .int (size : Int), .int (total : Int)] ∧ WellAt H i ic ∧ 0 < size ∧ size ≤ 3 ∧ total ≤ 8 ∧
  ∀ (b : List Int) H', BagOk size b → SmallB b → WellAt H' i ic → ExtE i H H' → Q (bagD b) H'
def S__law_net : DSp := fun as H Q _ => ∃ i ic : Oid, as = [.ref i, .int 3] ∧ WellAt H i ic ∧ ∀ (n : Net) (b : List Int) H', NetOk n → SmallN n → BagOk n.places b → SmallB b → WellAt H' i ic → ExtE i H H' → Q (.tup [netD n, bagD b]) H'
def S__law_behind : DSp := fun as H Q _ => ∃ (n : Net) (b : List Int) (i : Nat), as = [netD n, bagD b, .int (i : Int)] ∧ NetOk n ∧ BagOk n.places b ∧ i < n.deeds.length ∧ Q (bagD (after n b i)) H
def S__law_begun : DSp := fun as H Q _ => ∃ (n : Net) (b : List Int) (k : Nat), as = [netD n, bagD b] ∧ NetOk n ∧ BagOk n.places b ∧ (∀ m, H (.nm [k, m]) = none) ∧
  ∀ H', GameAt H' k ⟨n, [b], []⟩ → (∀ j, (∀ m, m < 6 → j ≠ .nm [k, m]) → H' j = H j) → Q (.ref (.nm [k, 0])) H'
def S__law_shows : DSp := fun as H Q _ => ∃ (k : Nat) (g : Game) (a : Int), as = [.ref (.nm [k, 0]), .int a] ∧ GameAt H k g ∧ GameOk g ∧ ∀ H', Ext H H' → Q (.bl true) H'
/-- the games of a list, by their places -/
structure GamesAt (H : DH) (l : Oid) (gs : List Game) : Prop where
  self : H l = some (.lst ((List.range gs.length).map fun k => .ref (.nm [k, 0])))
  each : ∀ k g, gs[k]? = some g → GameAt H k g ∧ GameOk g ∧ g.deeds.length ≤ 60
  free : ∀ k, gs.length ≤ k → ∀ m, k < 50 → H (.nm [k, m]) = none
  few : 0 < gs.length ∧ gs.length ≤ 6
def S__law_turned : DSp := fun as H Q _ => ∃ (ic : Oid) (gs : List Game) (k : Nat) (way : Int), as = [.ref (.nm [100]), .ref (.nm [101]), .ref (.nm [k, 0]), .int way] ∧ WellAt H (.nm [100]) (.nm [102]) ∧ GamesAt H (.nm [101]) gs ∧ k < gs.length ∧
  (∀ k m, 50 ≤ k → H (.nm [k, m]) = none) ∧
  ∀ gs' H', gs.length ≤ gs'.length → WellAt H' (.nm [100]) (.nm [102]) → GamesAt H' (.nm [101]) gs' → (∀ k m, 50 ≤ k → H' (.nm [k, m]) = none) → Q (.bl true) H'
end K57

namespace K57
open PySem PySem.Spec
open PyProof.Rows L2
open DL
def facts : List He.Fa := [.free "isinstance", .free "int", .free "bool", .glo "is_integer", .keep "is_integer", .free "tuple", .free "len", .free "all", .glo "are_integers", .keep "are_integers", .free "range", .glo "is_between", .keep "is_between", .glo "are_naturals", .keep "are_naturals", .glo "is_deed", .keep "is_deed", .glo "is_ascending", .keep "is_ascending", .glo "is_net", .keep "is_net", .free "enumerate", .glo "can_be_done", .keep "can_be_done", .glo "check_net", .keep "check_net", .glo "check_marks", .keep "check_marks", .cls "Board", .noat "Board" "_net", .noat "Board" "_bags", .noat "Board" "_deeds", .glo "check_deed", .keep "check_deed", .glo "bag_after", .keep "bag_after", .meth "Board" "do", .mkr "Board", .glo "Board", .glo "_law_like", .keep "_law_like", .free "list", .free "str", .glo "_law_draw", .keep "_law_draw", .glo "_law_tally", .keep "_law_tally", .free "sorted", .free "min", .glo "_law_unit", .keep "_law_unit", .glo "_law_sum", .keep "_law_sum", .meth "Board" "can", .meth "Board" "__len__", .glo "_law_behind", .keep "_law_behind", .meth "Board" "undo", .meth "Board" "twin", .glo "_law_shows", .keep "_law_shows", .glo "_law_begun", .keep "_law_begun", .free "repr", .glo "_law_turned", .keep "_law_turned", .glo "_law_net", .keep "_law_net", .glo "_law_well", .keep "_law_well", .glo "law"]
abbrev KCtx (K : PySem.W.Frag) (mg : Str → Option Value) (base : Heap) : Prop := KC facts props tabs K mg base

abbrev s_is_integer : Stmt := (top 8)
abbrev N_is_integer : List Str := ["value"]
theorem sc_is_integer : FnScope N_is_integer ["value"] (defScope s_is_integer) := ⟨rfl, rfl, rfl, by decide +kernel, rfl, by decide +kernel, by decide +kernel⟩
def t_is_integer  (W : DXW) : DTS := (dRet (dAndV (dIsi "int" (dVar 0)) (dNotV (dIsi "bool" (dVar 0)))))
theorem w_is_integer {P : Program} {w : World} {K : PySem.W.Frag} {mg : Str → Option Value} {base : Heap} (C : KCtx K mg base)   : Walk P w K mg base (cfg K) rfl N_is_integer "is_integer" (defScope s_is_integer) (He.ga K "is_integer") (.ref (codeA K (He.ga K "is_integer"))) 0 (defBody s_is_integer) (t_is_integer) := fun A outer s H E μ W tk hr =>
    (dss_one (ds_ret (de_and (de_isi kit_int bt_int rfl (C.free 0 rfl) rfl (C.free 1 rfl) (de_var 0)) (de_one (de_not (de_isi kit_bool bt_bool rfl (C.free 0 rfl) rfl (C.free 2 rfl) (de_var 0)))))))
abbrev s_is_between : Stmt := (top 9)
abbrev N_is_between : List Str := ["value", "low", "high"]
theorem sc_is_between : FnScope N_is_between ["value", "low", "high"] (defScope s_is_between) := ⟨rfl, rfl, rfl, by decide +kernel, rfl, by decide +kernel, by decide +kernel⟩
def t_is_between  (W : DXW) : DTS := (dRet (dAndV (dCall 1 S_is_integer W (dCons (dVar 0) dNil)) (dChain dLe dLe (dVar 1) (dVar 0) (dVar 2))))
theorem w_is_between {P : Program} {w : World} {K : PySem.W.Frag} {mg : Str → Option Value} {base : Heap} (C : KCtx K mg base)  (F_is_integer : GFn P w K mg base (cfg K) (He.ga K "is_integer") 1 1 S_is_integer) : Walk P w K mg base (cfg K) rfl N_is_between "is_between" (defScope s_is_between) (He.ga K "is_between") (.ref (codeA K (He.ga K "is_between"))) 1 (defBody s_is_between) (t_is_between) := fun A outer s H E μ W tk hr =>
    (dss_one (ds_ret (de_and (de_call (W := W) rfl F_is_integer hr (C.glo 3 rfl) (C.keep 4 rfl) rfl (da_cons (de_var 0) da_nil)) (de_one (de_chain dop_le dop_le (de_var 1) (de_var 0) (de_var 2))))))
abbrev s_are_integers : Stmt := (top 10)
abbrev N_are_integers : List Str := ["value", "size", "one"]
theorem sc_are_integers : FnScope N_are_integers ["value", "size"] (defScope s_are_integers) := ⟨rfl, rfl, rfl, by decide +kernel, rfl, by decide +kernel, by decide +kernel⟩
def t_are_integers  (W : DXW) : DTS := (dRet (dAndV (dIsi "tuple" (dVar 0)) (dAndV (dOp dEq (dCB dLen (dCons (dVar 0) dNil)) (dVar 1)) (dGen false (dTupI (dVar 0)) (.nm 2) dYes (dCall 1 S_is_integer noW (dCons (dVar 2) dNil)) [2]))))
theorem w_are_integers {P : Program} {w : World} {K : PySem.W.Frag} {mg : Str → Option Value} {base : Heap} (C : KCtx K mg base)  (F_is_integer : GFn P w K mg base (cfg K) (He.ga K "is_integer") 1 1 S_is_integer) : Walk P w K mg base (cfg K) rfl N_are_integers "are_integers" (defScope s_are_integers) (He.ga K "are_integers") (.ref (codeA K (He.ga K "are_integers"))) 2 (defBody s_are_integers) (t_are_integers) := fun A outer s H E μ W tk hr =>
    (dss_one (ds_ret (de_and (de_isi kit_tuple bt_tuple rfl (C.free 0 rfl) rfl (C.free 5 rfl) (de_var 0)) (de_and (de_cmp (dop_eq hr.units) (de_callB cd_len rfl (C.free 6 rfl) bt_len (da_cons (de_var 0) da_nil)) (de_var 1) (L2.nomark _)) (de_one (de_gen (wh := .all) (k := 1) (own := [("one", 2)]) (hr.mono (by decide)) rfl rfl (C.free 7 rfl) (C.tb 0 rfl) (cs_mem (K := K) (tf := tabs) 0 rfl) rfl (genOkBy (N := N_are_integers) (sc := (defScope s_are_integers)) (by decide +kernel)) sc_are_integers.nd (dpi_tup (de_var 0)) (by decide) (fun _ _ _ _ _ _ _ hr2 => (dtg_name 2 sc_are_integers.nd)) (fun _ _ _ _ _ _ _ hr2 => dts_nil) (fun _ _ _ _ _ _ _ hr2 => (de_call (W := noW) rfl F_is_integer hr2 (C.glo 3 rfl) (C.keep 4 rfl) rfl (da_cons (de_var 2) da_nil)))))))))
abbrev s_are_naturals : Stmt := (top 11)
abbrev N_are_naturals : List Str := ["value", "size", "one"]
theorem sc_are_naturals : FnScope N_are_naturals ["value", "size"] (defScope s_are_naturals) := ⟨rfl, rfl, rfl, by decide +kernel, rfl, by decide +kernel, by decide +kernel⟩
def t_are_naturals  (W : DXW) : DTS := (dRet (dAndV (dCall 2 S_are_integers W (dCons (dVar 0) (dCons (dVar 1) dNil))) (dGen false (dTupI (dVar 0)) (.nm 2) dYes (dOp dGe (dVar 2) (dC (.int 0))) [2])))
theorem w_are_naturals {P : Program} {w : World} {K : PySem.W.Frag} {mg : Str → Option Value} {base : Heap} (C : KCtx K mg base)  (F_are_integers : GFn P w K mg base (cfg K) (He.ga K "are_integers") 3 2 S_are_integers) : Walk P w K mg base (cfg K) rfl N_are_naturals "are_naturals" (defScope s_are_naturals) (He.ga K "are_naturals") (.ref (codeA K (He.ga K "are_naturals"))) 3 (defBody s_are_naturals) (t_are_naturals) := fun A outer s H E μ W tk hr =>
    (dss_one (ds_ret (de_and (de_call (W := W) rfl F_are_integers hr (C.glo 8 rfl) (C.keep 9 rfl) rfl (da_cons (de_var 0) (da_cons (de_var 1) da_nil))) (de_one (de_gen (wh := .all) (k := 0) (own := [("one", 2)]) (hr.mono (by decide)) rfl rfl (C.free 7 rfl) (C.tb 1 rfl) (cs_mem (K := K) (tf := tabs) 1 rfl) rfl (genOkBy (N := N_are_naturals) (sc := (defScope s_are_naturals)) (by decide +kernel)) sc_are_naturals.nd (dpi_tup (de_var 0)) (by decide) (fun _ _ _ _ _ _ _ hr2 => (dtg_name 2 sc_are_naturals.nd)) (fun _ _ _ _ _ _ _ hr2 => dts_nil) (fun _ _ _ _ _ _ _ hr2 => (de_cmp dop_ge (de_var 2) de_int (L2.nomark _))))))))
abbrev s_is_ascending : Stmt := (top 12)
abbrev N_is_ascending : List Str := ["items", "at"]
theorem sc_is_ascending : FnScope N_is_ascending ["items"] (defScope s_is_ascending) := ⟨rfl, rfl, rfl, by decide +kernel, rfl, by decide +kernel, by decide +kernel⟩
def t_is_ascending  (W : DXW) : DTS := (dRet (dGen false (dRng2 (dC (.int 1)) (dCB dLen (dCons (dVar 0) dNil))) (.nm 1) dYes (dOp dLtD (dOp dIx (dVar 0) (dOp dSub (dVar 1) (dC (.int 1)))) (dOp dIx (dVar 0) (dVar 1))) [1]))
theorem w_is_ascending {P : Program} {w : World} {K : PySem.W.Frag} {mg : Str → Option Value} {base : Heap} (C : KCtx K mg base)   : Walk P w K mg base (cfg K) rfl N_is_ascending "is_ascending" (defScope s_is_ascending) (He.ga K "is_ascending") (.ref (codeA K (He.ga K "is_ascending"))) 1 (defBody s_is_ascending) (t_is_ascending) := fun A outer s H E μ W tk hr =>
    (dss_one (ds_ret (de_gen (wh := .all) (k := 0) (own := [("at", 1)]) (hr.mono (by decide)) rfl rfl (C.free 7 rfl) (C.tb 2 rfl) (cs_mem (K := K) (tf := tabs) 2 rfl) rfl (genOkBy (N := N_is_ascending) (sc := (defScope s_is_ascending)) (by decide +kernel)) sc_is_ascending.nd (dpi_range2 rfl (C.free 10 rfl) de_int (de_callB cd_len rfl (C.free 6 rfl) bt_len (da_cons (de_var 0) da_nil))) (by decide) (fun _ _ _ _ _ _ _ hr2 => (dtg_name 1 sc_is_ascending.nd)) (fun _ _ _ _ _ _ _ hr2 => dts_nil) (fun _ _ _ _ _ _ _ hr2 => (de_cmp (dop_ltD hr2.units) (de_ix (L2.hu_of hr2) (de_var 0) (de_op dop_sub (de_var 1) de_int)) (de_ix (L2.hu_of hr2) (de_var 0) (de_var 1)) (L2.nomark _))))))
abbrev s_is_deed : Stmt := (top 14)
abbrev N_is_deed : List Str := ["places", "value"]
theorem sc_is_deed : FnScope N_is_deed ["places", "value"] (defScope s_is_deed) := ⟨rfl, rfl, rfl, by decide +kernel, rfl, by decide +kernel, by decide +kernel⟩
def t_is_deed  (W : DXW) : DTS := (dSeq2 (dIfS (dOr (dNot (dTest (dIsi "tuple" (dVar 1)))) (dBl (dOp dNe (dCB dLen (dCons (dVar 1) dNil)) (dC (.int 2))))) (dRet (dC (.bl false))) dNext)
  (dRet (dAndV (dCall 3 S_is_between W (dCons (dOp dIx (dVar 1) (dC (.int 0))) (dCons (dC (.int 0)) (dCons (dOp dSub (dVar 0) (dC (.int 1))) dNil)))) (dCall 2 S_are_naturals W (dCons (dOp dIx (dVar 1) (dC (.int 1))) (dCons (dVar 0) dNil))))))
theorem w_is_deed {P : Program} {w : World} {K : PySem.W.Frag} {mg : Str → Option Value} {base : Heap} (C : KCtx K mg base)  (F_is_between : GFn P w K mg base (cfg K) (He.ga K "is_between") 2 3 S_is_between) (F_are_naturals : GFn P w K mg base (cfg K) (He.ga K "are_naturals") 4 2 S_are_naturals) : Walk P w K mg base (cfg K) rfl N_is_deed "is_deed" (defScope s_is_deed) (He.ga K "is_deed") (.ref (codeA K (He.ga K "is_deed"))) 4 (defBody s_is_deed) (t_is_deed) := fun A outer s H E μ W tk hr =>
    (dss_cons (ds_if (DW.t (dw_or (dt_not (dt_val (de_isi kit_tuple bt_tuple rfl (C.free 0 rfl) rfl (C.free 5 rfl) (de_var 1)))) (dw_or1 (dt_cmp (dop_ne hr.units) (de_callB cd_len rfl (C.free 6 rfl) bt_len (da_cons (de_var 1) da_nil)) de_int (L2.nomark _))))) (dss_one (ds_ret de_bl)) dss_nil)
      (dss_one (ds_ret (de_and (de_call (W := W) rfl F_is_between hr (C.glo 11 rfl) (C.keep 12 rfl) rfl (da_cons (de_ix (L2.hu_of hr) (de_var 1) de_int) (da_cons de_int (da_cons (de_op dop_sub (de_var 0) de_int) da_nil)))) (de_one (de_call (W := W) rfl F_are_naturals hr (C.glo 13 rfl) (C.keep 14 rfl) rfl (da_cons (de_ix (L2.hu_of hr) (de_var 1) de_int) (da_cons (de_var 0) da_nil))))))))
abbrev s_is_net : Stmt := (top 15)
abbrev N_is_net : List Str := ["value", "deed"]
theorem sc_is_net : FnScope N_is_net ["value"] (defScope s_is_net) := ⟨rfl, rfl, rfl, by decide +kernel, rfl, by decide +kernel, by decide +kernel⟩
def t_is_net  (W : DXW) : DTS := (dSeq2 (dIfS (dOr (dNot (dTest (dIsi "tuple" (dVar 0)))) (dOr (dBl (dOp dNe (dCB dLen (dCons (dVar 0) dNil)) (dC (.int 2)))) (dNot (dTest (dCall 3 S_is_between W (dCons (dOp dIx (dVar 0) (dC (.int 0))) (dCons (dC (.int 1)) (dCons (dC (.int 3)) dNil)))))))) (dRet (dC (.bl false))) dNext)
  (dSeq2 (dIfS (dOr (dNot (dTest (dIsi "tuple" (dOp dIx (dVar 0) (dC (.int 1)))))) (dNot (dTest (dGen false (dTupI (dOp dIx (dVar 0) (dC (.int 1)))) (.nm 1) dYes (dCall 2 S_is_deed noW (dCons (dOp dIx (dVar 0) (dC (.int 0))) (dCons (dVar 1) dNil))) [1])))) (dRet (dC (.bl false))) dNext)
  (dRet (dCall 1 S_is_ascending W (dCons (dOp dIx (dVar 0) (dC (.int 1))) dNil)))))
theorem w_is_net {P : Program} {w : World} {K : PySem.W.Frag} {mg : Str → Option Value} {base : Heap} (C : KCtx K mg base)  (F_is_between : GFn P w K mg base (cfg K) (He.ga K "is_between") 2 3 S_is_between) (F_is_deed : GFn P w K mg base (cfg K) (He.ga K "is_deed") 5 2 S_is_deed) (F_is_ascending : GFn P w K mg base (cfg K) (He.ga K "is_ascending") 2 1 S_is_ascending) : Walk P w K mg base (cfg K) rfl N_is_net "is_net" (defScope s_is_net) (He.ga K "is_net") (.ref (codeA K (He.ga K "is_net"))) 6 (defBody s_is_net) (t_is_net) := fun A outer s H E μ W tk hr =>
    (dss_cons (ds_if (DW.t (dw_or (dt_not (dt_val (de_isi kit_tuple bt_tuple rfl (C.free 0 rfl) rfl (C.free 5 rfl) (de_var 0)))) (dw_or (dt_cmp (dop_ne hr.units) (de_callB cd_len rfl (C.free 6 rfl) bt_len (da_cons (de_var 0) da_nil)) de_int (L2.nomark _)) (dw_or1 (dt_not (dt_val (de_call (W := W) rfl F_is_between hr (C.glo 11 rfl) (C.keep 12 rfl) rfl (da_cons (de_ix (L2.hu_of hr) (de_var 0) de_int) (da_cons de_int (da_cons de_int da_nil)))))))))) (dss_one (ds_ret de_bl)) dss_nil)
      (dss_cons (ds_if (DW.t (dw_or (dt_not (dt_val (de_isi kit_tuple bt_tuple rfl (C.free 0 rfl) rfl (C.free 5 rfl) (de_ix (L2.hu_of hr) (de_var 0) de_int)))) (dw_or1 (dt_not (dt_val (de_gen (wh := .all) (k := 5) (own := [("deed", 1)]) (hr.mono (by decide)) rfl rfl (C.free 7 rfl) (C.tb 3 rfl) (cs_mem (K := K) (tf := tabs) 3 rfl) rfl (genOkBy (N := N_is_net) (sc := (defScope s_is_net)) (by decide +kernel)) sc_is_net.nd (dpi_tup (de_ix (L2.hu_of hr) (de_var 0) de_int)) (by decide) (fun _ _ _ _ _ _ _ hr2 => (dtg_name 1 sc_is_net.nd)) (fun _ _ _ _ _ _ _ hr2 => dts_nil) (fun _ _ _ _ _ _ _ hr2 => (de_call (W := noW) rfl F_is_deed hr2 (C.glo 15 rfl) (C.keep 16 rfl) rfl (da_cons (de_ix (L2.hu_of hr2) (de_var 0) de_int) (da_cons (de_var 1) da_nil)))))))))) (dss_one (ds_ret de_bl)) dss_nil)
      (dss_one (ds_ret (de_call (W := W) rfl F_is_ascending hr (C.glo 17 rfl) (C.keep 18 rfl) rfl (da_cons (de_ix (L2.hu_of hr) (de_var 0) de_int) da_nil))))))
abbrev s_check_net : Stmt := (top 16)
abbrev N_check_net : List Str := ["net"]
theorem sc_check_net : FnScope N_check_net ["net"] (defScope s_check_net) := ⟨rfl, rfl, rfl, by decide +kernel, rfl, by decide +kernel, by decide +kernel⟩
def t_check_net  (W : DXW) : DTS := (dIfS (dNot (dTest (dCall 1 S_is_net W (dCons (dVar 0) dNil)))) dNever dNext)
theorem w_check_net {P : Program} {w : World} {K : PySem.W.Frag} {mg : Str → Option Value} {base : Heap} (C : KCtx K mg base)  (F_is_net : GFn P w K mg base (cfg K) (He.ga K "is_net") 7 1 S_is_net) : Walk P w K mg base (cfg K) rfl N_check_net "check_net" (defScope s_check_net) (He.ga K "check_net") (.ref (codeA K (He.ga K "check_net"))) 7 (defBody s_check_net) (t_check_net) := fun A outer s H E μ W tk hr =>
    (dss_one (ds_if (dt_not (dt_val (de_call (W := W) rfl F_is_net hr (C.glo 19 rfl) (C.keep 20 rfl) rfl (da_cons (de_var 0) da_nil)))) (dss_one ds_never) dss_nil))
abbrev s_check_marks : Stmt := (top 17)
abbrev N_check_marks : List Str := ["net", "bag"]
theorem sc_check_marks : FnScope N_check_marks ["net", "bag"] (defScope s_check_marks) := ⟨rfl, rfl, rfl, by decide +kernel, rfl, by decide +kernel, by decide +kernel⟩
def t_check_marks  (W : DXW) : DTS := (dIfS (dNot (dTest (dCall 2 S_are_naturals W (dCons (dVar 1) (dCons (dOp dIx (dVar 0) (dC (.int 0))) dNil))))) dNever dNext)
theorem w_check_marks {P : Program} {w : World} {K : PySem.W.Frag} {mg : Str → Option Value} {base : Heap} (C : KCtx K mg base)  (F_are_naturals : GFn P w K mg base (cfg K) (He.ga K "are_naturals") 4 2 S_are_naturals) : Walk P w K mg base (cfg K) rfl N_check_marks "check_marks" (defScope s_check_marks) (He.ga K "check_marks") (.ref (codeA K (He.ga K "check_marks"))) 4 (defBody s_check_marks) (t_check_marks) := fun A outer s H E μ W tk hr =>
    (dss_one (ds_if (dt_not (dt_val (de_call (W := W) rfl F_are_naturals hr (C.glo 13 rfl) (C.keep 14 rfl) rfl (da_cons (de_var 1) (da_cons (de_ix (L2.hu_of hr) (de_var 0) de_int) da_nil))))) (dss_one ds_never) dss_nil))
abbrev s_can_be_done : Stmt := (top 18)
abbrev N_can_be_done : List Str := ["net", "bag", "deed"]
theorem sc_can_be_done : FnScope N_can_be_done ["net", "bag", "deed"] (defScope s_can_be_done) := ⟨rfl, rfl, rfl, by decide +kernel, rfl, by decide +kernel, by decide +kernel⟩
def t_can_be_done  (W : DXW) : DTS := (dRet (dOp dGt (dOp dIx (dVar 1) (dOp dIx (dOp dIx (dOp dIx (dVar 0) (dC (.int 1))) (dVar 2)) (dC (.int 0)))) (dC (.int 0))))
theorem w_can_be_done {P : Program} {w : World} {K : PySem.W.Frag} {mg : Str → Option Value} {base : Heap} (C : KCtx K mg base)   : Walk P w K mg base (cfg K) rfl N_can_be_done "can_be_done" (defScope s_can_be_done) (He.ga K "can_be_done") (.ref (codeA K (He.ga K "can_be_done"))) 0 (defBody s_can_be_done) (t_can_be_done) := fun A outer s H E μ W tk hr =>
    (dss_one (ds_ret (de_cmp dop_gt (de_ix (L2.hu_of hr) (de_var 1) (de_ix (L2.hu_of hr) (de_ix (L2.hu_of hr) (de_ix (L2.hu_of hr) (de_var 0) de_int) (de_var 2)) de_int)) de_int (L2.nomark _))))
abbrev s_bag_after : Stmt := (top 19)
abbrev N_bag_after : List Str := ["net", "bag", "deed", "place", "laid", "at", "many"]
theorem sc_bag_after : FnScope N_bag_after ["net", "bag", "deed"] (defScope s_bag_after) := ⟨rfl, rfl, rfl, by decide +kernel, rfl, by decide +kernel, by decide +kernel⟩
def t_bag_after  (W : DXW) : DTS := (dSeq2 (dAsg (.tp [(.nm 3), (.nm 4)]) (dOp dIx (dOp dIx (dVar 0) (dC (.int 1))) (dVar 2)))
  (dRet (dCB dTupF (dLc (dEnumT (dVar 1)) (.tp [(.nm 5), (.nm 6)]) dYes (dOp dAdd (dOp dSub (dVar 6) (dCB dIntC (dCons (dOp dEq (dVar 5) (dVar 3)) dNil))) (dOp dIx (dVar 4) (dVar 5))) [5, 6]))))
theorem w_bag_after {P : Program} {w : World} {K : PySem.W.Frag} {mg : Str → Option Value} {base : Heap} (C : KCtx K mg base)   : Walk P w K mg base (cfg K) rfl N_bag_after "bag_after" (defScope s_bag_after) (He.ga K "bag_after") (.ref (codeA K (He.ga K "bag_after"))) 0 (defBody s_bag_after) (t_bag_after) := fun A outer s H E μ W tk hr =>
    (dss_cons (ds_asg (de_ix (L2.hu_of hr) (de_ix (L2.hu_of hr) (de_var 0) de_int) (de_var 2)) (dtg_tup rfl (dtgs_cons (dtg_name 3 sc_bag_after.nd) (dtgs_cons (dtg_name 4 sc_bag_after.nd) dtgs_nil))))
      (dss_one (ds_ret (de_callTyF fd_tuple rfl (C.free 5 rfl) bt_tuple (df_lc (own := [("at", 5), ("many", 6)]) rfl sc_bag_after.nd (dpi_enumT rfl (C.free 21 rfl) (de_var 1)) (blkOk_by (N := N_bag_after) (sc := (defScope s_bag_after)) (by decide +kernel)) (by decide) (fun _ _ _ _ _ => (dtg_tup rfl (dtgs_cons (dtg_name 5 sc_bag_after.nd) (dtgs_cons (dtg_name 6 sc_bag_after.nd) dtgs_nil)))) (fun _ _ _ _ _ => dts_nil) (fun _ _ _ _ _ => (de_op dop_add (de_op dop_sub (de_var 6) (de_callTy cd_int rfl (C.free 1 rfl) bt_int (da_cons (de_cmp (dop_eq hr.units) (de_var 5) (de_var 3) (L2.nomark _)) da_nil))) (de_ix (L2.hu_of hr) (de_var 4) (de_var 5)))))))))
abbrev s_check_deed : Stmt := (top 20)
abbrev N_check_deed : List Str := ["net", "bag", "deed"]
theorem sc_check_deed : FnScope N_check_deed ["net", "bag", "deed"] (defScope s_check_deed) := ⟨rfl, rfl, rfl, by decide +kernel, rfl, by decide +kernel, by decide +kernel⟩
def t_check_deed  (W : DXW) : DTS := (dIfS (dOr (dNot (dTest (dCall 3 S_is_between W (dCons (dVar 2) (dCons (dC (.int 0)) (dCons (dOp dSub (dCB dLen (dCons (dOp dIx (dVar 0) (dC (.int 1))) dNil)) (dC (.int 1))) dNil)))))) (dNot (dTest (dCall 3 S_can_be_done W (dCons (dVar 0) (dCons (dVar 1) (dCons (dVar 2) dNil))))))) dNever dNext)
theorem w_check_deed {P : Program} {w : World} {K : PySem.W.Frag} {mg : Str → Option Value} {base : Heap} (C : KCtx K mg base)  (F_is_between : GFn P w K mg base (cfg K) (He.ga K "is_between") 2 3 S_is_between) (F_can_be_done : GFn P w K mg base (cfg K) (He.ga K "can_be_done") 1 3 S_can_be_done) : Walk P w K mg base (cfg K) rfl N_check_deed "check_deed" (defScope s_check_deed) (He.ga K "check_deed") (.ref (codeA K (He.ga K "check_deed"))) 2 (defBody s_check_deed) (t_check_deed) := fun A outer s H E μ W tk hr =>
    (dss_one (ds_if (DW.t (dw_or (dt_not (dt_val (de_call (W := W) rfl F_is_between hr (C.glo 11 rfl) (C.keep 12 rfl) rfl (da_cons (de_var 2) (da_cons de_int (da_cons (de_op dop_sub (de_callB cd_len rfl (C.free 6 rfl) bt_len (da_cons (de_ix (L2.hu_of hr) (de_var 0) de_int) da_nil)) de_int) da_nil)))))) (dw_or1 (dt_not (dt_val (de_call (W := W) rfl F_can_be_done hr (C.glo 22 rfl) (C.keep 23 rfl) rfl (da_cons (de_var 0) (da_cons (de_var 1) (da_cons (de_var 2) da_nil))))))))) (dss_one ds_never) dss_nil))
abbrev s_Board___init__ : Stmt := (inClass (top 22) 0)
abbrev N_Board___init__ : List Str := ["self", "net", "bag"]
theorem sc_Board___init__ : FnScope N_Board___init__ ["self", "net", "bag"] (defScope s_Board___init__) := ⟨rfl, rfl, rfl, by decide +kernel, rfl, by decide +kernel, by decide +kernel⟩
def t_Board___init__  (W : DXW) : DTS := (dSeq2 (dDrop (dCall 1 S_check_net W (dCons (dVar 1) dNil)))
  (dSeq2 (dDrop (dCall 2 S_check_marks W (dCons (dVar 1) (dCons (dVar 2) dNil))))
  (dSeq2 (dFldS 0 0 (dVar 0) (dVar 1))
  (dSeq2 (dFldS 0 1 (dVar 0) (dNew (dLst (dCons (dVar 2) dNil))))
  (dFldS 0 2 (dVar 0) (dNew (dLst dNil)))))))
theorem w_Board___init__ {P : Program} {w : World} {K : PySem.W.Frag} {mg : Str → Option Value} {base : Heap} (C : KCtx K mg base)  (F_check_net : GFn P w K mg base (cfg K) (He.ga K "check_net") 8 1 S_check_net) (F_check_marks : GFn P w K mg base (cfg K) (He.ga K "check_marks") 5 2 S_check_marks) : Walk P w K mg base (cfg K) rfl N_Board___init__ "Board.__init__" (defScope s_Board___init__) (He.ma K (He.ga K "Board") "__init__") (.ref (codeA K (He.ma K (He.ga K "Board") "__init__"))) 8 (defBody s_Board___init__) (t_Board___init__) := fun A outer s H E μ W tk hr =>
    (dss_cons (ds_expr (de_call (W := W) rfl F_check_net hr (C.glo 24 rfl) (C.keep 25 rfl) rfl (da_cons (de_var 1) da_nil)))
      (dss_cons (ds_expr (de_call (W := W) rfl F_check_marks hr (C.glo 26 rfl) (C.keep 27 rfl) rfl (da_cons (de_var 1) (da_cons (de_var 2) da_nil))))
      (dss_cons (ds_fld (c := 0) (f := 0) (hf := (by decide : 0 < (3 : Nat))) (C.cls 28 rfl) (C.noat 29 rfl) (de_var 0) (de_var 1))
      (dss_cons (ds_fld (c := 0) (f := 1) (hf := (by decide : 1 < (3 : Nat))) (C.cls 28 rfl) (C.noat 30 rfl) (de_var 0) (de_new (df_lst (da_cons (de_var 2) da_nil))))
      (dss_one (ds_fld (c := 0) (f := 2) (hf := (by decide : 2 < (3 : Nat))) (C.cls 28 rfl) (C.noat 31 rfl) (de_var 0) (de_new (df_lst da_nil))))))))
abbrev s_Board_bag : Stmt := (inClass (top 22) 1)
abbrev N_Board_bag : List Str := ["self"]
theorem sc_Board_bag : FnScope N_Board_bag ["self"] (defScope s_Board_bag) := ⟨rfl, rfl, rfl, by decide +kernel, rfl, by decide +kernel, by decide +kernel⟩
def t_Board_bag  (W : DXW) : DTS := (dRet (dOp dIx (dFld 0 1 (dVar 0)) (dUn dNeg (dC (.int 1)))))
theorem w_Board_bag {P : Program} {w : World} {K : PySem.W.Frag} {mg : Str → Option Value} {base : Heap} (C : KCtx K mg base)   : Walk P w K mg base (cfg K) rfl N_Board_bag "Board.bag" (defScope s_Board_bag) (gAd K "Board" "bag") (.ref (codeA K (gAd K "Board" "bag"))) 0 (defBody s_Board_bag) (t_Board_bag) := fun A outer s H E μ W tk hr =>
    (dss_one (ds_ret (de_ix (L2.hu_of hr) (de_fld (c := 0) (f := 1) (hf := (by decide : 1 < (3 : Nat))) (C.cls 28 rfl) (C.noat 30 rfl) (de_var 0)) (de_un dun_neg de_int))))
abbrev s_Board_row : Stmt := (inClass (top 22) 2)
abbrev N_Board_row : List Str := ["self", "deed"]
theorem sc_Board_row : FnScope N_Board_row ["self"] (defScope s_Board_row) := ⟨rfl, rfl, rfl, by decide +kernel, rfl, by decide +kernel, by decide +kernel⟩
def t_Board_row  (W : DXW) : DTS := (dRet (dCB dTupF (dLc (dRng1 (dCB dLen (dCons (dOp dIx (dFld 0 0 (dVar 0)) (dC (.int 1))) dNil))) (.nm 1) dYes (dBM "list" mCount (dFld 0 2 (dVar 0)) (dCons (dVar 1) dNil)) [1])))
theorem w_Board_row {P : Program} {w : World} {K : PySem.W.Frag} {mg : Str → Option Value} {base : Heap} (C : KCtx K mg base)   : Walk P w K mg base (cfg K) rfl N_Board_row "Board.row" (defScope s_Board_row) (gAd K "Board" "row") (.ref (codeA K (gAd K "Board" "row"))) 0 (defBody s_Board_row) (t_Board_row) := fun A outer s H E μ W tk hr =>
    (dss_one (ds_ret (de_callTyF fd_tuple rfl (C.free 5 rfl) bt_tuple (df_lc (own := [("deed", 1)]) rfl sc_Board_row.nd (dpi_range1 rfl (C.free 10 rfl) (de_callB cd_len rfl (C.free 6 rfl) bt_len (da_cons (de_ix (L2.hu_of hr) (de_fld (c := 0) (f := 0) (hf := (by decide : 0 < (3 : Nat))) (C.cls 28 rfl) (C.noat 29 rfl) (de_var 0)) de_int) da_nil))) (blkOk_by (N := N_Board_row) (sc := (defScope s_Board_row)) (by decide +kernel)) (by decide) (fun _ _ _ _ _ => (dtg_name 1 sc_Board_row.nd)) (fun _ _ _ _ _ => dts_nil) (fun _ _ _ _ _ => (de_bm PySem.F.plainAttrs_list PySem.F.slot_list_count PySem.F.type_list_count md_count (de_fld (c := 0) (f := 2) (hf := (by decide : 2 < (3 : Nat))) (C.cls 28 rfl) (C.noat 31 rfl) (de_var 0)) (da_cons (de_var 1) da_nil)))))))
abbrev s_Board___len__ : Stmt := (inClass (top 22) 3)
abbrev N_Board___len__ : List Str := ["self"]
theorem sc_Board___len__ : FnScope N_Board___len__ ["self"] (defScope s_Board___len__) := ⟨rfl, rfl, rfl, by decide +kernel, rfl, by decide +kernel, by decide +kernel⟩
def t_Board___len__  (W : DXW) : DTS := (dRet (dCB dLen (dCons (dFld 0 2 (dVar 0)) dNil)))
theorem w_Board___len__ {P : Program} {w : World} {K : PySem.W.Frag} {mg : Str → Option Value} {base : Heap} (C : KCtx K mg base)   : Walk P w K mg base (cfg K) rfl N_Board___len__ "Board.__len__" (defScope s_Board___len__) (He.ma K (He.ga K "Board") "__len__") (.ref (codeA K (He.ma K (He.ga K "Board") "__len__"))) 0 (defBody s_Board___len__) (t_Board___len__) := fun A outer s H E μ W tk hr =>
    (dss_one (ds_ret (de_callB cd_len rfl (C.free 6 rfl) bt_len (da_cons (de_fld (c := 0) (f := 2) (hf := (by decide : 2 < (3 : Nat))) (C.cls 28 rfl) (C.noat 31 rfl) (de_var 0)) da_nil))))
abbrev s_Board_can : Stmt := (inClass (top 22) 4)
abbrev N_Board_can : List Str := ["self", "deed"]
theorem sc_Board_can : FnScope N_Board_can ["self"] (defScope s_Board_can) := ⟨rfl, rfl, rfl, by decide +kernel, rfl, by decide +kernel, by decide +kernel⟩
def t_Board_can  (W : DXW) : DTS := (dRet (dNew (dLc (dRng1 (dCB dLen (dCons (dOp dIx (dFld 0 0 (dVar 0)) (dC (.int 1))) dNil))) (.nm 1) (dTest (dCall 3 S_can_be_done noW (dCons (dFld 0 0 (dVar 0)) (dCons (dOp dIx (dFld 0 1 (dVar 0)) (dUn dNeg (dC (.int 1)))) (dCons (dVar 1) dNil))))) (dVar 1) [1])))
theorem w_Board_can {P : Program} {w : World} {K : PySem.W.Frag} {mg : Str → Option Value} {base : Heap} (C : KCtx K mg base)  (F_can_be_done : GFn P w K mg base (cfg K) (He.ga K "can_be_done") 1 3 S_can_be_done) : Walk P w K mg base (cfg K) rfl N_Board_can "Board.can" (defScope s_Board_can) (He.ma K (He.ga K "Board") "can") (.ref (codeA K (He.ma K (He.ga K "Board") "can"))) 1 (defBody s_Board_can) (t_Board_can) := fun A outer s H E μ W tk hr =>
    (dss_one (ds_ret (de_new (df_lc (own := [("deed", 1)]) rfl sc_Board_can.nd (dpi_range1 rfl (C.free 10 rfl) (de_callB cd_len rfl (C.free 6 rfl) bt_len (da_cons (de_ix (L2.hu_of hr) (de_fld (c := 0) (f := 0) (hf := (by decide : 0 < (3 : Nat))) (C.cls 28 rfl) (C.noat 29 rfl) (de_var 0)) de_int) da_nil))) (blkOk_by (N := N_Board_can) (sc := (defScope s_Board_can)) (by decide +kernel)) (by decide) (fun _ _ _ _ _ => (dtg_name 1 sc_Board_can.nd)) (fun _ _ _ _ _ => (dts_one (dt_val (de_call (W := noW) rfl F_can_be_done hr (C.glo 22 rfl) (C.keep 23 rfl) rfl (da_cons (de_fld (c := 0) (f := 0) (hf := (by decide : 0 < (3 : Nat))) (C.cls 28 rfl) (C.noat 29 rfl) (de_var 0)) (da_cons (de_ix (L2.hu_of hr) (de_fld (c := 0) (f := 1) (hf := (by decide : 1 < (3 : Nat))) (C.cls 28 rfl) (C.noat 30 rfl) (de_var 0)) (de_un dun_neg de_int)) (da_cons (de_var 1) da_nil))))))) (fun _ _ _ _ _ => (de_var 1))))))
abbrev s_Board_do : Stmt := (inClass (top 22) 5)
abbrev N_Board_do : List Str := ["self", "deed"]
theorem sc_Board_do : FnScope N_Board_do ["self", "deed"] (defScope s_Board_do) := ⟨rfl, rfl, rfl, by decide +kernel, rfl, by decide +kernel, by decide +kernel⟩
def t_Board_do  (W : DXW) : DTS := (dSeq2 (dDrop (dCall 3 S_check_deed W (dCons (dFld 0 0 (dVar 0)) (dCons (dOp dIx (dFld 0 1 (dVar 0)) (dUn dNeg (dC (.int 1)))) (dCons (dVar 1) dNil)))))
  (dSeq2 (dDrop (dBM "list" mAppend (dFld 0 1 (dVar 0)) (dCons (dCall 3 S_bag_after W (dCons (dFld 0 0 (dVar 0)) (dCons (dOp dIx (dFld 0 1 (dVar 0)) (dUn dNeg (dC (.int 1)))) (dCons (dVar 1) dNil)))) dNil)))
  (dDrop (dBM "list" mAppend (dFld 0 2 (dVar 0)) (dCons (dVar 1) dNil)))))
theorem w_Board_do {P : Program} {w : World} {K : PySem.W.Frag} {mg : Str → Option Value} {base : Heap} (C : KCtx K mg base)  (F_check_deed : GFn P w K mg base (cfg K) (He.ga K "check_deed") 3 3 S_check_deed) (F_bag_after : GFn P w K mg base (cfg K) (He.ga K "bag_after") 1 3 S_bag_after) : Walk P w K mg base (cfg K) rfl N_Board_do "Board.do" (defScope s_Board_do) (He.ma K (He.ga K "Board") "do") (.ref (codeA K (He.ma K (He.ga K "Board") "do"))) 3 (defBody s_Board_do) (t_Board_do) := fun A outer s H E μ W tk hr =>
    (dss_cons (ds_expr (de_call (W := W) rfl F_check_deed hr (C.glo 32 rfl) (C.keep 33 rfl) rfl (da_cons (de_fld (c := 0) (f := 0) (hf := (by decide : 0 < (3 : Nat))) (C.cls 28 rfl) (C.noat 29 rfl) (de_var 0)) (da_cons (de_ix (L2.hu_of hr) (de_fld (c := 0) (f := 1) (hf := (by decide : 1 < (3 : Nat))) (C.cls 28 rfl) (C.noat 30 rfl) (de_var 0)) (de_un dun_neg de_int)) (da_cons (de_var 1) da_nil)))))
      (dss_cons (ds_expr (de_bm PySem.F.plainAttrs_list PySem.F.slot_list_append PySem.F.type_list_append md_append (de_fld (c := 0) (f := 1) (hf := (by decide : 1 < (3 : Nat))) (C.cls 28 rfl) (C.noat 30 rfl) (de_var 0)) (da_cons (de_call (W := W) rfl F_bag_after hr (C.glo 34 rfl) (C.keep 35 rfl) rfl (da_cons (de_fld (c := 0) (f := 0) (hf := (by decide : 0 < (3 : Nat))) (C.cls 28 rfl) (C.noat 29 rfl) (de_var 0)) (da_cons (de_ix (L2.hu_of hr) (de_fld (c := 0) (f := 1) (hf := (by decide : 1 < (3 : Nat))) (C.cls 28 rfl) (C.noat 30 rfl) (de_var 0)) (de_un dun_neg de_int)) (da_cons (de_var 1) da_nil)))) da_nil)))
      (dss_one (ds_expr (de_bm PySem.F.plainAttrs_list PySem.F.slot_list_append PySem.F.type_list_append md_append (de_fld (c := 0) (f := 2) (hf := (by decide : 2 < (3 : Nat))) (C.cls 28 rfl) (C.noat 31 rfl) (de_var 0)) (da_cons (de_var 1) da_nil))))))
abbrev s_Board_undo : Stmt := (inClass (top 22) 6)
abbrev N_Board_undo : List Str := ["self"]
theorem sc_Board_undo : FnScope N_Board_undo ["self"] (defScope s_Board_undo) := ⟨rfl, rfl, rfl, by decide +kernel, rfl, by decide +kernel, by decide +kernel⟩
def t_Board_undo  (W : DXW) : DTS := (dSeq2 (dIfS (dBl (dOp dEq (dCB dLen (dCons (dFld 0 2 (dVar 0)) dNil)) (dC (.int 0)))) dNever dNext)
  (dSeq2 (dDrop (dBM0 "list" mPop (dFld 0 1 (dVar 0))))
  (dDrop (dBM0 "list" mPop (dFld 0 2 (dVar 0))))))
theorem w_Board_undo {P : Program} {w : World} {K : PySem.W.Frag} {mg : Str → Option Value} {base : Heap} (C : KCtx K mg base)   : Walk P w K mg base (cfg K) rfl N_Board_undo "Board.undo" (defScope s_Board_undo) (He.ma K (He.ga K "Board") "undo") (.ref (codeA K (He.ma K (He.ga K "Board") "undo"))) 0 (defBody s_Board_undo) (t_Board_undo) := fun A outer s H E μ W tk hr =>
    (dss_cons (ds_if (dt_cmp (dop_eq hr.units) (de_callB cd_len rfl (C.free 6 rfl) bt_len (da_cons (de_fld (c := 0) (f := 2) (hf := (by decide : 2 < (3 : Nat))) (C.cls 28 rfl) (C.noat 31 rfl) (de_var 0)) da_nil)) de_int (L2.nomark _)) (dss_one ds_never) dss_nil)
      (dss_cons (ds_expr (de_bm0 PySem.F.plainAttrs_list PySem.F.slot_list_pop PySem.F.type_list_pop md_pop (de_fld (c := 0) (f := 1) (hf := (by decide : 1 < (3 : Nat))) (C.cls 28 rfl) (C.noat 30 rfl) (de_var 0))))
      (dss_one (ds_expr (de_bm0 PySem.F.plainAttrs_list PySem.F.slot_list_pop PySem.F.type_list_pop md_pop (de_fld (c := 0) (f := 2) (hf := (by decide : 2 < (3 : Nat))) (C.cls 28 rfl) (C.noat 31 rfl) (de_var 0)))))))
abbrev s_Board_twin : Stmt := (inClass (top 22) 8)
abbrev N_Board_twin : List Str := ["self", "found", "deed"]
theorem sc_Board_twin : FnScope N_Board_twin ["self"] (defScope s_Board_twin) := ⟨rfl, rfl, rfl, by decide +kernel, rfl, by decide +kernel, by decide +kernel⟩
def t_Board_twin_r0  (W : DXW) : DTS := (dRet (dVar 1))
def t_Board_twin_b1  (W : DXW) : DTS := (dDrop (dMeth 0 2 S_Board_do W (dVar 1) (dCons (dVar 2) dNil)))
def t_Board_twin  (W : DXW) : DTS := (dSeq2 (dSet 1 (dMake 0 3 S_Board___init__ W (dCons (dFld 0 0 (dVar 0)) (dCons (dOp dIx (dFld 0 1 (dVar 0)) (dC (.int 0))) dNil))))
  (dSeq2 (dFor (dSeq (dFld 0 2 (dVar 0))) (.nm 2) (t_Board_twin_b1 W))
  (t_Board_twin_r0 W)))
theorem w_Board_twin {P : Program} {w : World} {K : PySem.W.Frag} {mg : Str → Option Value} {base : Heap} (C : KCtx K mg base)  (F_Board_do : GFn P w K mg base (cfg K) (He.ma K (He.ga K "Board") "do") 4 2 S_Board_do) (F_Board___init__ : GFn P w K mg base (cfg K) (He.ma K (He.ga K "Board") "__init__") 9 3 S_Board___init__) : Walk P w K mg base (cfg K) rfl N_Board_twin "Board.twin" (defScope s_Board_twin) (He.ma K (He.ga K "Board") "twin") (.ref (codeA K (He.ma K (He.ga K "Board") "twin"))) 10 (defBody s_Board_twin) (t_Board_twin) := fun A outer s H E μ W tk hr =>
    (dss_cons (ds_set 1 sc_Board_twin.nd (de_make (c := 0) (W := W) rfl (C.mkr 37 rfl) F_Board___init__ hr (C.glo 38 rfl) rfl (da_cons (de_fld (c := 0) (f := 0) (hf := (by decide : 0 < (3 : Nat))) (C.cls 28 rfl) (C.noat 29 rfl) (de_var 0)) (da_cons (de_ix (L2.hu_of hr) (de_fld (c := 0) (f := 1) (hf := (by decide : 1 < (3 : Nat))) (C.cls 28 rfl) (C.noat 30 rfl) (de_var 0)) de_int) da_nil))))
      (dss_cons (ds_for (passes_of rfl) rfl (dpi_list (de_fld (c := 0) (f := 2) (hf := (by decide : 2 < (3 : Nat))) (C.cls 28 rfl) (C.noat 31 rfl) (de_var 0))) (dtg_name 2 sc_Board_twin.nd) (dss_one (ds_expr (de_meth (c := 0) (W := W) rfl (C.cls 28 rfl) (C.meth 36 rfl) (nofmK K "do" (by decide +kernel)) F_Board_do hr (de_var 1) (da_cons (de_var 2) da_nil)))))
      (dss_one (ds_ret (de_var 1)))))
abbrev s__law_well : Stmt := (top 24)
abbrev N__law_well : List Str := ["script", "cell"]
theorem sc__law_well : FnScope N__law_well ["script"] (defScope s__law_well) := ⟨rfl, rfl, rfl, by decide +kernel, rfl, by decide +kernel, by decide +kernel⟩
def t__law_well  (W : DXW) : DTS := (dRet (dDisp [((dC (.str "cells")), (dNew (dLc (dSeq (dVar 0)) (.nm 1) dYes (dCB dIntC (dCons (dVar 1) dNil)) [1]))), ((dC (.str "next")), (dC (.int 0))), ((dC (.str "digits")), (dC (.int 0))), ((dC (.str "seed")), (dC (.int 1709))), ((dC (.str "count")), (dC (.int 0)))]))
theorem w__law_well {P : Program} {w : World} {K : PySem.W.Frag} {mg : Str → Option Value} {base : Heap} (C : KCtx K mg base)   : Walk P w K mg base (cfg K) rfl N__law_well "_law_well" (defScope s__law_well) (He.ga K "_law_well") (.ref (codeA K (He.ga K "_law_well"))) 0 (defBody s__law_well) (t__law_well) := fun A outer s H E μ W tk hr =>
    (dss_one (ds_ret (de_disp (dps_cons de_str (de_new (df_lc (own := [("cell", 1)]) rfl sc__law_well.nd (dpi_list (de_var 0)) (blkOk_by (N := N__law_well) (sc := (defScope s__law_well)) (by decide +kernel)) (by decide) (fun _ _ _ _ _ => (dtg_name 1 sc__law_well.nd)) (fun _ _ _ _ _ => dts_nil) (fun _ _ _ _ _ => (de_callTy cd_int rfl (C.free 1 rfl) bt_int (da_cons (de_var 1) da_nil))))) (dps_cons de_str de_int (dps_cons de_str de_int (dps_cons de_str de_int (dps_cons de_str de_int dps_nil))))))))
abbrev s__law_draw : Stmt := (top 25)
abbrev N__law_draw : List Str := ["well", "many", "turn", "mixed", "cell", "found"]
theorem sc__law_draw : FnScope N__law_draw ["well", "many"] (defScope s__law_draw) := ⟨rfl, rfl, rfl, by decide +kernel, rfl, by decide +kernel, by decide +kernel⟩
def t__law_draw_r0  (W : DXW) : DTS := (dSeq2 (dIfS (dBl (dOp dGt (dOp dIx (dVar 0) (dC (.str "digits"))) (dC (.int 0)))) (dSeq2 (dSet 5 (dOp dMod (dCB dIntC (dCons (dOp dIx (dVar 0) (dC (.str "digits"))) dNil)) (dVar 1)))
  (dSeq2 (dSubS dSetI (dVar 0) (dC (.str "digits")) (dOp dFdiv (dOp dIx (dVar 0) (dC (.str "digits"))) (dVar 1)))
  (dRet (dVar 5)))) dNext)
  (dSeq2 (dAugS (dVar 0) (dC (.str "count")) (dC (.int 1)) dGet (dI2 fun i j => .int (i + j)) dSetI)
  (dSeq2 (dSubS dSetI (dVar 0) (dC (.str "seed")) (dOp dMod (dCB dIntC (dCons (dOp dAdd (dOp dAdd (dOp dMul (dOp dIx (dVar 0) (dC (.str "seed"))) (dC (.int 6364136223846793))) (dOp dMul (dC (.int 1442695040888963)) (dOp dIx (dVar 0) (dC (.str "count"))))) (dC (.int 11))) dNil)) (dC (.int 2305843009213693951))))
  (dSeq2 (dSet 3 (dOp dMod (dCB dIntC (dCons (dOp dAdd (dOp dFdiv (dOp dMul (dOp dIx (dVar 0) (dC (.str "seed"))) (dOp dIx (dVar 0) (dC (.str "seed")))) (dC (.int 1000003))) (dOp dFdiv (dOp dIx (dVar 0) (dC (.str "seed"))) (dC (.int 17)))) dNil)) (dC (.int 9007199254740881))))
  (dRet (dOp dMod (dCB dIntC (dCons (dOp dFdiv (dVar 3) (dC (.int 13))) dNil)) (dVar 1)))))))
def t__law_draw_b1  (W : DXW) : DTS := (dSeq2 (dIfS (dBl (dOp dGt (dOp dIx (dVar 0) (dC (.str "digits"))) (dC (.int 0)))) dBrk dNext)
  (dSeq2 (dSet 4 (dOp dIx (dOp dIx (dVar 0) (dC (.str "cells"))) (dOp dIx (dVar 0) (dC (.str "next")))))
  (dSeq2 (dAugS (dVar 0) (dC (.str "next")) (dC (.int 1)) dGet (dI2 fun i j => .int (i + j)) dSetI)
  (dIfS (dBl (dOp dGe (dVar 4) (dOp dPow (dC (.int 10)) (dC (.int 18))))) (dSubS dSetI (dVar 0) (dC (.str "digits")) (dOp dAdd (dOp dSub (dVar 4) (dOp dPow (dC (.int 10)) (dC (.int 18)))) (dC (.int 1)))) (dSubS dSetI (dVar 0) (dC (.str "seed")) (dOp dMod (dCB dIntC (dCons (dOp dAdd (dOp dAdd (dOp dMul (dOp dIx (dVar 0) (dC (.str "seed"))) (dC (.int 1009))) (dOp dMul (dVar 4) (dC (.int 31)))) (dC (.int 7))) dNil)) (dC (.int 2305843009213693951))))))))
def t__law_draw  (W : DXW) : DTS := (dSeq2 (dFor (dRng1 (dOp dSub (dCB dLen (dCons (dOp dIx (dVar 0) (dC (.str "cells"))) dNil)) (dOp dIx (dVar 0) (dC (.str "next"))))) (.nm 2) (t__law_draw_b1 W))
  (t__law_draw_r0 W))
theorem w__law_draw {P : Program} {w : World} {K : PySem.W.Frag} {mg : Str → Option Value} {base : Heap} (C : KCtx K mg base)   : Walk P w K mg base (cfg K) rfl N__law_draw "_law_draw" (defScope s__law_draw) (He.ga K "_law_draw") (.ref (codeA K (He.ga K "_law_draw"))) 0 (defBody s__law_draw) (t__law_draw) := fun A outer s H E μ W tk hr =>
    (dss_cons (ds_for (passes_of rfl) rfl (dpi_range1 rfl (C.free 10 rfl) (de_op dop_sub (de_callB cd_len rfl (C.free 6 rfl) bt_len (da_cons (de_ix (L2.hu_of hr) (de_var 0) de_str) da_nil)) (de_ix (L2.hu_of hr) (de_var 0) de_str))) (dtg_name 2 sc__law_draw.nd) (dss_cons (ds_if (dt_cmp dop_gt (de_ix (L2.hu_of hr) (de_var 0) de_str) de_int (L2.nomark _)) (dss_one ds_break) dss_nil)
      (dss_cons (ds_set 4 sc__law_draw.nd (de_ix (L2.hu_of hr) (de_ix (L2.hu_of hr) (de_var 0) de_str) (de_ix (L2.hu_of hr) (de_var 0) de_str)))
      (dss_cons (ds_augS (getD (L2.hu_of hr)) ipD_add (setD (L2.hu_of hr)) (de_var 0) de_str de_int)
      (dss_one (ds_if (dt_cmp dop_ge (de_var 4) (de_op dop_pow de_int de_int) (L2.nomark _)) (dss_one (ds_subR (setD (L2.hu_of hr)) (de_var 0) de_str (de_op dop_add (de_op dop_sub (de_var 4) (de_op dop_pow de_int de_int)) de_int))) (dss_one (ds_subR (setD (L2.hu_of hr)) (de_var 0) de_str (de_op dop_mod (de_callTy cd_int rfl (C.free 1 rfl) bt_int (da_cons (de_op dop_add (de_op dop_add (de_op dop_mul (de_ix (L2.hu_of hr) (de_var 0) de_str) de_int) (de_op dop_mul (de_var 4) de_int)) de_int) da_nil)) de_int)))))))))
      (dss_cons (ds_if (dt_cmp dop_gt (de_ix (L2.hu_of hr) (de_var 0) de_str) de_int (L2.nomark _)) (dss_cons (ds_set 5 sc__law_draw.nd (de_op dop_mod (de_callTy cd_int rfl (C.free 1 rfl) bt_int (da_cons (de_ix (L2.hu_of hr) (de_var 0) de_str) da_nil)) (de_var 1)))
      (dss_cons (ds_subR (setD (L2.hu_of hr)) (de_var 0) de_str (de_op dop_fdiv (de_ix (L2.hu_of hr) (de_var 0) de_str) (de_var 1)))
      (dss_one (ds_ret (de_var 5))))) dss_nil)
      (dss_cons (ds_augS (getD (L2.hu_of hr)) ipD_add (setD (L2.hu_of hr)) (de_var 0) de_str de_int)
      (dss_cons (ds_subR (setD (L2.hu_of hr)) (de_var 0) de_str (de_op dop_mod (de_callTy cd_int rfl (C.free 1 rfl) bt_int (da_cons (de_op dop_add (de_op dop_add (de_op dop_mul (de_ix (L2.hu_of hr) (de_var 0) de_str) de_int) (de_op dop_mul de_int (de_ix (L2.hu_of hr) (de_var 0) de_str))) de_int) da_nil)) de_int))
      (dss_cons (ds_set 3 sc__law_draw.nd (de_op dop_mod (de_callTy cd_int rfl (C.free 1 rfl) bt_int (da_cons (de_op dop_add (de_op dop_fdiv (de_op dop_mul (de_ix (L2.hu_of hr) (de_var 0) de_str) (de_ix (L2.hu_of hr) (de_var 0) de_str)) de_int) (de_op dop_fdiv (de_ix (L2.hu_of hr) (de_var 0) de_str) de_int)) da_nil)) de_int))
      (dss_one (ds_ret (de_op dop_mod (de_callTy cd_int rfl (C.free 1 rfl) bt_int (da_cons (de_op dop_fdiv (de_var 3) de_int) da_nil)) (de_var 1)))))))))
abbrev s__law_like : Stmt := (top 26)
abbrev N__law_like : List Str := ["told", "due", "at"]
theorem sc__law_like : FnScope N__law_like ["told", "due"] (defScope s__law_like) := ⟨rfl, rfl, rfl, by decide +kernel, rfl, by decide +kernel, by decide +kernel⟩
def t__law_like (Sr : DSp) (W : DXW) : DTS := (dSeq2 (dIfS (dTest (dIsi "tuple" (dVar 1))) (dRet (dAndV (dIsi "tuple" (dVar 0)) (dAndV (dOp dEq (dCB dLen (dCons (dVar 0) dNil)) (dCB dLen (dCons (dVar 1) dNil))) (dCB dAllF (dLc (dRng1 (dCB dLen (dCons (dVar 1) dNil))) (.nm 2) dYes (dCall 2 Sr noW (dCons (dOp dIx (dVar 0) (dVar 2)) (dCons (dOp dIx (dVar 1) (dVar 2)) dNil))) [2]))))) dNext)
  (dSeq2 (dIfS (dTest (dIsi "list" (dVar 1))) (dRet (dAndV (dIsi "list" (dVar 0)) (dAndV (dOp dEq (dCB dLen (dCons (dVar 0) dNil)) (dCB dLen (dCons (dVar 1) dNil))) (dCB dAllF (dLc (dRng1 (dCB dLen (dCons (dVar 1) dNil))) (.nm 2) dYes (dCall 2 Sr noW (dCons (dOp dIx (dVar 0) (dVar 2)) (dCons (dOp dIx (dVar 1) (dVar 2)) dNil))) [2]))))) dNext)
  (dSeq2 (dIfS (dBl (dOp (dIsN false) (dVar 1) (dC .non))) (dRet (dOp (dIsN false) (dVar 0) (dC .non))) dNext)
  (dSeq2 (dIfS (dOr (dTest (dIsi "bool" (dVar 1))) (dTest (dIsi "str" (dVar 1)))) (dRet (dAndV (dOp dEq (dIsi "bool" (dVar 0)) (dIsi "bool" (dVar 1))) (dAndV (dOp dEq (dIsi "str" (dVar 0)) (dIsi "str" (dVar 1))) (dOp dEq (dVar 0) (dVar 1))))) dNext)
  (dRet (dAndV (dIsi "int" (dVar 0)) (dAndV (dNotV (dIsi "bool" (dVar 0))) (dOp dEq (dVar 0) (dVar 1)))))))))
theorem w__law_like {P : Program} {w : World} {K : PySem.W.Frag} {mg : Str → Option Value} {base : Heap} (C : KCtx K mg base) {d : Nat} {Sr : DSp} (F__law_like : GFn P w K mg base (cfg K) (He.ga K "_law_like") d 2 Sr) : Walk P w K mg base (cfg K) rfl N__law_like "_law_like" (defScope s__law_like) (He.ga K "_law_like") (.ref (codeA K (He.ga K "_law_like"))) d (defBody s__law_like) (t__law_like Sr) := fun A outer s H E μ W tk hr =>
    (dss_cons (ds_if (dt_val (de_isi kit_tuple bt_tuple rfl (C.free 0 rfl) rfl (C.free 5 rfl) (de_var 1))) (dss_one (ds_ret (de_and (de_isi kit_tuple bt_tuple rfl (C.free 0 rfl) rfl (C.free 5 rfl) (de_var 0)) (de_and (de_cmp (dop_eq hr.units) (de_callB cd_len rfl (C.free 6 rfl) bt_len (da_cons (de_var 0) da_nil)) (de_callB cd_len rfl (C.free 6 rfl) bt_len (da_cons (de_var 1) da_nil)) (L2.nomark _)) (de_one (de_callBF (fd_all rfl) rfl (C.free 7 rfl) bt_all (df_lc (own := [("at", 2)]) rfl sc__law_like.nd (dpi_range1 rfl (C.free 10 rfl) (de_callB cd_len rfl (C.free 6 rfl) bt_len (da_cons (de_var 1) da_nil))) (blkOk_by (N := N__law_like) (sc := (defScope s__law_like)) (by decide +kernel)) (by decide) (fun _ _ _ _ _ => (dtg_name 2 sc__law_like.nd)) (fun _ _ _ _ _ => dts_nil) (fun _ _ _ _ _ => (de_call (W := noW) rfl F__law_like hr (C.glo 39 rfl) (C.keep 40 rfl) rfl (da_cons (de_ix (L2.hu_of hr) (de_var 0) (de_var 2)) (da_cons (de_ix (L2.hu_of hr) (de_var 1) (de_var 2)) da_nil)) (hj := Nat.le_refl _)))))))))) dss_nil)
      (dss_cons (ds_if (dt_val (de_isi kit_list bt_list rfl (C.free 0 rfl) rfl (C.free 41 rfl) (de_var 1))) (dss_one (ds_ret (de_and (de_isi kit_list bt_list rfl (C.free 0 rfl) rfl (C.free 41 rfl) (de_var 0)) (de_and (de_cmp (dop_eq hr.units) (de_callB cd_len rfl (C.free 6 rfl) bt_len (da_cons (de_var 0) da_nil)) (de_callB cd_len rfl (C.free 6 rfl) bt_len (da_cons (de_var 1) da_nil)) (L2.nomark _)) (de_one (de_callBF (fd_all rfl) rfl (C.free 7 rfl) bt_all (df_lc (own := [("at", 2)]) rfl sc__law_like.nd (dpi_range1 rfl (C.free 10 rfl) (de_callB cd_len rfl (C.free 6 rfl) bt_len (da_cons (de_var 1) da_nil))) (blkOk_by (N := N__law_like) (sc := (defScope s__law_like)) (by decide +kernel)) (by decide) (fun _ _ _ _ _ => (dtg_name 2 sc__law_like.nd)) (fun _ _ _ _ _ => dts_nil) (fun _ _ _ _ _ => (de_call (W := noW) rfl F__law_like hr (C.glo 39 rfl) (C.keep 40 rfl) rfl (da_cons (de_ix (L2.hu_of hr) (de_var 0) (de_var 2)) (da_cons (de_ix (L2.hu_of hr) (de_var 1) (de_var 2)) da_nil)) (hj := Nat.le_refl _)))))))))) dss_nil)
      (dss_cons (ds_if (dt_cmp dop_is (de_var 1) de_non (L2.nomark _)) (dss_one (ds_ret (de_cmp dop_is (de_var 0) de_non (L2.nomark _)))) dss_nil)
      (dss_cons (ds_if (DW.t (dw_or (dt_val (de_isi kit_bool bt_bool rfl (C.free 0 rfl) rfl (C.free 2 rfl) (de_var 1))) (dw_or1 (dt_val (de_isi kit_str bt_str rfl (C.free 0 rfl) rfl (C.free 42 rfl) (de_var 1)))))) (dss_one (ds_ret (de_and (de_cmp (dop_eq hr.units) (de_isi kit_bool bt_bool rfl (C.free 0 rfl) rfl (C.free 2 rfl) (de_var 0)) (de_isi kit_bool bt_bool rfl (C.free 0 rfl) rfl (C.free 2 rfl) (de_var 1)) (L2.nomark _)) (de_and (de_cmp (dop_eq hr.units) (de_isi kit_str bt_str rfl (C.free 0 rfl) rfl (C.free 42 rfl) (de_var 0)) (de_isi kit_str bt_str rfl (C.free 0 rfl) rfl (C.free 42 rfl) (de_var 1)) (L2.nomark _)) (de_one (de_cmp (dop_eq hr.units) (de_var 0) (de_var 1) (L2.nomark _))))))) dss_nil)
      (dss_one (ds_ret (de_and (de_isi kit_int bt_int rfl (C.free 0 rfl) rfl (C.free 1 rfl) (de_var 0)) (de_and (de_not (de_isi kit_bool bt_bool rfl (C.free 0 rfl) rfl (C.free 2 rfl) (de_var 0))) (de_one (de_cmp (dop_eq hr.units) (de_var 0) (de_var 1) (L2.nomark _)))))))))))
abbrev s__law_sum : Stmt := (top 27)
abbrev N__law_sum : List Str := ["one", "other", "many", "at"]
theorem sc__law_sum : FnScope N__law_sum ["one", "other", "many"] (defScope s__law_sum) := ⟨rfl, rfl, rfl, by decide +kernel, rfl, by decide +kernel, by decide +kernel⟩
def t__law_sum  (W : DXW) : DTS := (dRet (dCB dTupF (dLc (dRng1 (dCB dLen (dCons (dVar 0) dNil))) (.nm 3) dYes (dOp dAdd (dOp dIx (dVar 0) (dVar 3)) (dOp dMul (dVar 2) (dOp dIx (dVar 1) (dVar 3)))) [3])))
theorem w__law_sum {P : Program} {w : World} {K : PySem.W.Frag} {mg : Str → Option Value} {base : Heap} (C : KCtx K mg base)   : Walk P w K mg base (cfg K) rfl N__law_sum "_law_sum" (defScope s__law_sum) (He.ga K "_law_sum") (.ref (codeA K (He.ga K "_law_sum"))) 0 (defBody s__law_sum) (t__law_sum) := fun A outer s H E μ W tk hr =>
    (dss_one (ds_ret (de_callTyF fd_tuple rfl (C.free 5 rfl) bt_tuple (df_lc (own := [("at", 3)]) rfl sc__law_sum.nd (dpi_range1 rfl (C.free 10 rfl) (de_callB cd_len rfl (C.free 6 rfl) bt_len (da_cons (de_var 0) da_nil))) (blkOk_by (N := N__law_sum) (sc := (defScope s__law_sum)) (by decide +kernel)) (by decide) (fun _ _ _ _ _ => (dtg_name 3 sc__law_sum.nd)) (fun _ _ _ _ _ => dts_nil) (fun _ _ _ _ _ => (de_op dop_add (de_ix (L2.hu_of hr) (de_var 0) (de_var 3)) (de_op dop_mul (de_var 2) (de_ix (L2.hu_of hr) (de_var 1) (de_var 3)))))))))
abbrev s__law_unit : Stmt := (top 28)
abbrev N__law_unit : List Str := ["size", "place", "at"]
theorem sc__law_unit : FnScope N__law_unit ["size", "place"] (defScope s__law_unit) := ⟨rfl, rfl, rfl, by decide +kernel, rfl, by decide +kernel, by decide +kernel⟩
def t__law_unit  (W : DXW) : DTS := (dRet (dCB dTupF (dLc (dRng1 (dVar 0)) (.nm 2) dYes (dCB dIntC (dCons (dOp dEq (dVar 2) (dVar 1)) dNil)) [2])))
theorem w__law_unit {P : Program} {w : World} {K : PySem.W.Frag} {mg : Str → Option Value} {base : Heap} (C : KCtx K mg base)   : Walk P w K mg base (cfg K) rfl N__law_unit "_law_unit" (defScope s__law_unit) (He.ga K "_law_unit") (.ref (codeA K (He.ga K "_law_unit"))) 0 (defBody s__law_unit) (t__law_unit) := fun A outer s H E μ W tk hr =>
    (dss_one (ds_ret (de_callTyF fd_tuple rfl (C.free 5 rfl) bt_tuple (df_lc (own := [("at", 2)]) rfl sc__law_unit.nd (dpi_range1 rfl (C.free 10 rfl) (de_var 0)) (blkOk_by (N := N__law_unit) (sc := (defScope s__law_unit)) (by decide +kernel)) (by decide) (fun _ _ _ _ _ => (dtg_name 2 sc__law_unit.nd)) (fun _ _ _ _ _ => dts_nil) (fun _ _ _ _ _ => (de_callTy cd_int rfl (C.free 1 rfl) bt_int (da_cons (de_cmp (dop_eq hr.units) (de_var 2) (de_var 1) (L2.nomark _)) da_nil)))))))
abbrev s__law_tally : Stmt := (top 29)
abbrev N__law_tally : List Str := ["well", "size", "total", "found", "turn"]
theorem sc__law_tally : FnScope N__law_tally ["well", "size", "total"] (defScope s__law_tally) := ⟨rfl, rfl, rfl, by decide +kernel, rfl, by decide +kernel, by decide +kernel⟩
def t__law_tally_r0  (W : DXW) : DTS := (dRet (dCB dTupleC (dCons (dVar 3) dNil)))
def t__law_tally_b1  (W : DXW) : DTS := (dAugS (dVar 3) (dCall 2 S__law_draw W (dCons (dVar 0) (dCons (dVar 1) dNil))) (dC (.int 1)) dGet (dI2 fun i j => .int (i + j)) dSetI)
def t__law_tally  (W : DXW) : DTS := (dSeq2 (dSet 3 (dNew (dRep (dLst (dCons (dC (.int 0)) dNil)) (dVar 1))))
  (dSeq2 (dFor (dRng1 (dVar 2)) (.nm 4) (t__law_tally_b1 W))
  (t__law_tally_r0 W)))
theorem w__law_tally {P : Program} {w : World} {K : PySem.W.Frag} {mg : Str → Option Value} {base : Heap} (C : KCtx K mg base)  (F__law_draw : GFn P w K mg base (cfg K) (He.ga K "_law_draw") 1 2 S__law_draw) : Walk P w K mg base (cfg K) rfl N__law_tally "_law_tally" (defScope s__law_tally) (He.ga K "_law_tally") (.ref (codeA K (He.ga K "_law_tally"))) 1 (defBody s__law_tally) (t__law_tally) := fun A outer s H E μ W tk hr =>
    (dss_cons (ds_set 3 sc__law_tally.nd (de_new (df_rep (df_lst (da_cons de_int da_nil)) (de_var 1))))
      (dss_cons (ds_for (passes_of rfl) rfl (dpi_range1 rfl (C.free 10 rfl) (de_var 2)) (dtg_name 4 sc__law_tally.nd) (dss_one (ds_augS (getD (L2.hu_of hr)) ipD_add (setD (L2.hu_of hr)) (de_var 3) (de_call (W := W) rfl F__law_draw hr (C.glo 43 rfl) (C.keep 44 rfl) rfl (da_cons (de_var 0) (da_cons (de_var 1) da_nil))) de_int)))
      (dss_one (ds_ret (de_callTy cd_tuple rfl (C.free 5 rfl) bt_tuple (da_cons (de_var 3) da_nil))))))
abbrev s__law_net : Stmt := (top 30)
abbrev N__law_net : List Str := ["well", "most", "places", "turn", "way", "deeds", "marks"]
theorem sc__law_net : FnScope N__law_net ["well", "most"] (defScope s__law_net) := ⟨rfl, rfl, rfl, by decide +kernel, rfl, by decide +kernel, by decide +kernel⟩
def t__law_net_r0  (W : DXW) : DTS := (dRet (dTup (dCons (dTup (dCons (dVar 2) (dCons (dCB dTupF (dSortN (dVar 5))) dNil))) (dCons (dCall 3 S__law_tally W (dCons (dVar 0) (dCons (dVar 2) (dCons (dCall 2 S__law_draw W (dCons (dVar 0) (dCons (dIxF (dLst (dCons (dC (.int 4)) (dCons (dC (.int 4)) (dCons (dC (.int 3)) (dCons (dC (.int 2)) dNil))))) 4) dNil))) dNil)))) dNil))))
def t__law_net_b1  (W : DXW) : DTS := (dSeq2 (dSet 6 (dCall 2 S__law_draw W (dCons (dVar 0) (dCons (dC (.int 2)) dNil))))
  (dSeq2 (dIfS (dBl (dOp dLt (dVar 3) (dIxF (dLst (dCons (dC (.int 0)) (dCons (dC (.int 1)) (dCons (dC (.int 2)) (dCons (dC (.int 1)) dNil))))) 4))) (dSet 6 (dIf (dBl (dOp dEq (dVar 4) (dC (.int 3)))) (dC (.int 3)) (dC (.int 2)))) dNext)
  (dSubS dSetN (dVar 5) (dTup (dCons (dCall 2 S__law_draw W (dCons (dVar 0) (dCons (dVar 2) dNil))) (dCons (dCall 3 S__law_tally W (dCons (dVar 0) (dCons (dVar 2) (dCons (dVar 6) dNil)))) dNil))) (dC (.bl true)))))
def t__law_net  (W : DXW) : DTS := (dSeq2 (dPar 4 5 (dCall 2 S__law_draw W (dCons (dVar 0) (dCons (dC (.int 4)) dNil))) dNewN)
  (dSeq2 (dSet 2 (dOp dAdd (dC (.int 1)) (dCall 2 S__law_draw W (dCons (dVar 0) (dCons (dCB dMinC (dCons (dVar 1) (dCons (dIf (dBl (dOp dLt (dVar 4) (dC (.int 2)))) (dC (.int 3)) (dC (.int 2))) dNil))) dNil)))))
  (dSeq2 (dFor (dRng1 (dCall 2 S__law_draw W (dCons (dVar 0) (dCons (dC (.int 5)) dNil)))) (.nm 3) (t__law_net_b1 W))
  (t__law_net_r0 W))))
theorem w__law_net {P : Program} {w : World} {K : PySem.W.Frag} {mg : Str → Option Value} {base : Heap} (C : KCtx K mg base)  (F__law_tally : GFn P w K mg base (cfg K) (He.ga K "_law_tally") 2 3 S__law_tally) (F__law_draw : GFn P w K mg base (cfg K) (He.ga K "_law_draw") 1 2 S__law_draw) : Walk P w K mg base (cfg K) rfl N__law_net "_law_net" (defScope s__law_net) (He.ga K "_law_net") (.ref (codeA K (He.ga K "_law_net"))) 2 (defBody s__law_net) (t__law_net) := fun A outer s H E μ W tk hr =>
    (dss_cons (ds_par (i := 4) (j := 5) rfl sc__law_net.nd (de_call (W := W) rfl F__law_draw hr (C.glo 43 rfl) (C.keep 44 rfl) rfl (da_cons (de_var 0) (da_cons de_int da_nil))) de_dnewN)
      (dss_cons (ds_set 2 sc__law_net.nd (de_op dop_add de_int (de_call (W := W) rfl F__law_draw hr (C.glo 43 rfl) (C.keep 44 rfl) rfl (da_cons (de_var 0) (da_cons (de_callB (cd_min rfl) rfl (C.free 48 rfl) bt_min (da_cons (de_var 1) (da_cons (de_ifExp (dt_cmp dop_lt (de_var 4) de_int (L2.nomark _)) de_int de_int) da_nil))) da_nil)))))
      (dss_cons (ds_for (passes_of rfl) rfl (dpi_range1 rfl (C.free 10 rfl) (de_call (W := W) rfl F__law_draw hr (C.glo 43 rfl) (C.keep 44 rfl) rfl (da_cons (de_var 0) (da_cons de_int da_nil)))) (dtg_name 3 sc__law_net.nd) (dss_cons (ds_set 6 sc__law_net.nd (de_call (W := W) rfl F__law_draw hr (C.glo 43 rfl) (C.keep 44 rfl) rfl (da_cons (de_var 0) (da_cons de_int da_nil))))
      (dss_cons (ds_if (dt_cmp dop_lt (de_var 3) (de_ixF 4 (df_lst (da_cons de_int (da_cons de_int (da_cons de_int (da_cons de_int da_nil)))))) (L2.nomark _)) (dss_one (ds_set 6 sc__law_net.nd (de_ifExp (dt_cmp (dop_eq hr.units) (de_var 4) de_int (L2.nomark _)) de_int de_int))) dss_nil)
      (dss_one (ds_subR (setND hr.units) (de_var 5) (de_tup (da_cons (de_call (W := W) rfl F__law_draw hr (C.glo 43 rfl) (C.keep 44 rfl) rfl (da_cons (de_var 0) (da_cons (de_var 2) da_nil))) (da_cons (de_call (W := W) rfl F__law_tally hr (C.glo 45 rfl) (C.keep 46 rfl) rfl (da_cons (de_var 0) (da_cons (de_var 2) (da_cons (de_var 6) da_nil)))) da_nil))) de_bl)))))
      (dss_one (ds_ret (de_tup (da_cons (de_tup (da_cons (de_var 2) (da_cons (de_callTyF fd_tuple rfl (C.free 5 rfl) bt_tuple (df_sortN rfl rfl (C.free 47 rfl) rfl hr.units (de_var 5))) da_nil))) (da_cons (de_call (W := W) rfl F__law_tally hr (C.glo 45 rfl) (C.keep 46 rfl) rfl (da_cons (de_var 0) (da_cons (de_var 2) (da_cons (de_call (W := W) rfl F__law_draw hr (C.glo 43 rfl) (C.keep 44 rfl) rfl (da_cons (de_var 0) (da_cons (de_ixF 4 (df_lst (da_cons de_int (da_cons de_int (da_cons de_int (da_cons de_int da_nil)))))) da_nil))) da_nil)))) da_nil))))))))
abbrev s__law_behind : Stmt := (top 31)
abbrev N__law_behind : List Str := ["net", "bag", "deed", "place", "laid"]
theorem sc__law_behind : FnScope N__law_behind ["net", "bag", "deed"] (defScope s__law_behind) := ⟨rfl, rfl, rfl, by decide +kernel, rfl, by decide +kernel, by decide +kernel⟩
def t__law_behind  (W : DXW) : DTS := (dSeq2 (dAsg (.tp [(.nm 3), (.nm 4)]) (dOp dIx (dOp dIx (dVar 0) (dC (.int 1))) (dVar 2)))
  (dRet (dCall 3 S__law_sum W (dCons (dCall 3 S__law_sum W (dCons (dVar 1) (dCons (dVar 4) (dCons (dC (.int 1)) dNil)))) (dCons (dCall 2 S__law_unit W (dCons (dOp dIx (dVar 0) (dC (.int 0))) (dCons (dVar 3) dNil))) (dCons (dUn dNeg (dC (.int 1))) dNil))))))
theorem w__law_behind {P : Program} {w : World} {K : PySem.W.Frag} {mg : Str → Option Value} {base : Heap} (C : KCtx K mg base)  (F__law_sum : GFn P w K mg base (cfg K) (He.ga K "_law_sum") 1 3 S__law_sum) (F__law_unit : GFn P w K mg base (cfg K) (He.ga K "_law_unit") 1 2 S__law_unit) : Walk P w K mg base (cfg K) rfl N__law_behind "_law_behind" (defScope s__law_behind) (He.ga K "_law_behind") (.ref (codeA K (He.ga K "_law_behind"))) 1 (defBody s__law_behind) (t__law_behind) := fun A outer s H E μ W tk hr =>
    (dss_cons (ds_asg (de_ix (L2.hu_of hr) (de_ix (L2.hu_of hr) (de_var 0) de_int) (de_var 2)) (dtg_tup rfl (dtgs_cons (dtg_name 3 sc__law_behind.nd) (dtgs_cons (dtg_name 4 sc__law_behind.nd) dtgs_nil))))
      (dss_one (ds_ret (de_call (W := W) rfl F__law_sum hr (C.glo 51 rfl) (C.keep 52 rfl) rfl (da_cons (de_call (W := W) rfl F__law_sum hr (C.glo 51 rfl) (C.keep 52 rfl) rfl (da_cons (de_var 1) (da_cons (de_var 4) (da_cons de_int da_nil)))) (da_cons (de_call (W := W) rfl F__law_unit hr (C.glo 49 rfl) (C.keep 50 rfl) rfl (da_cons (de_ix (L2.hu_of hr) (de_var 0) de_int) (da_cons (de_var 3) da_nil))) (da_cons (de_un dun_neg de_int) da_nil)))))))
abbrev s__law_begun : Stmt := (top 32)
abbrev N__law_begun : List Str := ["net", "bag"]
theorem sc__law_begun : FnScope N__law_begun ["net", "bag"] (defScope s__law_begun) := ⟨rfl, rfl, rfl, by decide +kernel, rfl, by decide +kernel, by decide +kernel⟩
def t__law_begun  (W : DXW) : DTS := (dRet (dNew (dLst (dCons (dMake 0 3 S_Board___init__ W (dCons (dVar 0) (dCons (dVar 1) dNil))) (dCons (dVar 0) (dCons (dNew (dLst (dCons (dVar 1) dNil))) (dCons (dNew (dLst dNil)) dNil)))))))
theorem w__law_begun {P : Program} {w : World} {K : PySem.W.Frag} {mg : Str → Option Value} {base : Heap} (C : KCtx K mg base)  (F_Board___init__ : GFn P w K mg base (cfg K) (He.ma K (He.ga K "Board") "__init__") 9 3 S_Board___init__) : Walk P w K mg base (cfg K) rfl N__law_begun "_law_begun" (defScope s__law_begun) (He.ga K "_law_begun") (.ref (codeA K (He.ga K "_law_begun"))) 10 (defBody s__law_begun) (t__law_begun) := fun A outer s H E μ W tk hr =>
    (dss_one (ds_ret (de_new (df_lst (da_cons (de_make (c := 0) (W := W) rfl (C.mkr 37 rfl) F_Board___init__ hr (C.glo 38 rfl) rfl (da_cons (de_var 0) (da_cons (de_var 1) da_nil))) (da_cons (de_var 0) (da_cons (de_new (df_lst (da_cons (de_var 1) da_nil))) (da_cons (de_new (df_lst da_nil)) da_nil))))))))
abbrev s__law_shows : Stmt := (top 33)
abbrev N__law_shows : List Str := ["game", "asks", "many", "can", "row", "board", "net", "bags", "deeds", "told", "size", "listed", "counted", "deed", "one"]
theorem sc__law_shows : FnScope N__law_shows ["game", "asks"] (defScope s__law_shows) := ⟨rfl, rfl, rfl, by decide +kernel, rfl, by decide +kernel, by decide +kernel⟩
def t__law_shows_r0  (W : DXW) : DTS := (dSeq2 (dDrop (dBM "list" mAppend (dOp dIx (dVar 9) (dC (.int 2))) (dCons (dC (.int 0)) dNil)))
  (dRet (dCall 2 (S__law_like 3) W (dCons (dMeth 0 1 S_Board_can W (dVar 5) dNil) (dCons (dVar 3) dNil)))))
def t__law_shows_r1  (W : DXW) : DTS := (dSeq2 (dIfS (dNot (dTest (dCall 2 (S__law_like 3) W (dCons (dVar 9) (dCons (dNew (dLst (dCons (dOp dIx (dVar 7) (dUn dNeg (dC (.int 1)))) (dCons (dVar 4) (dCons (dVar 3) (dCons (dCB dLen (dCons (dVar 8) dNil)) dNil)))))) dNil))))) (dRet (dC (.bl false))) dNext)
  (t__law_shows_r0 W))
def t__law_shows  (W : DXW) : DTS := (dSeq2 (dAsg (.tp [(.nm 5), (.nm 6), (.nm 7), (.nm 8)]) (dVar 0))
  (dSeq2 (dSet 2 (dCB dLen (dCons (dOp dIx (dVar 6) (dC (.int 1))) dNil)))
  (dSeq2 (dSetF 3 (dLc (dRng1 (dVar 2)) (.nm 13) (dBl (dOp dGt (dOp dIx (dOp dIx (dVar 7) (dUn dNeg (dC (.int 1)))) (dOp dIx (dOp dIx (dOp dIx (dVar 6) (dC (.int 1))) (dVar 13)) (dC (.int 0)))) (dC (.int 0)))) (dVar 13) [13]))
  (dSeq2 (dSet 4 (dCB dTupF (dLc (dRng1 (dVar 2)) (.nm 13) dYes (dCB dLenF (dLc (dSeq (dVar 8)) (.nm 14) (dBl (dOp dEq (dVar 14) (dVar 13))) (dC (.int 1)) [14])) [13])))
  (dSeq2 (dIfS (dBl (dOp dEq (dVar 1) (dC (.int 0)))) (dSet 9 (dNew (dLst (dCons (dProp 0 S_Board_bag (dVar 5)) (dCons (dProp 0 S_Board_row (dVar 5)) (dCons (dMeth 0 1 S_Board_can W (dVar 5) dNil) (dCons (dLenO 0 S_Board___len__ (dVar 5)) dNil))))))) (dIfS (dBl (dOp dEq (dVar 1) (dC (.int 1)))) (dSeq2 (dSet 10 (dLenO 0 S_Board___len__ (dVar 5)))
  (dSeq2 (dSet 11 (dMeth 0 1 S_Board_can W (dVar 5) dNil))
  (dSeq2 (dSet 12 (dProp 0 S_Board_row (dVar 5)))
  (dSet 9 (dNew (dLst (dCons (dProp 0 S_Board_bag (dVar 5)) (dCons (dVar 12) (dCons (dVar 11) (dCons (dVar 10) dNil)))))))))) (dSeq2 (dSet 12 (dProp 0 S_Board_row (dVar 5)))
  (dSet 9 (dNew (dLst (dCons (dProp 0 S_Board_bag (dVar 5)) (dCons (dVar 12) (dCons (dMeth 0 1 S_Board_can W (dVar 5) dNil) (dCons (dLenO 0 S_Board___len__ (dVar 5)) dNil))))))))))
  (t__law_shows_r1 W))))))
theorem w__law_shows {P : Program} {w : World} {K : PySem.W.Frag} {mg : Str → Option Value} {base : Heap} (C : KCtx K mg base)  (F__law_like : GFn P w K mg base (cfg K) (He.ga K "_law_like") 3 2 (S__law_like 3)) (F_Board_can : GFn P w K mg base (cfg K) (He.ma K (He.ga K "Board") "can") 2 1 S_Board_can) (F_Board___len__ : GFn P w K mg base (cfg K) (He.ma K (He.ga K "Board") "__len__") 1 1 S_Board___len__) (F_Board_row : GFn P w K mg base (cfg K) (gAd K "Board" "row") 1 1 S_Board_row) (F_Board_bag : GFn P w K mg base (cfg K) (gAd K "Board" "bag") 1 1 S_Board_bag) : Walk P w K mg base (cfg K) rfl N__law_shows "_law_shows" (defScope s__law_shows) (He.ga K "_law_shows") (.ref (codeA K (He.ga K "_law_shows"))) 3 (defBody s__law_shows) (t__law_shows) := fun A outer s H E μ W tk hr =>
    (dss_cons (ds_asg (de_var 0) (dtg_tup rfl (dtgs_cons (dtg_name 5 sc__law_shows.nd) (dtgs_cons (dtg_name 6 sc__law_shows.nd) (dtgs_cons (dtg_name 7 sc__law_shows.nd) (dtgs_cons (dtg_name 8 sc__law_shows.nd) dtgs_nil))))))
      (dss_cons (ds_set 2 sc__law_shows.nd (de_callB cd_len rfl (C.free 6 rfl) bt_len (da_cons (de_ix (L2.hu_of hr) (de_var 6) de_int) da_nil)))
      (dss_cons (ds_setLc 3 (own := [("deed", 13)]) rfl sc__law_shows.nd (dpi_range1 rfl (C.free 10 rfl) (de_var 2)) (blkOk_by (N := N__law_shows) (sc := (defScope s__law_shows)) (by decide +kernel)) (by decide) (fun _ _ _ _ _ => (dtg_name 13 sc__law_shows.nd)) (fun _ _ _ _ _ => (dts_one (dt_cmp dop_gt (de_ix (L2.hu_of hr) (de_ix (L2.hu_of hr) (de_var 7) (de_un dun_neg de_int)) (de_ix (L2.hu_of hr) (de_ix (L2.hu_of hr) (de_ix (L2.hu_of hr) (de_var 6) de_int) (de_var 13)) de_int)) de_int (L2.nomark _)))) (fun _ _ _ _ _ => (de_var 13)))
      (dss_cons (ds_set 4 sc__law_shows.nd (de_callTyF fd_tuple rfl (C.free 5 rfl) bt_tuple (df_lc (own := [("deed", 13)]) rfl sc__law_shows.nd (dpi_range1 rfl (C.free 10 rfl) (de_var 2)) (blkOk_by (N := N__law_shows) (sc := (defScope s__law_shows)) (by decide +kernel)) (by decide) (fun _ _ _ _ _ => (dtg_name 13 sc__law_shows.nd)) (fun _ _ _ _ _ => dts_nil) (fun _ _ _ _ _ => (de_callBF fd_len rfl (C.free 6 rfl) bt_len (df_lc (own := [("one", 14)]) rfl sc__law_shows.nd (dpi_list (de_var 8)) (blkOk_by (by rfl)) (by decide) (fun _ _ _ _ _ => (dtg_name 14 sc__law_shows.nd)) (fun _ _ _ _ _ => (dts_one (dt_cmp (dop_eq hr.units) (de_var 14) (de_var 13) (L2.nomark _)))) (fun _ _ _ _ _ => de_int)))))))
      (dss_cons (ds_if (dt_cmp (dop_eq hr.units) (de_var 1) de_int (L2.nomark _)) (dss_one (ds_set 9 sc__law_shows.nd (de_new (df_lst (da_cons (de_prop (c := 0) (C.cls 28 rfl) (C.prop 0 rfl) F_Board_bag hr (de_var 5)) (da_cons (de_prop (c := 0) (C.cls 28 rfl) (C.prop 1 rfl) F_Board_row hr (de_var 5)) (da_cons (de_meth0 (c := 0) (W := W) rfl (C.cls 28 rfl) (C.meth 53 rfl) (nofmK K "can" (by decide +kernel)) F_Board_can hr (de_var 5)) (da_cons (de_lenO (c := 0) rfl (C.free 6 rfl) rfl (C.cls 28 rfl) (C.meth 54 rfl).at_ (C.meth 54 rfl).fn F_Board___len__ hr (de_var 5)) da_nil)))))))) (dss_one (ds_if (dt_cmp (dop_eq hr.units) (de_var 1) de_int (L2.nomark _)) (dss_cons (ds_set 10 sc__law_shows.nd (de_lenO (c := 0) rfl (C.free 6 rfl) rfl (C.cls 28 rfl) (C.meth 54 rfl).at_ (C.meth 54 rfl).fn F_Board___len__ hr (de_var 5)))
      (dss_cons (ds_set 11 sc__law_shows.nd (de_meth0 (c := 0) (W := W) rfl (C.cls 28 rfl) (C.meth 53 rfl) (nofmK K "can" (by decide +kernel)) F_Board_can hr (de_var 5)))
      (dss_cons (ds_set 12 sc__law_shows.nd (de_prop (c := 0) (C.cls 28 rfl) (C.prop 1 rfl) F_Board_row hr (de_var 5)))
      (dss_one (ds_set 9 sc__law_shows.nd (de_new (df_lst (da_cons (de_prop (c := 0) (C.cls 28 rfl) (C.prop 0 rfl) F_Board_bag hr (de_var 5)) (da_cons (de_var 12) (da_cons (de_var 11) (da_cons (de_var 10) da_nil))))))))))) (dss_cons (ds_set 12 sc__law_shows.nd (de_prop (c := 0) (C.cls 28 rfl) (C.prop 1 rfl) F_Board_row hr (de_var 5)))
      (dss_one (ds_set 9 sc__law_shows.nd (de_new (df_lst (da_cons (de_prop (c := 0) (C.cls 28 rfl) (C.prop 0 rfl) F_Board_bag hr (de_var 5)) (da_cons (de_var 12) (da_cons (de_meth0 (c := 0) (W := W) rfl (C.cls 28 rfl) (C.meth 53 rfl) (nofmK K "can" (by decide +kernel)) F_Board_can hr (de_var 5)) (da_cons (de_lenO (c := 0) rfl (C.free 6 rfl) rfl (C.cls 28 rfl) (C.meth 54 rfl).at_ (C.meth 54 rfl).fn F_Board___len__ hr (de_var 5)) da_nil))))))))))))
      (dss_cons (ds_if (dt_not (dt_val (de_call (W := W) rfl F__law_like hr (C.glo 39 rfl) (C.keep 40 rfl) rfl (da_cons (de_var 9) (da_cons (de_new (df_lst (da_cons (de_ix (L2.hu_of hr) (de_var 7) (de_un dun_neg de_int)) (da_cons (de_var 4) (da_cons (de_var 3) (da_cons (de_callB cd_len rfl (C.free 6 rfl) bt_len (da_cons (de_var 8) da_nil)) da_nil)))))) da_nil))))) (dss_one (ds_ret de_bl)) dss_nil)
      (dss_cons (ds_expr (de_bm PySem.F.plainAttrs_list PySem.F.slot_list_append PySem.F.type_list_append md_append (de_ix (L2.hu_of hr) (de_var 9) de_int) (da_cons de_int da_nil)))
      (dss_one (ds_ret (de_call (W := W) rfl F__law_like hr (C.glo 39 rfl) (C.keep 40 rfl) rfl (da_cons (de_meth0 (c := 0) (W := W) rfl (C.cls 28 rfl) (C.meth 53 rfl) (nofmK K "can" (by decide +kernel)) F_Board_can hr (de_var 5)) (da_cons (de_var 3) da_nil))))))))))))
abbrev s__law_turned : Stmt := (top 34)
abbrev N__law_turned : List Str := ["well", "games", "game", "way", "can", "told", "board", "net", "bags", "deeds", "deed"]
theorem sc__law_turned : FnScope N__law_turned ["well", "games", "game", "way"] (defScope s__law_turned) := ⟨rfl, rfl, rfl, by decide +kernel, rfl, by decide +kernel, by decide +kernel⟩
def t__law_turned_r0  (W : DXW) : DTS := (dRet (dOp (dIsN false) (dVar 5) (dC .non)))
def t__law_turned  (W : DXW) : DTS := (dSeq2 (dAsg (.tp [(.nm 6), (.nm 7), (.nm 8), (.nm 9)]) (dVar 2))
  (dSeq2 (dSetF 4 (dLc (dRng1 (dCB dLen (dCons (dOp dIx (dVar 7) (dC (.int 1))) dNil))) (.nm 10) (dBl (dOp dGt (dOp dIx (dOp dIx (dVar 8) (dUn dNeg (dC (.int 1)))) (dOp dIx (dOp dIx (dOp dIx (dVar 7) (dC (.int 1))) (dVar 10)) (dC (.int 0)))) (dC (.int 0)))) (dVar 10) [10]))
  (dSeq2 (dSet 5 (dC .non))
  (dSeq2 (dIfS (dAnd (dBl (dOp dLt (dVar 3) (dC (.int 5)))) (dAnd (dCmpFT true (dVar 4) (dLst dNil)) (dBl (dOp dLt (dCB dLen (dCons (dVar 9) dNil)) (dC (.int 60)))))) (dSeq2 (dSet 10 (dOp dIx (dVar 4) (dCall 2 S__law_draw W (dCons (dVar 0) (dCons (dCB dLen (dCons (dVar 4) dNil)) dNil)))))
  (dSeq2 (dSet 5 (dIf (dBl (dOp dLt (dVar 3) (dC (.int 3)))) (dMeth 0 2 S_Board_do W (dVar 6) (dCons (dVar 10) dNil)) (dMethK 0 2 @g_Board_do_deed 1 S_Board_do W (dVar 6) (dCons (dVar 10) dNil))))
  (dSeq2 (dDrop (dBM "list" mAppend (dVar 8) (dCons (dCall 3 S__law_behind W (dCons (dVar 7) (dCons (dOp dIx (dVar 8) (dUn dNeg (dC (.int 1)))) (dCons (dVar 10) dNil)))) dNil)))
  (dDrop (dBM "list" mAppend (dVar 9) (dCons (dVar 10) dNil)))))) (dIfS (dAnd (dBl (dOp dLt (dVar 3) (dC (.int 8)))) (dCmpFT true (dVar 9) (dLst dNil))) (dSeq2 (dSet 5 (dMeth 0 1 S_Board_undo W (dVar 6) dNil))
  (dSeq2 (dDrop (dBM0 "list" mPop (dVar 8)))
  (dDrop (dBM0 "list" mPop (dVar 9))))) (dIfS (dBl (dOp dLt (dCB dLen (dCons (dVar 1) dNil)) (dC (.int 6)))) (dDrop (dBM "list" mAppend (dVar 1) (dCons (dNew (dLst (dCons (dMeth 0 1 S_Board_twin W (dVar 6) dNil) (dCons (dVar 7) (dCons (dNew (dListOf (dVar 8))) (dCons (dNew (dListOf (dVar 9))) dNil)))))) dNil))) dNext)))
  (t__law_turned_r0 W)))))
theorem w__law_turned {P : Program} {w : World} {K : PySem.W.Frag} {mg : Str → Option Value} {base : Heap} (C : KCtx K mg base)  (F__law_draw : GFn P w K mg base (cfg K) (He.ga K "_law_draw") 1 2 S__law_draw) (F_Board_do : GFn P w K mg base (cfg K) (He.ma K (He.ga K "Board") "do") 4 2 S_Board_do) (F__law_behind : GFn P w K mg base (cfg K) (He.ga K "_law_behind") 2 3 S__law_behind) (F_Board_undo : GFn P w K mg base (cfg K) (He.ma K (He.ga K "Board") "undo") 1 1 S_Board_undo) (F_Board_twin : GFn P w K mg base (cfg K) (He.ma K (He.ga K "Board") "twin") 11 1 S_Board_twin) (F_Board_do_deed : GFnK P w K mg base (cfg K) (He.ma K (He.ga K "Board") "do") 4 2 S_Board_do 1 ["deed"] @g_Board_do_deed) : Walk P w K mg base (cfg K) rfl N__law_turned "_law_turned" (defScope s__law_turned) (He.ga K "_law_turned") (.ref (codeA K (He.ga K "_law_turned"))) 11 (defBody s__law_turned) (t__law_turned) := fun A outer s H E μ W tk hr =>
    (dss_cons (ds_asg (de_var 2) (dtg_tup rfl (dtgs_cons (dtg_name 6 sc__law_turned.nd) (dtgs_cons (dtg_name 7 sc__law_turned.nd) (dtgs_cons (dtg_name 8 sc__law_turned.nd) (dtgs_cons (dtg_name 9 sc__law_turned.nd) dtgs_nil))))))
      (dss_cons (ds_setLc 4 (own := [("deed", 10)]) rfl sc__law_turned.nd (dpi_range1 rfl (C.free 10 rfl) (de_callB cd_len rfl (C.free 6 rfl) bt_len (da_cons (de_ix (L2.hu_of hr) (de_var 7) de_int) da_nil))) (blkOk_by (N := N__law_turned) (sc := (defScope s__law_turned)) (by decide +kernel)) (by decide) (fun _ _ _ _ _ => (dtg_name 10 sc__law_turned.nd)) (fun _ _ _ _ _ => (dts_one (dt_cmp dop_gt (de_ix (L2.hu_of hr) (de_ix (L2.hu_of hr) (de_var 8) (de_un dun_neg de_int)) (de_ix (L2.hu_of hr) (de_ix (L2.hu_of hr) (de_ix (L2.hu_of hr) (de_var 7) de_int) (de_var 10)) de_int)) de_int (L2.nomark _)))) (fun _ _ _ _ _ => (de_var 10)))
      (dss_cons (ds_set 5 sc__law_turned.nd de_non)
      (dss_cons (ds_if (DW.t (dw_and (dt_cmp dop_lt (de_var 3) de_int (L2.nomark _)) (dw_and (dt_neF hr.units (de_var 4) (df_lst da_nil)) (dw_and1 (dt_cmp dop_lt (de_callB cd_len rfl (C.free 6 rfl) bt_len (da_cons (de_var 9) da_nil)) de_int (L2.nomark _)))))) (dss_cons (ds_set 10 sc__law_turned.nd (de_ix (L2.hu_of hr) (de_var 4) (de_call (W := W) rfl F__law_draw hr (C.glo 43 rfl) (C.keep 44 rfl) rfl (da_cons (de_var 0) (da_cons (de_callB cd_len rfl (C.free 6 rfl) bt_len (da_cons (de_var 4) da_nil)) da_nil)))))
      (dss_cons (ds_set 5 sc__law_turned.nd (de_ifExp (dt_cmp dop_lt (de_var 3) de_int (L2.nomark _)) (de_meth (c := 0) (W := W) rfl (C.cls 28 rfl) (C.meth 36 rfl) (nofmK K "do" (by decide +kernel)) F_Board_do hr (de_var 6) (da_cons (de_var 10) da_nil)) (de_methK (c := 0) (W := W) (ks := ["deed"]) (g := @g_Board_do_deed) rfl (C.cls 28 rfl) (C.meth 36 rfl) (nofmK K "do" (by decide +kernel)) F_Board_do_deed hr (de_var 6) (dk_cons (de_var 10) dk_nil))))
      (dss_cons (ds_expr (de_bm PySem.F.plainAttrs_list PySem.F.slot_list_append PySem.F.type_list_append md_append (de_var 8) (da_cons (de_call (W := W) rfl F__law_behind hr (C.glo 55 rfl) (C.keep 56 rfl) rfl (da_cons (de_var 7) (da_cons (de_ix (L2.hu_of hr) (de_var 8) (de_un dun_neg de_int)) (da_cons (de_var 10) da_nil)))) da_nil)))
      (dss_one (ds_expr (de_bm PySem.F.plainAttrs_list PySem.F.slot_list_append PySem.F.type_list_append md_append (de_var 9) (da_cons (de_var 10) da_nil))))))) (dss_one (ds_if (DW.t (dw_and (dt_cmp dop_lt (de_var 3) de_int (L2.nomark _)) (dw_and1 (dt_neF hr.units (de_var 9) (df_lst da_nil))))) (dss_cons (ds_set 5 sc__law_turned.nd (de_meth0 (c := 0) (W := W) rfl (C.cls 28 rfl) (C.meth 57 rfl) (nofmK K "undo" (by decide +kernel)) F_Board_undo hr (de_var 6)))
      (dss_cons (ds_expr (de_bm0 PySem.F.plainAttrs_list PySem.F.slot_list_pop PySem.F.type_list_pop md_pop (de_var 8)))
      (dss_one (ds_expr (de_bm0 PySem.F.plainAttrs_list PySem.F.slot_list_pop PySem.F.type_list_pop md_pop (de_var 9)))))) (dss_one (ds_if (dt_cmp dop_lt (de_callB cd_len rfl (C.free 6 rfl) bt_len (da_cons (de_var 1) da_nil)) de_int (L2.nomark _)) (dss_one (ds_expr (de_bm PySem.F.plainAttrs_list PySem.F.slot_list_append PySem.F.type_list_append md_append (de_var 1) (da_cons (de_new (df_lst (da_cons (de_meth0 (c := 0) (W := W) rfl (C.cls 28 rfl) (C.meth 58 rfl) (nofmK K "twin" (by decide +kernel)) F_Board_twin hr (de_var 6)) (da_cons (de_var 7) (da_cons (de_new (df_list rfl (C.free 41 rfl) bt_list (de_var 8))) (da_cons (de_new (df_list rfl (C.free 41 rfl) bt_list (de_var 9))) da_nil)))))) da_nil)))) dss_nil)))))
      (dss_one (ds_ret (de_cmp dop_is (de_var 5) de_non (L2.nomark _))))))))
abbrev s_law : Stmt := (top 35)
abbrev N_law : List Str := ["script", "well", "kept", "games", "turn", "long", "copy", "net", "bag", "other", "start", "game", "mill", "many", "can", "deed"]
theorem sc_law : FnScope N_law ["script"] (defScope s_law) := ⟨rfl, rfl, rfl, by decide +kernel, rfl, by decide +kernel, by decide +kernel⟩
def t_law_r0  (W : DXW) : DTS := (dRet (dAndV (dCall 2 S__law_shows W (dCons (dVar 6) (dCons (dC (.int 1)) dNil))) (dCall 2 S__law_shows W (dCons (dVar 5) (dCons (dC (.int 2)) dNil)))))
def t_law_b1  (W : DXW) : DTS := (dSeq2 (dDrop (dMeth 0 1 S_Board_undo W (dOp dIx (dVar 6) (dC (.int 0))) dNil))
  (dSeq2 (dDrop (dBM0 "list" mPop (dOp dIx (dVar 6) (dC (.int 2)))))
  (dSeq2 (dDrop (dBM0 "list" mPop (dOp dIx (dVar 6) (dC (.int 3)))))
  (dIfS (dAnd (dBl (dOp dEq (dOp dMod (dCB dIntC (dCons (dVar 4) dNil)) (dC (.int 16))) (dC (.int 0)))) (dNot (dTest (dCall 2 S__law_shows W (dCons (dVar 6) (dCons (dC (.int 0)) dNil)))))) (dRet (dC (.bl false))) dNext))))
def t_law_r2  (W : DXW) : DTS := (dSeq2 (dFor (dRng1 (dVar 13)) (.nm 4) (t_law_b1 W))
  (t_law_r0 W))
def t_law_r3  (W : DXW) : DTS := (dSeq2 (dSet 6 (dNew (dLst (dCons (dMeth 0 1 S_Board_twin W (dOp dIx (dVar 5) (dC (.int 0))) dNil) (dCons (dVar 12) (dCons (dNew (dListOf (dOp dIx (dVar 5) (dC (.int 2))))) (dCons (dNew (dListOf (dOp dIx (dVar 5) (dC (.int 3))))) dNil)))))))
  (dSeq2 (dIfS (dNot (dTest (dCall 2 S__law_shows W (dCons (dVar 5) (dCons (dC (.int 0)) dNil))))) (dRet (dC (.bl false))) dNext)
  (t_law_r2 W)))
def t_law_b4  (W : DXW) : DTS := (dSeq2 (dSetF 14 (dLc (dRng1 (dC (.int 3))) (.nm 15) (dBl (dOp dGt (dOp dIx (dOp dIx (dOp dIx (dVar 5) (dC (.int 2))) (dUn dNeg (dC (.int 1)))) (dOp dIx (dOp dIx (dOp dIx (dVar 12) (dC (.int 1))) (dVar 15)) (dC (.int 0)))) (dC (.int 0)))) (dVar 15) [15]))
  (dSeq2 (dSet 15 (dOp dIx (dVar 14) (dCall 2 S__law_draw W (dCons (dVar 1) (dCons (dCB dLen (dCons (dVar 14) dNil)) dNil)))))
  (dSeq2 (dDrop (dMeth 0 2 S_Board_do W (dOp dIx (dVar 5) (dC (.int 0))) (dCons (dVar 15) dNil)))
  (dSeq2 (dDrop (dBM "list" mAppend (dOp dIx (dVar 5) (dC (.int 2))) (dCons (dCall 3 S__law_behind W (dCons (dVar 12) (dCons (dOp dIx (dOp dIx (dVar 5) (dC (.int 2))) (dUn dNeg (dC (.int 1)))) (dCons (dVar 15) dNil)))) dNil)))
  (dDrop (dBM "list" mAppend (dOp dIx (dVar 5) (dC (.int 3))) (dCons (dVar 15) dNil)))))))
def t_law_r5  (W : DXW) : DTS := (dSeq2 (dAsg (.tp [(.nm 12), (.nm 13)]) (dTup (dCons (dTup (dCons (dC (.int 2)) (dCons (dTup (dCons (dTup (dCons (dC (.int 0)) (dCons (dTup (dCons (dC (.int 0)) (dCons (dC (.int 2)) dNil))) dNil))) (dCons (dTup (dCons (dC (.int 0)) (dCons (dTup (dCons (dC (.int 1)) (dCons (dC (.int 1)) dNil))) dNil))) (dCons (dTup (dCons (dC (.int 1)) (dCons (dTup (dCons (dC (.int 1)) (dCons (dC (.int 0)) dNil))) dNil))) dNil)))) dNil))) (dCons (dOp dAdd (dC (.int 100)) (dCall 2 S__law_draw W (dCons (dVar 1) (dCons (dC (.int 300)) dNil)))) dNil))))
  (dSeq2 (dSet 5 (dCall 2 S__law_begun W (dCons (dVar 12) (dCons (dTup (dCons (dC (.int 1)) (dCons (dC (.int 1)) dNil))) dNil))))
  (dSeq2 (dFor (dRng1 (dVar 13)) (.nm 4) (t_law_b4 W))
  (t_law_r3 W))))
def t_law_r6  (W : DXW) : DTS := (dSeq2 (dIfS (dOr (dNot (dTest (dCB dAllF (dLc (dSeq (dVar 3)) (.nm 11) dYes (dCall 2 S__law_shows noW (dCons (dVar 11) (dCons (dC (.int 0)) dNil))) [11])))) (dBl (dOp dNe (dRepr (dLst (dCons (dVar 7) (dCons (dVar 8) (dCons (dVar 9) (dCons (dVar 10) dNil)))))) (dVar 2)))) (dRet (dC (.bl false))) dNext)
  (t_law_r5 W))
def t_law_r7  (W : DXW) : DTS := (dIfS (dNot (dTest (dCall 2 S__law_shows W (dCons (dOp dIx (dVar 3) (dCall 2 S__law_draw W (dCons (dVar 1) (dCons (dCB dLen (dCons (dVar 3) dNil)) dNil)))) (dCons (dCall 2 S__law_draw W (dCons (dVar 1) (dCons (dC (.int 3)) dNil))) dNil))))) (dRet (dC (.bl false))) dNext)
def t_law_b8  (W : DXW) : DTS := (dSeq2 (dSet 11 (dOp dIx (dVar 3) (dCall 2 S__law_draw W (dCons (dVar 1) (dCons (dCB dLen (dCons (dVar 3) dNil)) dNil)))))
  (dSeq2 (dIfS (dOr (dNot (dTest (dCall 4 S__law_turned W (dCons (dVar 1) (dCons (dVar 3) (dCons (dVar 11) (dCons (dCall 2 S__law_draw W (dCons (dVar 1) (dCons (dC (.int 9)) dNil))) dNil))))))) (dNot (dTest (dCall 2 S__law_shows W (dCons (dVar 11) (dCons (dCall 2 S__law_draw W (dCons (dVar 1) (dCons (dC (.int 3)) dNil))) dNil)))))) (dRet (dC (.bl false))) dNext)
  (t_law_r7 W)))
def t_law  (W : DXW) : DTS := (dSeq2 (dSet 1 (dCall 1 S__law_well W (dCons (dVar 0) dNil)))
  (dSeq2 (dAsg (.tp [(.nm 7), (.nm 8)]) (dCall 2 S__law_net W (dCons (dVar 1) (dCons (dC (.int 3)) dNil))))
  (dSeq2 (dAsg (.tp [(.nm 9), (.nm 10)]) (dCall 2 S__law_net W (dCons (dVar 1) (dCons (dC (.int 3)) dNil))))
  (dSeq2 (dSet 2 (dRepr (dLst (dCons (dVar 7) (dCons (dVar 8) (dCons (dVar 9) (dCons (dVar 10) dNil)))))))
  (dSeq2 (dSet 3 (dNew (dLst (dCons (dCall 2 S__law_begun W (dCons (dVar 7) (dCons (dVar 8) dNil))) (dCons (dNew (dLst (dCons (dMakeK 0 3 @g_Board___init___bag_net 2 S_Board___init__ W (dCons (dVar 10) (dCons (dVar 9) dNil))) (dCons (dVar 9) (dCons (dNew (dLst (dCons (dVar 10) dNil))) (dCons (dNew (dLst dNil)) dNil)))))) dNil)))))
  (dSeq2 (dFor (dRng1 (dC (.int 60))) (.nm 4) (t_law_b8 W))
  (t_law_r6 W)))))))
theorem w_law {P : Program} {w : World} {K : PySem.W.Frag} {mg : Str → Option Value} {base : Heap} (C : KCtx K mg base)  (F__law_shows : GFn P w K mg base (cfg K) (He.ga K "_law_shows") 4 2 S__law_shows) (F_Board_undo : GFn P w K mg base (cfg K) (He.ma K (He.ga K "Board") "undo") 1 1 S_Board_undo) (F_Board_twin : GFn P w K mg base (cfg K) (He.ma K (He.ga K "Board") "twin") 11 1 S_Board_twin) (F__law_draw : GFn P w K mg base (cfg K) (He.ga K "_law_draw") 1 2 S__law_draw) (F_Board_do : GFn P w K mg base (cfg K) (He.ma K (He.ga K "Board") "do") 4 2 S_Board_do) (F__law_behind : GFn P w K mg base (cfg K) (He.ga K "_law_behind") 2 3 S__law_behind) (F__law_begun : GFn P w K mg base (cfg K) (He.ga K "_law_begun") 11 2 S__law_begun) (F__law_turned : GFn P w K mg base (cfg K) (He.ga K "_law_turned") 12 4 S__law_turned) (F__law_net : GFn P w K mg base (cfg K) (He.ga K "_law_net") 3 2 S__law_net) (F__law_well : GFn P w K mg base (cfg K) (He.ga K "_law_well") 1 1 S__law_well) (F_Board___init___bag_net : GFnK P w K mg base (cfg K) (He.ma K (He.ga K "Board") "__init__") 9 3 S_Board___init__ 1 ["bag", "net"] @g_Board___init___bag_net) : ∀ (A : Around) (outer : List Env) (s : Shared) (H : Hp) (E : XK) (μ : Mu) (W : DXW) (tk : Takes (dcx P w K mg base N_law "law" (defScope s_law) (He.ga K "law") (.ref (codeA K (He.ga K "law"))) A outer s H E) (wxOf P w (cfg K) μ H W)), A.guards = some [] → Room 12 (A.deeper (envOfC "law" (defScope s_law) s.heap.objs.size (He.ga K "law") (.ref (codeA K (He.ga K "law"))))) →
    DSs ⟨dcx P w K mg base N_law "law" (defScope s_law) (He.ga K "law") (.ref (codeA K (He.ga K "law"))) A outer s H E, cfg K, μ, H, W, rfl, tk⟩ (defBody s_law) ((t_law) W) := fun A outer s H E μ W tk hgd hr =>
    (dss_cons (ds_set 1 sc_law.nd (de_call (W := W) rfl F__law_well hr (C.glo 68 rfl) (C.keep 69 rfl) rfl (da_cons (de_var 0) da_nil)))
      (dss_cons (ds_asg (de_call (W := W) rfl F__law_net hr (C.glo 66 rfl) (C.keep 67 rfl) rfl (da_cons (de_var 1) (da_cons de_int da_nil))) (dtg_tup rfl (dtgs_cons (dtg_name 7 sc_law.nd) (dtgs_cons (dtg_name 8 sc_law.nd) dtgs_nil))))
      (dss_cons (ds_asg (de_call (W := W) rfl F__law_net hr (C.glo 66 rfl) (C.keep 67 rfl) rfl (da_cons (de_var 1) (da_cons de_int da_nil))) (dtg_tup rfl (dtgs_cons (dtg_name 9 sc_law.nd) (dtgs_cons (dtg_name 10 sc_law.nd) dtgs_nil))))
      (dss_cons (ds_set 2 sc_law.nd (de_repr rfl rfl (C.free 63 rfl) hgd hr.units (df_lst (da_cons (de_var 7) (da_cons (de_var 8) (da_cons (de_var 9) (da_cons (de_var 10) da_nil)))))))
      (dss_cons (ds_set 3 sc_law.nd (de_new (df_lst (da_cons (de_call (W := W) rfl F__law_begun hr (C.glo 61 rfl) (C.keep 62 rfl) rfl (da_cons (de_var 7) (da_cons (de_var 8) da_nil))) (da_cons (de_new (df_lst (da_cons (de_makeK (c := 0) (W := W) (ks := ["bag", "net"]) (g := @g_Board___init___bag_net) rfl (fun _ _ => ⟨_, rfl⟩) (fun _ _ => ⟨_, rfl⟩) (C.mkr 37 rfl) F_Board___init___bag_net hr (C.glo 38 rfl) rfl (dk_cons (de_var 10) (dk_cons (de_var 9) dk_nil))) (da_cons (de_var 9) (da_cons (de_new (df_lst (da_cons (de_var 10) da_nil))) (da_cons (de_new (df_lst da_nil)) da_nil)))))) da_nil)))))
      (dss_cons (ds_for (passes_of rfl) rfl (dpi_range1 rfl (C.free 10 rfl) de_int) (dtg_name 4 sc_law.nd) (dss_cons (ds_set 11 sc_law.nd (de_ix (L2.hu_of hr) (de_var 3) (de_call (W := W) rfl F__law_draw hr (C.glo 43 rfl) (C.keep 44 rfl) rfl (da_cons (de_var 1) (da_cons (de_callB cd_len rfl (C.free 6 rfl) bt_len (da_cons (de_var 3) da_nil)) da_nil)))))
      (dss_cons (ds_if (DW.t (dw_or (dt_not (dt_val (de_call (W := W) rfl F__law_turned hr (C.glo 64 rfl) (C.keep 65 rfl) rfl (da_cons (de_var 1) (da_cons (de_var 3) (da_cons (de_var 11) (da_cons (de_call (W := W) rfl F__law_draw hr (C.glo 43 rfl) (C.keep 44 rfl) rfl (da_cons (de_var 1) (da_cons de_int da_nil))) da_nil))))))) (dw_or1 (dt_not (dt_val (de_call (W := W) rfl F__law_shows hr (C.glo 59 rfl) (C.keep 60 rfl) rfl (da_cons (de_var 11) (da_cons (de_call (W := W) rfl F__law_draw hr (C.glo 43 rfl) (C.keep 44 rfl) rfl (da_cons (de_var 1) (da_cons de_int da_nil))) da_nil)))))))) (dss_one (ds_ret de_bl)) dss_nil)
      (dss_one (ds_if (dt_not (dt_val (de_call (W := W) rfl F__law_shows hr (C.glo 59 rfl) (C.keep 60 rfl) rfl (da_cons (de_ix (L2.hu_of hr) (de_var 3) (de_call (W := W) rfl F__law_draw hr (C.glo 43 rfl) (C.keep 44 rfl) rfl (da_cons (de_var 1) (da_cons (de_callB cd_len rfl (C.free 6 rfl) bt_len (da_cons (de_var 3) da_nil)) da_nil)))) (da_cons (de_call (W := W) rfl F__law_draw hr (C.glo 43 rfl) (C.keep 44 rfl) rfl (da_cons (de_var 1) (da_cons de_int da_nil))) da_nil))))) (dss_one (ds_ret de_bl)) dss_nil)))))
      (dss_cons (ds_if (DW.t (dw_or (dt_not (dt_val (de_callBF (fd_all rfl) rfl (C.free 7 rfl) bt_all (df_lc (own := [("game", 11)]) rfl sc_law.nd (dpi_list (de_var 3)) (blkOk_by (N := N_law) (sc := (defScope s_law)) (by decide +kernel)) (by decide) (fun _ _ _ _ _ => (dtg_name 11 sc_law.nd)) (fun _ _ _ _ _ => dts_nil) (fun _ _ _ _ _ => (de_call (W := noW) rfl F__law_shows hr (C.glo 59 rfl) (C.keep 60 rfl) rfl (da_cons (de_var 11) (da_cons de_int da_nil)))))))) (dw_or1 (dt_cmp (dop_ne hr.units) (de_repr rfl rfl (C.free 63 rfl) hgd hr.units (df_lst (da_cons (de_var 7) (da_cons (de_var 8) (da_cons (de_var 9) (da_cons (de_var 10) da_nil)))))) (de_var 2) (L2.nomark _))))) (dss_one (ds_ret de_bl)) dss_nil)
      (dss_cons (ds_asg (de_tup (da_cons (de_tup (da_cons de_int (da_cons (de_tup (da_cons (de_tup (da_cons de_int (da_cons (de_tup (da_cons de_int (da_cons de_int da_nil))) da_nil))) (da_cons (de_tup (da_cons de_int (da_cons (de_tup (da_cons de_int (da_cons de_int da_nil))) da_nil))) (da_cons (de_tup (da_cons de_int (da_cons (de_tup (da_cons de_int (da_cons de_int da_nil))) da_nil))) da_nil)))) da_nil))) (da_cons (de_op dop_add de_int (de_call (W := W) rfl F__law_draw hr (C.glo 43 rfl) (C.keep 44 rfl) rfl (da_cons (de_var 1) (da_cons de_int da_nil)))) da_nil))) (dtg_tup rfl (dtgs_cons (dtg_name 12 sc_law.nd) (dtgs_cons (dtg_name 13 sc_law.nd) dtgs_nil))))
      (dss_cons (ds_set 5 sc_law.nd (de_call (W := W) rfl F__law_begun hr (C.glo 61 rfl) (C.keep 62 rfl) rfl (da_cons (de_var 12) (da_cons (de_tup (da_cons de_int (da_cons de_int da_nil))) da_nil))))
      (dss_cons (ds_for (passes_of rfl) rfl (dpi_range1 rfl (C.free 10 rfl) (de_var 13)) (dtg_name 4 sc_law.nd) (dss_cons (ds_setLc 14 (own := [("deed", 15)]) rfl sc_law.nd (dpi_range1 rfl (C.free 10 rfl) de_int) (blkOk_by (N := N_law) (sc := (defScope s_law)) (by decide +kernel)) (by decide) (fun _ _ _ _ _ => (dtg_name 15 sc_law.nd)) (fun _ _ _ _ _ => (dts_one (dt_cmp dop_gt (de_ix (L2.hu_of hr) (de_ix (L2.hu_of hr) (de_ix (L2.hu_of hr) (de_var 5) de_int) (de_un dun_neg de_int)) (de_ix (L2.hu_of hr) (de_ix (L2.hu_of hr) (de_ix (L2.hu_of hr) (de_var 12) de_int) (de_var 15)) de_int)) de_int (L2.nomark _)))) (fun _ _ _ _ _ => (de_var 15)))
      (dss_cons (ds_set 15 sc_law.nd (de_ix (L2.hu_of hr) (de_var 14) (de_call (W := W) rfl F__law_draw hr (C.glo 43 rfl) (C.keep 44 rfl) rfl (da_cons (de_var 1) (da_cons (de_callB cd_len rfl (C.free 6 rfl) bt_len (da_cons (de_var 14) da_nil)) da_nil)))))
      (dss_cons (ds_expr (de_meth (c := 0) (W := W) rfl (C.cls 28 rfl) (C.meth 36 rfl) (nofmK K "do" (by decide +kernel)) F_Board_do hr (de_ix (L2.hu_of hr) (de_var 5) de_int) (da_cons (de_var 15) da_nil)))
      (dss_cons (ds_expr (de_bm PySem.F.plainAttrs_list PySem.F.slot_list_append PySem.F.type_list_append md_append (de_ix (L2.hu_of hr) (de_var 5) de_int) (da_cons (de_call (W := W) rfl F__law_behind hr (C.glo 55 rfl) (C.keep 56 rfl) rfl (da_cons (de_var 12) (da_cons (de_ix (L2.hu_of hr) (de_ix (L2.hu_of hr) (de_var 5) de_int) (de_un dun_neg de_int)) (da_cons (de_var 15) da_nil)))) da_nil)))
      (dss_one (ds_expr (de_bm PySem.F.plainAttrs_list PySem.F.slot_list_append PySem.F.type_list_append md_append (de_ix (L2.hu_of hr) (de_var 5) de_int) (da_cons (de_var 15) da_nil)))))))))
      (dss_cons (ds_set 6 sc_law.nd (de_new (df_lst (da_cons (de_meth0 (c := 0) (W := W) rfl (C.cls 28 rfl) (C.meth 58 rfl) (nofmK K "twin" (by decide +kernel)) F_Board_twin hr (de_ix (L2.hu_of hr) (de_var 5) de_int)) (da_cons (de_var 12) (da_cons (de_new (df_list rfl (C.free 41 rfl) bt_list (de_ix (L2.hu_of hr) (de_var 5) de_int))) (da_cons (de_new (df_list rfl (C.free 41 rfl) bt_list (de_ix (L2.hu_of hr) (de_var 5) de_int))) da_nil)))))))
      (dss_cons (ds_if (dt_not (dt_val (de_call (W := W) rfl F__law_shows hr (C.glo 59 rfl) (C.keep 60 rfl) rfl (da_cons (de_var 5) (da_cons de_int da_nil))))) (dss_one (ds_ret de_bl)) dss_nil)
      (dss_cons (ds_for (passes_of rfl) rfl (dpi_range1 rfl (C.free 10 rfl) (de_var 13)) (dtg_name 4 sc_law.nd) (dss_cons (ds_expr (de_meth0 (c := 0) (W := W) rfl (C.cls 28 rfl) (C.meth 57 rfl) (nofmK K "undo" (by decide +kernel)) F_Board_undo hr (de_ix (L2.hu_of hr) (de_var 6) de_int)))
      (dss_cons (ds_expr (de_bm0 PySem.F.plainAttrs_list PySem.F.slot_list_pop PySem.F.type_list_pop md_pop (de_ix (L2.hu_of hr) (de_var 6) de_int)))
      (dss_cons (ds_expr (de_bm0 PySem.F.plainAttrs_list PySem.F.slot_list_pop PySem.F.type_list_pop md_pop (de_ix (L2.hu_of hr) (de_var 6) de_int)))
      (dss_one (ds_if (DW.t (dw_and (dt_cmp (dop_eq hr.units) (de_op dop_mod (de_callTy cd_int rfl (C.free 1 rfl) bt_int (da_cons (de_var 4) da_nil)) de_int) de_int (L2.nomark _)) (dw_and1 (dt_not (dt_val (de_call (W := W) rfl F__law_shows hr (C.glo 59 rfl) (C.keep 60 rfl) rfl (da_cons (de_var 6) (da_cons de_int da_nil)))))))) (dss_one (ds_ret de_bl)) dss_nil))))))
      (dss_one (ds_ret (de_and (de_call (W := W) rfl F__law_shows hr (C.glo 59 rfl) (C.keep 60 rfl) rfl (da_cons (de_var 6) (da_cons de_int da_nil))) (de_one (de_call (W := W) rfl F__law_shows hr (C.glo 59 rfl) (C.keep 60 rfl) rfl (da_cons (de_var 5) (da_cons de_int da_nil))))))))))))))))))))
end K57

namespace K57
open PySem PySem.Spec
open PyProof.Rows L2
open DL
abbrev Pok (N : List Str) (n : Nat) (S : DSp) (T : DXW → DTS) : Prop := ∀ as H Q W, as.length = n → S as H Q W → T W { nx := fun _ H' => Q .non H', rt := Q } (startD N as) H
theorem subT_tt : subT "tuple" "tuple" = true := by decide +kernel
theorem subT_ii : subT "int" "int" = true := by decide +kernel
theorem subT_ib : subT "int" "bool" = false := by decide +kernel
theorem subT_is : subT "int" "str" = false := by decide +kernel
theorem subT_il : subT "int" "list" = false := by decide +kernel
theorem subT_it : subT "int" "tuple" = false := by decide +kernel
theorem subT_ll : subT "list" "list" = true := by decide +kernel
theorem subT_lt : subT "list" "tuple" = false := by decide +kernel
theorem subT_tl : subT "tuple" "list" = false := by decide +kernel
theorem atI_nat {α : Type} {xs : List α} {i : Nat} (h : i < xs.length) : L2.atI xs (i : Int) = some xs[i] := by
  unfold L2.atI L2.ixN
  rw [if_pos (by omega), if_pos (by omega)]
  simp
theorem atI_nat' {α : Type} {xs : List α} {i : Nat} {x : α} (h : xs[i]? = some x) : L2.atI xs (i : Int) = some x := by
  obtain ⟨h1, h2⟩ := List.getElem?_eq_some_iff.mp h
  rw [atI_nat h1, h2]
theorem atI_last {α : Type} {xs : List α} {x : α} : L2.atI (xs ++ [x]) (-1) = some x := by
  have e : ((-1 : Int) + ((xs ++ [x]).length : Int)).toNat = xs.length := by rw [List.length_append, List.length_singleton]; omega
  unfold L2.atI L2.ixN
  rw [if_neg (by omega), if_pos (by rw [List.length_append, List.length_singleton]; omega), e]
  simp
theorem atI_two {α : Type} {x y : α} : L2.atI [x, y] 0 = some x ∧ L2.atI [x, y] 1 = some y := ⟨by simp [L2.atI, L2.ixN], by simp [L2.atI, L2.ixN]⟩
theorem gen_all {wi : DTI} {t : Tgt} {te : DTE} {vs : List Nat} {σ : DSt} {H : DH} {Q : DVK} {xs : List D} (p : Nat → Bool) (hw : ∀ R : DIter → DH → Prop, R (.st xs) H → wi σ H R)
    (hs : ∀ (i : Nat) (x : D), xs[i]? = some x → ∃ σ2, bindT t x H (wipeD σ vs) = some σ2 ∧ ∀ R : DVK, R (.bl (p i)) H → te σ2 H R) (q : Q (.bl ((List.range xs.length).all p)) H) : dGen false wi t dYes te vs σ H Q :=
  hw _ (dGen_all (n := xs.length) p rfl rfl (fun i x e _ => hs i x e) q)
theorem lc_map {wi : DTI} {t : Tgt} {te : DTE} {vs : List Nat} {σ : DSt} {H : DH} {Q : List D → DH → Prop} {xs : List D} (f : Nat → D) (hw : ∀ R : DIter → DH → Prop, R (.st xs) H → wi σ H R) (hz : xs.length ≤ 1000000)
    (hs : ∀ (i : Nat) (x : D), xs[i]? = some x → ∃ σ2, bindT t x H (wipeD σ vs) = some σ2 ∧ ∀ R : DVK, R (f i) H → te σ2 H R) (q : Q ((List.range xs.length).map f) H) : dLc wi t dYes te vs σ H Q :=
  hw _ (dLc_map (n := xs.length) f rfl rfl (Nat.le_trans hz (by decide)) (fun i x e => let ⟨σ2, h1, _⟩ := hs i x e; ⟨σ2, h1, fun R r => r⟩) (fun i x σ2 e h => by
    obtain ⟨σ3, h1, h2⟩ := hs i x e
    rw [h] at h1; cases h1
    exact h2) q)
theorem lc_fil {wi : DTI} {t : Tgt} {tt : DTT} {te : DTE} {vs : List Nat} {σ : DSt} {H : DH} {Q : List D → DH → Prop} {xs : List D} (p : Nat → Bool) (f : Nat → D) (hw : ∀ R : DIter → DH → Prop, R (.st xs) H → wi σ H R) (hz : xs.length ≤ 1000000)
    (hs : ∀ (i : Nat) (x : D), xs[i]? = some x → ∃ σ2, bindT t x H (wipeD σ vs) = some σ2 ∧ (∀ R : Bool → DH → Prop, R (p i) H → tt σ2 H R) ∧ ∀ R : DVK, p i = true → R (f i) H → te σ2 H R) (q : Q (((List.range xs.length).filter p).map f) H) : dLc wi t tt te vs σ H Q :=
  hw _ (dLc_fil (n := xs.length) p f rfl rfl (Nat.le_trans hz (by decide)) hs q)
theorem all_true (n : Nat) : (List.range n).all (fun _ => true) = true := by simp
theorem range_len (lo : Int) (n : Nat) : (rangeD lo n).length = n := by simp [rangeD]
theorem range_at {lo : Int} {n i : Nat} {x : D} (h : (rangeD lo n)[i]? = some x) : i < n ∧ x = .int (lo + (i : Int)) := by
  unfold rangeD at h
  rw [List.getElem?_map] at h
  by_cases hi : i < n
  · rw [List.getElem?_range hi] at h
    exact ⟨hi, (Option.some.inj h).symm⟩
  · rw [List.getElem?_eq_none (by simpa using hi)] at h
    cases h
theorem map_at {α β : Type} {f : α → β} {l : List α} {i : Nat} {x : β} (h : (l.map f)[i]? = some x) : ∃ a, l[i]? = some a ∧ f a = x := by
  rw [List.getElem?_map] at h
  cases e : l[i]? with
  | none => rw [e] at h; cases h
  | some a => rw [e] at h; exact ⟨a, rfl, Option.some.inj h⟩

theorem pures_ints : ∀ l : List Int, pureDs (l.map D.int) = true
  | [] => rfl
  | _ :: r => by simp [pureDs, pureD, pures_ints r]
theorem pure_deed (d : Nat × List Int) : pureD (deedD d) = true := by simp [deedD, bagD, pureD, pureDs, pures_ints]
theorem ints_alike : ∀ l m : List Int, PySem.W.alikeAll (pdvs (l.map D.int)) (pdvs (m.map D.int)) = true
  | [], _ => by simp [pdvs, PySem.W.alikeAll]
  | _ :: _, [] => by simp [pdvs, PySem.W.alikeAll]
  | _ :: r, _ :: t => by simp [pdvs, pdv, PySem.W.alikeAll, PySem.W.alike, ints_alike r t]
theorem deed_alike (d e : Nat × List Int) : PySem.W.alike (pdv (deedD d)) (pdv (deedD e)) = true := by simp [deedD, bagD, pdv, pdvs, PySem.W.alike, PySem.W.alikeAll, ints_alike]
theorem deed_ne (d : Nat × List Int) : pdv (deedD d) ≠ .none := by simp [deedD, pdv]
theorem ints_depth : ∀ l : List Int, PyData.depthAll (pdvs (l.map D.int)) ≤ 1
  | [] => by simp [pdvs, PyData.depthAll]
  | _ :: r => by simp [pdvs, pdv, PyData.depthAll, PyData.depth, ints_depth r]
theorem deed_depth (d : Nat × List Int) : (pdv (deedD d)).depth ≤ 60 := by
  have := ints_depth d.2
  simp [deedD, bagD, pdv, pdvs, PyData.depth, PyData.depthAll]
  omega

theorem p_is_integer : Pok N_is_integer 1 S_is_integer t_is_integer := by
  rintro as H Q W - ⟨i, rfl, q⟩
  simp only [t_is_integer, N_is_integer, dSeq2, dIfS, dRet, dRetN, dVar, dC, dOp, dUn, dCons, dNil, dTup, dAsg, bindT, bindTs, itemsD, dIsi, isD, dAndV, dOrV, dNotV, dAnd, dOr, dNot, dTest, tru, dBl, dCall, dCB, dLen, dChain, dLe, dLt, dGe, dGt, dI2, dI2C, dIx, dNext, dDrop, dSet, dSetF, dSub, dMul, dAdd, dMod, dFdiv, dPow, dNeg, dIf, dIntC, dEqN, dEq, dNe, dIsN, dNew, dLst, dTupF, dLenF, dTupleC, dPar, startD, List.length_cons, List.length_nil, List.map_cons, List.map_nil, List.cons_append, List.nil_append, List.getElem?_cons_zero, List.getElem?_cons_succ, List.set_cons_zero, List.set_cons_succ, List.replicate_succ, List.replicate_zero, Nat.reduceAdd, Nat.reduceSub, true_and, wipeD, subT_tt, subT_ii, subT_ib, subT_ll, subT_lt, subT_il, subT_it, subT_tl, subT_is, if_true, if_false, Bool.false_eq_true, Bool.not_true, Bool.not_false]
  exact q
theorem p_is_between : Pok N_is_between 3 S_is_between t_is_between := by
  rintro as H Q W - ⟨v, lo, hi, rfl, h1, h2, q⟩
  simp only [t_is_between, N_is_between, dSeq2, dIfS, dRet, dRetN, dVar, dC, dOp, dUn, dCons, dNil, dTup, dAsg, bindT, bindTs, itemsD, dIsi, isD, dAndV, dOrV, dNotV, dAnd, dOr, dNot, dTest, tru, dBl, dCall, dCB, dLen, dChain, dLe, dLt, dGe, dGt, dI2, dI2C, dIx, dNext, dDrop, dSet, dSetF, dSub, dMul, dAdd, dMod, dFdiv, dPow, dNeg, dIf, dIntC, dEqN, dEq, dNe, dIsN, dNew, dLst, dTupF, dLenF, dTupleC, dPar, startD, List.length_cons, List.length_nil, List.map_cons, List.map_nil, List.cons_append, List.nil_append, List.getElem?_cons_zero, List.getElem?_cons_succ, List.set_cons_zero, List.set_cons_succ, List.replicate_succ, List.replicate_zero, Nat.reduceAdd, Nat.reduceSub, true_and, wipeD, subT_tt, subT_ii, subT_ib, subT_ll, subT_lt, subT_il, subT_it, subT_tl, subT_is, if_true, if_false, Bool.false_eq_true, Bool.not_true, Bool.not_false]
  refine ⟨v, rfl, ?_⟩
  simp [h1, h2, q]
theorem p_are_integers : Pok N_are_integers 2 S_are_integers t_are_integers := by
  rintro as H Q W - ⟨b, rfl, q⟩
  simp only [t_are_integers, N_are_integers, bagD, List.length_map, dSeq2, dIfS, dRet, dRetN, dVar, dC, dOp, dUn, dCons, dNil, dTup, dAsg, bindT, bindTs, itemsD, dIsi, isD, dAndV, dOrV, dNotV, dAnd, dOr, dNot, dTest, tru, dBl, dCall, dCB, dLen, dChain, dLe, dLt, dGe, dGt, dI2, dI2C, dIx, dNext, dDrop, dSet, dSetF, dSub, dMul, dAdd, dMod, dFdiv, dPow, dNeg, dIf, dIntC, dEqN, dEq, dNe, dIsN, dNew, dLst, dTupF, dLenF, dTupleC, dPar, startD, List.length_cons, List.length_nil, List.map_cons, List.map_nil, List.cons_append, List.nil_append, List.getElem?_cons_zero, List.getElem?_cons_succ, List.set_cons_zero, List.set_cons_succ, List.replicate_succ, List.replicate_zero, Nat.reduceAdd, Nat.reduceSub, true_and, wipeD, subT_tt, subT_ii, subT_ib, subT_ll, subT_lt, subT_il, subT_it, subT_tl, subT_is, if_true, if_false, Bool.false_eq_true, Bool.not_true, Bool.not_false]
  simp only [decide_true, Bool.false_xor, if_true]
  refine gen_all (xs := b.map D.int) (fun _ => true) (fun _ h => h) (fun i x hx => ⟨_, rfl, fun R r => ?_⟩) (by rw [all_true]; exact q)
  obtain ⟨a, _, rfl⟩ := map_at hx
  simp only [dSeq2, dIfS, dRet, dRetN, dVar, dC, dOp, dUn, dCons, dNil, dTup, dAsg, bindT, bindTs, itemsD, dIsi, isD, dAndV, dOrV, dNotV, dAnd, dOr, dNot, dTest, tru, dBl, dCall, dCB, dLen, dChain, dLe, dLt, dGe, dGt, dI2, dI2C, dIx, dNext, dDrop, dSet, dSetF, dSub, dMul, dAdd, dMod, dFdiv, dPow, dNeg, dIf, dIntC, dEqN, dEq, dNe, dIsN, dNew, dLst, dTupF, dLenF, dTupleC, dPar, startD, List.length_cons, List.length_nil, List.map_cons, List.map_nil, List.cons_append, List.nil_append, List.getElem?_cons_zero, List.getElem?_cons_succ, List.set_cons_zero, List.set_cons_succ, List.replicate_succ, List.replicate_zero, Nat.reduceAdd, Nat.reduceSub, true_and, wipeD, subT_tt, subT_ii, subT_ib, subT_ll, subT_lt, subT_il, subT_it, subT_tl, subT_is, if_true, if_false, Bool.false_eq_true, Bool.not_true, Bool.not_false]
  exact ⟨a, rfl, r⟩
theorem p_are_naturals : Pok N_are_naturals 2 S_are_naturals t_are_naturals := by
  rintro as H Q W - ⟨b, rfl, hb, q⟩
  simp only [t_are_naturals, N_are_naturals, dSeq2, dIfS, dRet, dRetN, dVar, dC, dOp, dUn, dCons, dNil, dTup, dAsg, bindT, bindTs, itemsD, dIsi, isD, dAndV, dOrV, dNotV, dAnd, dOr, dNot, dTest, tru, dBl, dCall, dCB, dLen, dChain, dLe, dLt, dGe, dGt, dI2, dI2C, dIx, dNext, dDrop, dSet, dSetF, dSub, dMul, dAdd, dMod, dFdiv, dPow, dNeg, dIf, dIntC, dEqN, dEq, dNe, dIsN, dNew, dLst, dTupF, dLenF, dTupleC, dPar, startD, List.length_cons, List.length_nil, List.map_cons, List.map_nil, List.cons_append, List.nil_append, List.getElem?_cons_zero, List.getElem?_cons_succ, List.set_cons_zero, List.set_cons_succ, List.replicate_succ, List.replicate_zero, Nat.reduceAdd, Nat.reduceSub, true_and, wipeD, subT_tt, subT_ii, subT_ib, subT_ll, subT_lt, subT_il, subT_it, subT_tl, subT_is, if_true, if_false, Bool.false_eq_true, Bool.not_true, Bool.not_false]
  refine ⟨b, rfl, ?_⟩
  simp only [if_true]
  refine gen_all (xs := b.map D.int) (fun _ => true) (fun _ h => h) (fun i x hx => ⟨_, rfl, fun R r => ?_⟩) (by rw [all_true]; exact q)
  obtain ⟨a, ha, rfl⟩ := map_at hx
  simp only [dSeq2, dIfS, dRet, dRetN, dVar, dC, dOp, dUn, dCons, dNil, dTup, dAsg, bindT, bindTs, itemsD, dIsi, isD, dAndV, dOrV, dNotV, dAnd, dOr, dNot, dTest, tru, dBl, dCall, dCB, dLen, dChain, dLe, dLt, dGe, dGt, dI2, dI2C, dIx, dNext, dDrop, dSet, dSetF, dSub, dMul, dAdd, dMod, dFdiv, dPow, dNeg, dIf, dIntC, dEqN, dEq, dNe, dIsN, dNew, dLst, dTupF, dLenF, dTupleC, dPar, startD, List.length_cons, List.length_nil, List.map_cons, List.map_nil, List.cons_append, List.nil_append, List.getElem?_cons_zero, List.getElem?_cons_succ, List.set_cons_zero, List.set_cons_succ, List.replicate_succ, List.replicate_zero, Nat.reduceAdd, Nat.reduceSub, true_and, wipeD, subT_tt, subT_ii, subT_ib, subT_ll, subT_lt, subT_il, subT_it, subT_tl, subT_is, if_true, if_false, Bool.false_eq_true, Bool.not_true, Bool.not_false]
  rw [decide_eq_true (hb a (List.mem_of_getElem? ha))]
  exact r
theorem bag_at {b : List Int} {j : Nat} (h : j < b.length) : L2.atI (b.map D.int) (j : Int) = some (.int (b.getD j 0)) :=
  atI_nat' (by rw [List.getElem?_map, List.getElem?_eq_getElem h]; simp [List.getD, h])
theorem deed_at {n : Net} {i : Nat} {d : Nat × List Int} (e : n.deeds[i]? = some d) : L2.atI (n.deeds.map deedD) (i : Int) = some (deedD d) := atI_nat' (by rw [List.getElem?_map, e]; rfl)
theorem net_at {n : Net} {i : Nat} (h : i < n.deeds.length) : ∃ d, n.deeds[i]? = some d := ⟨_, List.getElem?_eq_getElem h⟩
theorem bag_is (b : List Int) : bagD b = .tup (b.map D.int) := rfl
theorem p_is_deed : Pok N_is_deed 2 S_is_deed t_is_deed := by
  rintro as H Q W - ⟨k, d, rfl, h1, h2, q⟩
  simp only [t_is_deed, N_is_deed, deedD, atI_two, dSeq2, dIfS, dRet, dRetN, dVar, dC, dOp, dUn, dCons, dNil, dTup, dAsg, bindT, bindTs, itemsD, dIsi, isD, dAndV, dOrV, dNotV, dAnd, dOr, dNot, dTest, tru, dBl, dCall, dCB, dLen, dChain, dLe, dLt, dGe, dGt, dI2, dI2C, dIx, dNext, dDrop, dSet, dSetF, dSub, dMul, dAdd, dMod, dFdiv, dPow, dNeg, dIf, dIntC, dEqN, dEq, dNe, dIsN, dNew, dLst, dTupF, dLenF, dTupleC, dPar, startD, List.length_cons, List.length_nil, List.map_cons, List.map_nil, List.cons_append, List.nil_append, List.getElem?_cons_zero, List.getElem?_cons_succ, List.set_cons_zero, List.set_cons_succ, List.replicate_succ, List.replicate_zero, Nat.reduceAdd, Nat.reduceSub, true_and, wipeD, subT_tt, subT_ii, subT_ib, subT_ll, subT_lt, subT_il, subT_it, subT_tl, subT_is, if_true, if_false, Bool.false_eq_true, Bool.not_true, Bool.not_false]
  simp only [Int.cast_ofNat_Int, Int.reduceEq, decide_true, decide_false, Bool.true_xor, Bool.not_true, dSeq2, dIfS, dRet, dRetN, dVar, dC, dOp, dUn, dCons, dNil, dTup, dAsg, bindT, bindTs, itemsD, dIsi, isD, dAndV, dOrV, dNotV, dAnd, dOr, dNot, dTest, tru, dBl, dCall, dCB, dLen, dChain, dLe, dLt, dGe, dGt, dI2, dI2C, dIx, dNext, dDrop, dSet, dSetF, dSub, dMul, dAdd, dMod, dFdiv, dPow, dNeg, dIf, dIntC, dEqN, dEq, dNe, dIsN, dNew, dLst, dTupF, dLenF, dTupleC, dPar, startD, List.length_cons, List.length_nil, List.map_cons, List.map_nil, List.cons_append, List.nil_append, List.getElem?_cons_zero, List.getElem?_cons_succ, List.set_cons_zero, List.set_cons_succ, List.replicate_succ, List.replicate_zero, Nat.reduceAdd, Nat.reduceSub, true_and, wipeD, subT_tt, subT_ii, subT_ib, subT_ll, subT_lt, subT_il, subT_it, subT_tl, subT_is, if_true, if_false, Bool.false_eq_true, Bool.not_true, Bool.not_false]
  refine ⟨_, _, _, rfl, by omega, by omega, ?_⟩
  simp only [dSeq2, dIfS, dRet, dRetN, dVar, dC, dOp, dUn, dCons, dNil, dTup, dAsg, bindT, bindTs, itemsD, dIsi, isD, dAndV, dOrV, dNotV, dAnd, dOr, dNot, dTest, tru, dBl, dCall, dCB, dLen, dChain, dLe, dLt, dGe, dGt, dI2, dI2C, dIx, dNext, dDrop, dSet, dSetF, dSub, dMul, dAdd, dMod, dFdiv, dPow, dNeg, dIf, dIntC, dEqN, dEq, dNe, dIsN, dNew, dLst, dTupF, dLenF, dTupleC, dPar, startD, List.length_cons, List.length_nil, List.map_cons, List.map_nil, List.cons_append, List.nil_append, List.getElem?_cons_zero, List.getElem?_cons_succ, List.set_cons_zero, List.set_cons_succ, List.replicate_succ, List.replicate_zero, Nat.reduceAdd, Nat.reduceSub, true_and, wipeD, subT_tt, subT_ii, subT_ib, subT_ll, subT_lt, subT_il, subT_it, subT_tl, subT_is, if_true, if_false, Bool.false_eq_true, Bool.not_true, Bool.not_false]
  exact ⟨d.2, by rw [h2.len], h2.nn, q⟩
theorem p_is_ascending : Pok N_is_ascending 1 S_is_ascending t_is_ascending := by
  rintro as H Q W - ⟨l, rfl, ha, hl, q⟩
  simp only [t_is_ascending, N_is_ascending, dSeq2, dIfS, dRet, dRetN, dVar, dC, dOp, dUn, dCons, dNil, dTup, dAsg, bindT, bindTs, itemsD, dIsi, isD, dAndV, dOrV, dNotV, dAnd, dOr, dNot, dTest, tru, dBl, dCall, dCB, dLen, dChain, dLe, dLt, dGe, dGt, dI2, dI2C, dIx, dNext, dDrop, dSet, dSetF, dSub, dMul, dAdd, dMod, dFdiv, dPow, dNeg, dIf, dIntC, dEqN, dEq, dNe, dIsN, dNew, dLst, dTupF, dLenF, dTupleC, dPar, startD, List.length_cons, List.length_nil, List.map_cons, List.map_nil, List.cons_append, List.nil_append, List.getElem?_cons_zero, List.getElem?_cons_succ, List.set_cons_zero, List.set_cons_succ, List.replicate_succ, List.replicate_zero, Nat.reduceAdd, Nat.reduceSub, true_and, wipeD, subT_tt, subT_ii, subT_ib, subT_ll, subT_lt, subT_il, subT_it, subT_tl, subT_is, if_true, if_false, Bool.false_eq_true, Bool.not_true, Bool.not_false]
  refine gen_all (xs := rangeD 1 (l.length - 1)) (fun _ => true) (fun R h => ?_) (fun i x hx => ⟨_, rfl, fun R r => ?_⟩) (by rw [all_true]; exact q)
  · simp only [dRng2, List.length_map, dSeq2, dIfS, dRet, dRetN, dVar, dC, dOp, dUn, dCons, dNil, dTup, dAsg, bindT, bindTs, itemsD, dIsi, isD, dAndV, dOrV, dNotV, dAnd, dOr, dNot, dTest, tru, dBl, dCall, dCB, dLen, dChain, dLe, dLt, dGe, dGt, dI2, dI2C, dIx, dNext, dDrop, dSet, dSetF, dSub, dMul, dAdd, dMod, dFdiv, dPow, dNeg, dIf, dIntC, dEqN, dEq, dNe, dIsN, dNew, dLst, dTupF, dLenF, dTupleC, dPar, startD, List.length_cons, List.length_nil, List.map_cons, List.map_nil, List.cons_append, List.nil_append, List.getElem?_cons_zero, List.getElem?_cons_succ, List.set_cons_zero, List.set_cons_succ, List.replicate_succ, List.replicate_zero, Nat.reduceAdd, Nat.reduceSub, true_and, wipeD, subT_tt, subT_ii, subT_ib, subT_ll, subT_lt, subT_il, subT_it, subT_tl, subT_is, if_true, if_false, Bool.false_eq_true, Bool.not_true, Bool.not_false]
    refine ⟨⟨by omega, by omega, by omega, by omega⟩, ?_⟩
    have e : ((l.length : Int) - 1).toNat = l.length - 1 := by omega
    rw [e]; exact h
  · obtain ⟨hi, rfl⟩ := range_at hx
    have h0 : ∃ d0, l[i]? = some d0 := ⟨_, List.getElem?_eq_getElem (by omega)⟩
    have h1 : ∃ d1, l[i + 1]? = some d1 := ⟨_, List.getElem?_eq_getElem (by omega)⟩
    obtain ⟨d0, h0⟩ := h0
    obtain ⟨d1, h1⟩ := h1
    have e0 : (1 + (i : Int) - 1) = ((i : Nat) : Int) := by omega
    have e1 : (1 + (i : Int)) = ((i + 1 : Nat) : Int) := by omega
    have a0 : L2.atI (l.map deedD) (1 + (i : Int) - 1) = some (deedD d0) := by rw [e0]; exact atI_nat' (by rw [List.getElem?_map, h0]; rfl)
    have a1 : L2.atI (l.map deedD) (1 + (i : Int)) = some (deedD d1) := by rw [e1]; exact atI_nat' (by rw [List.getElem?_map, h1]; rfl)
    simp only [a0, a1, dSeq2, dIfS, dRet, dRetN, dVar, dC, dOp, dUn, dCons, dNil, dTup, dAsg, bindT, bindTs, itemsD, dIsi, isD, dAndV, dOrV, dNotV, dAnd, dOr, dNot, dTest, tru, dBl, dCall, dCB, dLen, dChain, dLe, dLt, dGe, dGt, dI2, dI2C, dIx, dNext, dDrop, dSet, dSetF, dSub, dMul, dAdd, dMod, dFdiv, dPow, dNeg, dIf, dIntC, dEqN, dEq, dNe, dIsN, dNew, dLst, dTupF, dLenF, dTupleC, dPar, startD, List.length_cons, List.length_nil, List.map_cons, List.map_nil, List.cons_append, List.nil_append, List.getElem?_cons_zero, List.getElem?_cons_succ, List.set_cons_zero, List.set_cons_succ, List.replicate_succ, List.replicate_zero, Nat.reduceAdd, Nat.reduceSub, true_and, wipeD, subT_tt, subT_ii, subT_ib, subT_ll, subT_lt, subT_il, subT_it, subT_tl, subT_is, if_true, if_false, Bool.false_eq_true, Bool.not_true, Bool.not_false]
    simp only [dLtD, deedD]
    refine ⟨_, _, PD.of_pure _ _ (pure_deed d0), PD.of_pure _ _ (pure_deed d1), deed_alike d0 d1, deed_ne d0, deed_depth d0, ?_⟩
    have hh := ha i d0 d1 h0 h1
    simp only [deedD] at hh
    rw [hh]
    exact r
theorem p_is_net : Pok N_is_net 1 S_is_net t_is_net := by
  rintro as H Q W - ⟨n, rfl, ok, q⟩
  simp only [t_is_net, N_is_net, netD, atI_two, dSeq2, dIfS, dRet, dRetN, dVar, dC, dOp, dUn, dCons, dNil, dTup, dAsg, bindT, bindTs, itemsD, dIsi, isD, dAndV, dOrV, dNotV, dAnd, dOr, dNot, dTest, tru, dBl, dCall, dCB, dLen, dChain, dLe, dLt, dGe, dGt, dI2, dI2C, dIx, dNext, dDrop, dSet, dSetF, dSub, dMul, dAdd, dMod, dFdiv, dPow, dNeg, dIf, dIntC, dEqN, dEq, dNe, dIsN, dNew, dLst, dTupF, dLenF, dTupleC, dPar, startD, List.length_cons, List.length_nil, List.map_cons, List.map_nil, List.cons_append, List.nil_append, List.getElem?_cons_zero, List.getElem?_cons_succ, List.set_cons_zero, List.set_cons_succ, List.replicate_succ, List.replicate_zero, Nat.reduceAdd, Nat.reduceSub, true_and, wipeD, subT_tt, subT_ii, subT_ib, subT_ll, subT_lt, subT_il, subT_it, subT_tl, subT_is, if_true, if_false, Bool.false_eq_true, Bool.not_true, Bool.not_false]
  simp only [Int.cast_ofNat_Int, Int.reduceEq, decide_true, decide_false, Bool.true_xor, Bool.not_true, dSeq2, dIfS, dRet, dRetN, dVar, dC, dOp, dUn, dCons, dNil, dTup, dAsg, bindT, bindTs, itemsD, dIsi, isD, dAndV, dOrV, dNotV, dAnd, dOr, dNot, dTest, tru, dBl, dCall, dCB, dLen, dChain, dLe, dLt, dGe, dGt, dI2, dI2C, dIx, dNext, dDrop, dSet, dSetF, dSub, dMul, dAdd, dMod, dFdiv, dPow, dNeg, dIf, dIntC, dEqN, dEq, dNe, dIsN, dNew, dLst, dTupF, dLenF, dTupleC, dPar, startD, List.length_cons, List.length_nil, List.map_cons, List.map_nil, List.cons_append, List.nil_append, List.getElem?_cons_zero, List.getElem?_cons_succ, List.set_cons_zero, List.set_cons_succ, List.replicate_succ, List.replicate_zero, Nat.reduceAdd, Nat.reduceSub, true_and, wipeD, subT_tt, subT_ii, subT_ib, subT_ll, subT_lt, subT_il, subT_it, subT_tl, subT_is, if_true, if_false, Bool.false_eq_true, Bool.not_true, Bool.not_false]
  have l1 := ok.lo
  have l2 := ok.hi
  refine ⟨_, _, _, rfl, by omega, by omega, ?_⟩
  simp only [dSeq2, dIfS, dRet, dRetN, dVar, dC, dOp, dUn, dCons, dNil, dTup, dAsg, bindT, bindTs, itemsD, dIsi, isD, dAndV, dOrV, dNotV, dAnd, dOr, dNot, dTest, tru, dBl, dCall, dCB, dLen, dChain, dLe, dLt, dGe, dGt, dI2, dI2C, dIx, dNext, dDrop, dSet, dSetF, dSub, dMul, dAdd, dMod, dFdiv, dPow, dNeg, dIf, dIntC, dEqN, dEq, dNe, dIsN, dNew, dLst, dTupF, dLenF, dTupleC, dPar, startD, List.length_cons, List.length_nil, List.map_cons, List.map_nil, List.cons_append, List.nil_append, List.getElem?_cons_zero, List.getElem?_cons_succ, List.set_cons_zero, List.set_cons_succ, List.replicate_succ, List.replicate_zero, Nat.reduceAdd, Nat.reduceSub, true_and, wipeD, subT_tt, subT_ii, subT_ib, subT_ll, subT_lt, subT_il, subT_it, subT_tl, subT_is, if_true, if_false, Bool.false_eq_true, Bool.not_true, Bool.not_false]
  refine gen_all (xs := n.deeds.map deedD) (fun _ => true) (fun R h => ?_) (fun i x hx => ⟨_, rfl, fun R r => ?_⟩) ?_
  · simp only [dTupI, atI_two, dSeq2, dIfS, dRet, dRetN, dVar, dC, dOp, dUn, dCons, dNil, dTup, dAsg, bindT, bindTs, itemsD, dIsi, isD, dAndV, dOrV, dNotV, dAnd, dOr, dNot, dTest, tru, dBl, dCall, dCB, dLen, dChain, dLe, dLt, dGe, dGt, dI2, dI2C, dIx, dNext, dDrop, dSet, dSetF, dSub, dMul, dAdd, dMod, dFdiv, dPow, dNeg, dIf, dIntC, dEqN, dEq, dNe, dIsN, dNew, dLst, dTupF, dLenF, dTupleC, dPar, startD, List.length_cons, List.length_nil, List.map_cons, List.map_nil, List.cons_append, List.nil_append, List.getElem?_cons_zero, List.getElem?_cons_succ, List.set_cons_zero, List.set_cons_succ, List.replicate_succ, List.replicate_zero, Nat.reduceAdd, Nat.reduceSub, true_and, wipeD, subT_tt, subT_ii, subT_ib, subT_ll, subT_lt, subT_il, subT_it, subT_tl, subT_is, if_true, if_false, Bool.false_eq_true, Bool.not_true, Bool.not_false]; exact h
  · obtain ⟨d, hd, rfl⟩ := map_at hx
    simp only [atI_two, dSeq2, dIfS, dRet, dRetN, dVar, dC, dOp, dUn, dCons, dNil, dTup, dAsg, bindT, bindTs, itemsD, dIsi, isD, dAndV, dOrV, dNotV, dAnd, dOr, dNot, dTest, tru, dBl, dCall, dCB, dLen, dChain, dLe, dLt, dGe, dGt, dI2, dI2C, dIx, dNext, dDrop, dSet, dSetF, dSub, dMul, dAdd, dMod, dFdiv, dPow, dNeg, dIf, dIntC, dEqN, dEq, dNe, dIsN, dNew, dLst, dTupF, dLenF, dTupleC, dPar, startD, List.length_cons, List.length_nil, List.map_cons, List.map_nil, List.cons_append, List.nil_append, List.getElem?_cons_zero, List.getElem?_cons_succ, List.set_cons_zero, List.set_cons_succ, List.replicate_succ, List.replicate_zero, Nat.reduceAdd, Nat.reduceSub, true_and, wipeD, subT_tt, subT_ii, subT_ib, subT_ll, subT_lt, subT_il, subT_it, subT_tl, subT_is, if_true, if_false, Bool.false_eq_true, Bool.not_true, Bool.not_false]
    obtain ⟨h1, h2⟩ := ok.each d (List.mem_of_getElem? hd)
    exact ⟨n.places, d, rfl, h1, h2, r⟩
  · rw [all_true]
    simp only [dSeq2, dIfS, dRet, dRetN, dVar, dC, dOp, dUn, dCons, dNil, dTup, dAsg, bindT, bindTs, itemsD, dIsi, isD, dAndV, dOrV, dNotV, dAnd, dOr, dNot, dTest, tru, dBl, dCall, dCB, dLen, dChain, dLe, dLt, dGe, dGt, dI2, dI2C, dIx, dNext, dDrop, dSet, dSetF, dSub, dMul, dAdd, dMod, dFdiv, dPow, dNeg, dIf, dIntC, dEqN, dEq, dNe, dIsN, dNew, dLst, dTupF, dLenF, dTupleC, dPar, startD, List.length_cons, List.length_nil, List.map_cons, List.map_nil, List.cons_append, List.nil_append, List.getElem?_cons_zero, List.getElem?_cons_succ, List.set_cons_zero, List.set_cons_succ, List.replicate_succ, List.replicate_zero, Nat.reduceAdd, Nat.reduceSub, true_and, wipeD, subT_tt, subT_ii, subT_ib, subT_ll, subT_lt, subT_il, subT_it, subT_tl, subT_is, if_true, if_false, Bool.false_eq_true, Bool.not_true, Bool.not_false]
    exact ⟨n.deeds, rfl, ok.asc, ok.few, q⟩
theorem p_check_net : Pok N_check_net 1 S_check_net t_check_net := by
  rintro as H Q W - ⟨n, rfl, ok, q⟩
  simp only [t_check_net, N_check_net, dSeq2, dIfS, dRet, dRetN, dVar, dC, dOp, dUn, dCons, dNil, dTup, dAsg, bindT, bindTs, itemsD, dIsi, isD, dAndV, dOrV, dNotV, dAnd, dOr, dNot, dTest, tru, dBl, dCall, dCB, dLen, dChain, dLe, dLt, dGe, dGt, dI2, dI2C, dIx, dNext, dDrop, dSet, dSetF, dSub, dMul, dAdd, dMod, dFdiv, dPow, dNeg, dIf, dIntC, dEqN, dEq, dNe, dIsN, dNew, dLst, dTupF, dLenF, dTupleC, dPar, startD, List.length_cons, List.length_nil, List.map_cons, List.map_nil, List.cons_append, List.nil_append, List.getElem?_cons_zero, List.getElem?_cons_succ, List.set_cons_zero, List.set_cons_succ, List.replicate_succ, List.replicate_zero, Nat.reduceAdd, Nat.reduceSub, true_and, wipeD, subT_tt, subT_ii, subT_ib, subT_ll, subT_lt, subT_il, subT_it, subT_tl, subT_is, if_true, if_false, Bool.false_eq_true, Bool.not_true, Bool.not_false]
  refine ⟨n, rfl, ok, ?_⟩
  simp only [dSeq2, dIfS, dRet, dRetN, dVar, dC, dOp, dUn, dCons, dNil, dTup, dAsg, bindT, bindTs, itemsD, dIsi, isD, dAndV, dOrV, dNotV, dAnd, dOr, dNot, dTest, tru, dBl, dCall, dCB, dLen, dChain, dLe, dLt, dGe, dGt, dI2, dI2C, dIx, dNext, dDrop, dSet, dSetF, dSub, dMul, dAdd, dMod, dFdiv, dPow, dNeg, dIf, dIntC, dEqN, dEq, dNe, dIsN, dNew, dLst, dTupF, dLenF, dTupleC, dPar, startD, List.length_cons, List.length_nil, List.map_cons, List.map_nil, List.cons_append, List.nil_append, List.getElem?_cons_zero, List.getElem?_cons_succ, List.set_cons_zero, List.set_cons_succ, List.replicate_succ, List.replicate_zero, Nat.reduceAdd, Nat.reduceSub, true_and, wipeD, subT_tt, subT_ii, subT_ib, subT_ll, subT_lt, subT_il, subT_it, subT_tl, subT_is, if_true, if_false, Bool.false_eq_true, Bool.not_true, Bool.not_false]
  exact q
theorem p_check_marks : Pok N_check_marks 2 S_check_marks t_check_marks := by
  rintro as H Q W - ⟨n, b, rfl, ok, q⟩
  simp only [t_check_marks, N_check_marks, netD, atI_two, dSeq2, dIfS, dRet, dRetN, dVar, dC, dOp, dUn, dCons, dNil, dTup, dAsg, bindT, bindTs, itemsD, dIsi, isD, dAndV, dOrV, dNotV, dAnd, dOr, dNot, dTest, tru, dBl, dCall, dCB, dLen, dChain, dLe, dLt, dGe, dGt, dI2, dI2C, dIx, dNext, dDrop, dSet, dSetF, dSub, dMul, dAdd, dMod, dFdiv, dPow, dNeg, dIf, dIntC, dEqN, dEq, dNe, dIsN, dNew, dLst, dTupF, dLenF, dTupleC, dPar, startD, List.length_cons, List.length_nil, List.map_cons, List.map_nil, List.cons_append, List.nil_append, List.getElem?_cons_zero, List.getElem?_cons_succ, List.set_cons_zero, List.set_cons_succ, List.replicate_succ, List.replicate_zero, Nat.reduceAdd, Nat.reduceSub, true_and, wipeD, subT_tt, subT_ii, subT_ib, subT_ll, subT_lt, subT_il, subT_it, subT_tl, subT_is, if_true, if_false, Bool.false_eq_true, Bool.not_true, Bool.not_false]
  refine ⟨b, by rw [ok.len], ok.nn, ?_⟩
  simp only [dSeq2, dIfS, dRet, dRetN, dVar, dC, dOp, dUn, dCons, dNil, dTup, dAsg, bindT, bindTs, itemsD, dIsi, isD, dAndV, dOrV, dNotV, dAnd, dOr, dNot, dTest, tru, dBl, dCall, dCB, dLen, dChain, dLe, dLt, dGe, dGt, dI2, dI2C, dIx, dNext, dDrop, dSet, dSetF, dSub, dMul, dAdd, dMod, dFdiv, dPow, dNeg, dIf, dIntC, dEqN, dEq, dNe, dIsN, dNew, dLst, dTupF, dLenF, dTupleC, dPar, startD, List.length_cons, List.length_nil, List.map_cons, List.map_nil, List.cons_append, List.nil_append, List.getElem?_cons_zero, List.getElem?_cons_succ, List.set_cons_zero, List.set_cons_succ, List.replicate_succ, List.replicate_zero, Nat.reduceAdd, Nat.reduceSub, true_and, wipeD, subT_tt, subT_ii, subT_ib, subT_ll, subT_lt, subT_il, subT_it, subT_tl, subT_is, if_true, if_false, Bool.false_eq_true, Bool.not_true, Bool.not_false]
  exact q
theorem p_can_be_done : Pok N_can_be_done 3 S_can_be_done t_can_be_done := by
  rintro as H Q W - ⟨n, b, i, rfl, ok, hb, hi, q⟩
  obtain ⟨d, hd⟩ := net_at hi
  obtain ⟨h1, h2⟩ := ok.each d (List.mem_of_getElem? hd)
  have e := bag_at (b := b) (j := d.1) (by rw [hb.len]; exact h1)
  simp only [t_can_be_done, N_can_be_done, netD, bagD, deedD, atI_two, deed_at hd, e, dSeq2, dIfS, dRet, dRetN, dVar, dC, dOp, dUn, dCons, dNil, dTup, dAsg, bindT, bindTs, itemsD, dIsi, isD, dAndV, dOrV, dNotV, dAnd, dOr, dNot, dTest, tru, dBl, dCall, dCB, dLen, dChain, dLe, dLt, dGe, dGt, dI2, dI2C, dIx, dNext, dDrop, dSet, dSetF, dSub, dMul, dAdd, dMod, dFdiv, dPow, dNeg, dIf, dIntC, dEqN, dEq, dNe, dIsN, dNew, dLst, dTupF, dLenF, dTupleC, dPar, startD, List.length_cons, List.length_nil, List.map_cons, List.map_nil, List.cons_append, List.nil_append, List.getElem?_cons_zero, List.getElem?_cons_succ, List.set_cons_zero, List.set_cons_succ, List.replicate_succ, List.replicate_zero, Nat.reduceAdd, Nat.reduceSub, true_and, wipeD, subT_tt, subT_ii, subT_ib, subT_ll, subT_lt, subT_il, subT_it, subT_tl, subT_is, if_true, if_false, Bool.false_eq_true, Bool.not_true, Bool.not_false]
  have e2 : canB n b i = decide (0 < b.getD d.1 0) := by unfold canB; rw [hd]
  rw [← e2]
  exact q
theorem p_check_deed : Pok N_check_deed 3 S_check_deed t_check_deed := by
  rintro as H Q W - ⟨n, b, i, rfl, ok, hb, hi, hc, q⟩
  simp only [t_check_deed, N_check_deed, netD, atI_two, List.length_map, dSeq2, dIfS, dRet, dRetN, dVar, dC, dOp, dUn, dCons, dNil, dTup, dAsg, bindT, bindTs, itemsD, dIsi, isD, dAndV, dOrV, dNotV, dAnd, dOr, dNot, dTest, tru, dBl, dCall, dCB, dLen, dChain, dLe, dLt, dGe, dGt, dI2, dI2C, dIx, dNext, dDrop, dSet, dSetF, dSub, dMul, dAdd, dMod, dFdiv, dPow, dNeg, dIf, dIntC, dEqN, dEq, dNe, dIsN, dNew, dLst, dTupF, dLenF, dTupleC, dPar, startD, List.length_cons, List.length_nil, List.map_cons, List.map_nil, List.cons_append, List.nil_append, List.getElem?_cons_zero, List.getElem?_cons_succ, List.set_cons_zero, List.set_cons_succ, List.replicate_succ, List.replicate_zero, Nat.reduceAdd, Nat.reduceSub, true_and, wipeD, subT_tt, subT_ii, subT_ib, subT_ll, subT_lt, subT_il, subT_it, subT_tl, subT_is, if_true, if_false, Bool.false_eq_true, Bool.not_true, Bool.not_false]
  refine ⟨_, _, _, rfl, by omega, by omega, ?_⟩
  simp only [dSeq2, dIfS, dRet, dRetN, dVar, dC, dOp, dUn, dCons, dNil, dTup, dAsg, bindT, bindTs, itemsD, dIsi, isD, dAndV, dOrV, dNotV, dAnd, dOr, dNot, dTest, tru, dBl, dCall, dCB, dLen, dChain, dLe, dLt, dGe, dGt, dI2, dI2C, dIx, dNext, dDrop, dSet, dSetF, dSub, dMul, dAdd, dMod, dFdiv, dPow, dNeg, dIf, dIntC, dEqN, dEq, dNe, dIsN, dNew, dLst, dTupF, dLenF, dTupleC, dPar, startD, List.length_cons, List.length_nil, List.map_cons, List.map_nil, List.cons_append, List.nil_append, List.getElem?_cons_zero, List.getElem?_cons_succ, List.set_cons_zero, List.set_cons_succ, List.replicate_succ, List.replicate_zero, Nat.reduceAdd, Nat.reduceSub, true_and, wipeD, subT_tt, subT_ii, subT_ib, subT_ll, subT_lt, subT_il, subT_it, subT_tl, subT_is, if_true, if_false, Bool.false_eq_true, Bool.not_true, Bool.not_false]
  refine ⟨n, b, i, rfl, ok, hb, hi, ?_⟩
  simp only [hc, dSeq2, dIfS, dRet, dRetN, dVar, dC, dOp, dUn, dCons, dNil, dTup, dAsg, bindT, bindTs, itemsD, dIsi, isD, dAndV, dOrV, dNotV, dAnd, dOr, dNot, dTest, tru, dBl, dCall, dCB, dLen, dChain, dLe, dLt, dGe, dGt, dI2, dI2C, dIx, dNext, dDrop, dSet, dSetF, dSub, dMul, dAdd, dMod, dFdiv, dPow, dNeg, dIf, dIntC, dEqN, dEq, dNe, dIsN, dNew, dLst, dTupF, dLenF, dTupleC, dPar, startD, List.length_cons, List.length_nil, List.map_cons, List.map_nil, List.cons_append, List.nil_append, List.getElem?_cons_zero, List.getElem?_cons_succ, List.set_cons_zero, List.set_cons_succ, List.replicate_succ, List.replicate_zero, Nat.reduceAdd, Nat.reduceSub, true_and, wipeD, subT_tt, subT_ii, subT_ib, subT_ll, subT_lt, subT_il, subT_it, subT_tl, subT_is, if_true, if_false, Bool.false_eq_true, Bool.not_true, Bool.not_false]
  exact q
theorem p_bag_after : Pok N_bag_after 3 S_bag_after t_bag_after := by
  rintro as H Q W - ⟨n, b, i, rfl, ok, hb, hi, q⟩
  obtain ⟨d, hd⟩ := net_at hi
  obtain ⟨h1, h2⟩ := ok.each d (List.mem_of_getElem? hd)
  simp only [t_bag_after, N_bag_after, netD, bagD, deedD, atI_two, deed_at hd, dSeq2, dIfS, dRet, dRetN, dVar, dC, dOp, dUn, dCons, dNil, dTup, dAsg, bindT, bindTs, itemsD, dIsi, isD, dAndV, dOrV, dNotV, dAnd, dOr, dNot, dTest, tru, dBl, dCall, dCB, dLen, dChain, dLe, dLt, dGe, dGt, dI2, dI2C, dIx, dNext, dDrop, dSet, dSetF, dSub, dMul, dAdd, dMod, dFdiv, dPow, dNeg, dIf, dIntC, dEqN, dEq, dNe, dIsN, dNew, dLst, dTupF, dLenF, dTupleC, dPar, startD, List.length_cons, List.length_nil, List.map_cons, List.map_nil, List.cons_append, List.nil_append, List.getElem?_cons_zero, List.getElem?_cons_succ, List.set_cons_zero, List.set_cons_succ, List.replicate_succ, List.replicate_zero, Nat.reduceAdd, Nat.reduceSub, true_and, wipeD, subT_tt, subT_ii, subT_ib, subT_ll, subT_lt, subT_il, subT_it, subT_tl, subT_is, if_true, if_false, Bool.false_eq_true, Bool.not_true, Bool.not_false]
  refine lc_map (xs := pairs (b.map D.int)) (fun j => .int (b.getD j 0 - (if j = d.1 then 1 else 0) + d.2.getD j 0)) (fun R h => h) ?_ (fun j x hx => ?_) ?_
  · simp only [pairs, List.length_map, List.length_range]; rw [hb.len]; have := ok.hi; omega
  · obtain ⟨y, hy, rfl⟩ := pairs_get hx
    obtain ⟨v, hv, rfl⟩ := map_at hy
    have hj : j < b.length := (List.getElem?_eq_some_iff.mp hv).1
    have ev : b.getD j 0 = v := by simp [List.getD, hv]
    refine ⟨_, rfl, fun R r => ?_⟩
    have e := bag_at (b := d.2) (j := j) (by rw [h2.len, ← hb.len]; exact hj)
    simp only [e, dSeq2, dIfS, dRet, dRetN, dVar, dC, dOp, dUn, dCons, dNil, dTup, dAsg, bindT, bindTs, itemsD, dIsi, isD, dAndV, dOrV, dNotV, dAnd, dOr, dNot, dTest, tru, dBl, dCall, dCB, dLen, dChain, dLe, dLt, dGe, dGt, dI2, dI2C, dIx, dNext, dDrop, dSet, dSetF, dSub, dMul, dAdd, dMod, dFdiv, dPow, dNeg, dIf, dIntC, dEqN, dEq, dNe, dIsN, dNew, dLst, dTupF, dLenF, dTupleC, dPar, startD, List.length_cons, List.length_nil, List.map_cons, List.map_nil, List.cons_append, List.nil_append, List.getElem?_cons_zero, List.getElem?_cons_succ, List.set_cons_zero, List.set_cons_succ, List.replicate_succ, List.replicate_zero, Nat.reduceAdd, Nat.reduceSub, true_and, wipeD, subT_tt, subT_ii, subT_ib, subT_ll, subT_lt, subT_il, subT_it, subT_tl, subT_is, if_true, if_false, Bool.false_eq_true, Bool.not_true, Bool.not_false]
    rw [← ev]
    by_cases hjd : j = d.1
    · subst hjd; simpa using r
    · have : ¬ ((j : Int) = (d.1 : Int)) := by omega
      simpa [hjd, this] using r
  · have e : after n b i = afterL b d.1 d.2 := by unfold after; rw [hd]
    rw [e] at q
    have e2 : (List.range (pairs (b.map D.int)).length).map (fun j => D.int (b.getD j 0 - (if j = d.1 then 1 else 0) + d.2.getD j 0)) = (afterL b d.1 d.2).map D.int := by
      simp only [pairs, List.length_map, List.length_range, afterL, List.map_map]; rfl
    rw [e2]
    exact q
end K57

namespace K57
open PySem PySem.Spec
open PyProof.Rows DL
theorem count_ints (j : Nat) : ∀ l : List Nat, (l.map Int.ofNat).count (j : Int) = l.count j
  | [] => rfl
  | a :: r => by
    rw [List.map_cons, List.count_cons, List.count_cons, count_ints j r]
    have : (Int.ofNat a == (j : Int)) = (a == j) := by
      by_cases h : a = j
      · subst h; simp
      · rw [beq_eq_false_iff_ne.mpr h, beq_eq_false_iff_ne.mpr (fun z => h (by injection z))]
    rw [this]
section
variable {H : DH} {i i1 i2 : Oid} {n : Net} {bs : List (List Int)} {b : List Int} {ds : List Nat} {σ : DSt} {Q : DVK}
theorem BoardAt.n1 (B : BoardAt H i i1 i2 n bs ds) : i ≠ i1 := by rintro rfl; have := B.self; rw [B.bags] at this; cases this
theorem BoardAt.n2 (B : BoardAt H i i1 i2 n bs ds) : i ≠ i2 := by rintro rfl; have := B.self; rw [B.deeds] at this; cases this
theorem BoardAt.ins (B : BoardAt H i i1 i2 n bs ds) : insOf 0 (.ref i) H = some [(0, netD n), (1, .ref i1), (2, .ref i2)] := by simp only [insOf, B.self, if_true]
theorem BoardAt.insn (B : BoardAt H i i1 i2 n bs ds) : insOf 0 (.ref i) H ≠ none := by rw [B.ins]; exact fun z => by cases z
/-- self._net, self._bags, self._deeds -/
theorem fld0 (B : BoardAt H i i1 i2 n bs ds) {Te : DTE} (h : ∀ Q : DVK, Q (.ref i) H → Te σ H Q) (q : Q (netD n) H) : dFld 0 0 Te σ H Q := h _ (by rw [B.ins]; exact q)
theorem fld1 (B : BoardAt H i i1 i2 n bs ds) {Te : DTE} (h : ∀ Q : DVK, Q (.ref i) H → Te σ H Q) (q : Q (.ref i1) H) : dFld 0 1 Te σ H Q := h _ (by rw [B.ins]; exact q)
theorem fld2 (B : BoardAt H i i1 i2 n bs ds) {Te : DTE} (h : ∀ Q : DVK, Q (.ref i) H → Te σ H Q) (q : Q (.ref i2) H) : dFld 0 2 Te σ H Q := h _ (by rw [B.ins]; exact q)
end
theorem p_Board___init__ : Pok N_Board___init__ 3 S_Board___init__ t_Board___init__ := by
  rintro as H Q W - ⟨i, n, b, rfl, h0, ok, hb, p1, p2, f1, f2, hp, q⟩
  have n1 : Oid.nm p1 ≠ i := by rintro rfl; rw [h0] at f1; cases f1
  have n2 : Oid.nm p2 ≠ i := by rintro rfl; rw [h0] at f2; cases f2
  have n3 : Oid.nm p1 ≠ Oid.nm p2 := fun z => hp (by injection z)
  simp only [t_Board___init__, N_Board___init__, dFldS, dSeq2, dIfS, dRet, dRetN, dVar, dC, dOp, dUn, dCons, dNil, dTup, dAsg, bindT, bindTs, itemsD, dIsi, isD, dAndV, dOrV, dNotV, dAnd, dOr, dNot, dTest, tru, dBl, dCall, dCB, dLen, dChain, dLe, dLt, dGe, dGt, dI2, dI2C, dIx, dNext, dDrop, dSet, dSetF, dSub, dMul, dAdd, dMod, dFdiv, dPow, dNeg, dIf, dIntC, dEqN, dEq, dNe, dIsN, dNew, dLst, dTupF, dLenF, dTupleC, dPar, startD, List.length_cons, List.length_nil, List.map_cons, List.map_nil, List.cons_append, List.nil_append, List.getElem?_cons_zero, List.getElem?_cons_succ, List.set_cons_zero, List.set_cons_succ, List.replicate_succ, List.replicate_zero, Nat.reduceAdd, Nat.reduceSub, true_and, wipeD, subT_tt, subT_ii, subT_ib, subT_ll, subT_lt, subT_il, subT_it, subT_tl, subT_is, if_true, if_false, Bool.false_eq_true, Bool.not_true, Bool.not_false]
  refine ⟨n, rfl, ok, n, b, rfl, hb, ?_⟩
  simp only [h0, dSeq2, dIfS, dRet, dRetN, dVar, dC, dOp, dUn, dCons, dNil, dTup, dAsg, bindT, bindTs, itemsD, dIsi, isD, dAndV, dOrV, dNotV, dAnd, dOr, dNot, dTest, tru, dBl, dCall, dCB, dLen, dChain, dLe, dLt, dGe, dGt, dI2, dI2C, dIx, dNext, dDrop, dSet, dSetF, dSub, dMul, dAdd, dMod, dFdiv, dPow, dNeg, dIf, dIntC, dEqN, dEq, dNe, dIsN, dNew, dLst, dTupF, dLenF, dTupleC, dPar, startD, List.length_cons, List.length_nil, List.map_cons, List.map_nil, List.cons_append, List.nil_append, List.getElem?_cons_zero, List.getElem?_cons_succ, List.set_cons_zero, List.set_cons_succ, List.replicate_succ, List.replicate_zero, Nat.reduceAdd, Nat.reduceSub, true_and, wipeD, subT_tt, subT_ii, subT_ib, subT_ll, subT_lt, subT_il, subT_it, subT_tl, subT_is, if_true, if_false, Bool.false_eq_true, Bool.not_true, Bool.not_false]
  refine ⟨by simp, ⟨by simp [sizeLine], .inl ⟨p1, by rw [upd_ne n1]; exact f1, ?_⟩⟩⟩
  simp only [upd_ne n1.symm, upd_same, putD, dSeq2, dIfS, dRet, dRetN, dVar, dC, dOp, dUn, dCons, dNil, dTup, dAsg, bindT, bindTs, itemsD, dIsi, isD, dAndV, dOrV, dNotV, dAnd, dOr, dNot, dTest, tru, dBl, dCall, dCB, dLen, dChain, dLe, dLt, dGe, dGt, dI2, dI2C, dIx, dNext, dDrop, dSet, dSetF, dSub, dMul, dAdd, dMod, dFdiv, dPow, dNeg, dIf, dIntC, dEqN, dEq, dNe, dIsN, dNew, dLst, dTupF, dLenF, dTupleC, dPar, startD, List.length_cons, List.length_nil, List.map_cons, List.map_nil, List.cons_append, List.nil_append, List.getElem?_cons_zero, List.getElem?_cons_succ, List.set_cons_zero, List.set_cons_succ, List.replicate_succ, List.replicate_zero, Nat.reduceAdd, Nat.reduceSub, true_and, wipeD, subT_tt, subT_ii, subT_ib, subT_ll, subT_lt, subT_il, subT_it, subT_tl, subT_is, if_true, if_false, Bool.false_eq_true, Bool.not_true, Bool.not_false]
  refine ⟨by simp, ⟨by simp [sizeLine], .inl ⟨p2, by rw [upd_ne n2, upd_ne n3.symm, upd_ne n2]; exact f2, ?_⟩⟩⟩
  simp only [upd_ne n2.symm, upd_same, putD, dSeq2, dIfS, dRet, dRetN, dVar, dC, dOp, dUn, dCons, dNil, dTup, dAsg, bindT, bindTs, itemsD, dIsi, isD, dAndV, dOrV, dNotV, dAnd, dOr, dNot, dTest, tru, dBl, dCall, dCB, dLen, dChain, dLe, dLt, dGe, dGt, dI2, dI2C, dIx, dNext, dDrop, dSet, dSetF, dSub, dMul, dAdd, dMod, dFdiv, dPow, dNeg, dIf, dIntC, dEqN, dEq, dNe, dIsN, dNew, dLst, dTupF, dLenF, dTupleC, dPar, startD, List.length_cons, List.length_nil, List.map_cons, List.map_nil, List.cons_append, List.nil_append, List.getElem?_cons_zero, List.getElem?_cons_succ, List.set_cons_zero, List.set_cons_succ, List.replicate_succ, List.replicate_zero, Nat.reduceAdd, Nat.reduceSub, true_and, wipeD, subT_tt, subT_ii, subT_ib, subT_ll, subT_lt, subT_il, subT_it, subT_tl, subT_is, if_true, if_false, Bool.false_eq_true, Bool.not_true, Bool.not_false]
  refine ⟨by simp, q _ ⟨?_, ?_, ?_, n3⟩ fun j j1 j2 j3 => ?_⟩
  · rw [upd_same]; rfl
  · rw [upd_ne n1, upd_ne n3, upd_ne n1, upd_same]; rfl
  · rw [upd_ne n2, upd_same]; rfl
  · rw [upd_ne j1, upd_ne j3, upd_ne j1, upd_ne j2, upd_ne j1]
theorem p_Board_bag : Pok N_Board_bag 1 S_Board_bag t_Board_bag := by
  rintro as H Q W - ⟨i, i1, i2, n, bs, b, ds, rfl, B, q⟩
  simp only [t_Board_bag, N_Board_bag, dSeq2, dIfS, dRet, dRetN, dVar, dC, dOp, dUn, dCons, dNil, dTup, dAsg, bindT, bindTs, itemsD, dIsi, isD, dAndV, dOrV, dNotV, dAnd, dOr, dNot, dTest, tru, dBl, dCall, dCB, dLen, dChain, dLe, dLt, dGe, dGt, dI2, dI2C, dIx, dNext, dDrop, dSet, dSetF, dSub, dMul, dAdd, dMod, dFdiv, dPow, dNeg, dIf, dIntC, dEqN, dEq, dNe, dIsN, dNew, dLst, dTupF, dLenF, dTupleC, dPar, startD, List.length_cons, List.length_nil, List.map_cons, List.map_nil, List.cons_append, List.nil_append, List.getElem?_cons_zero, List.getElem?_cons_succ, List.set_cons_zero, List.set_cons_succ, List.replicate_succ, List.replicate_zero, Nat.reduceAdd, Nat.reduceSub, true_and, wipeD, subT_tt, subT_ii, subT_ib, subT_ll, subT_lt, subT_il, subT_it, subT_tl, subT_is, if_true, if_false, Bool.false_eq_true, Bool.not_true, Bool.not_false]
  refine fld1 B (fun Q h => h) ?_
  simp only [B.bags, List.map_append, atI_last, dSeq2, dIfS, dRet, dRetN, dVar, dC, dOp, dUn, dCons, dNil, dTup, dAsg, bindT, bindTs, itemsD, dIsi, isD, dAndV, dOrV, dNotV, dAnd, dOr, dNot, dTest, tru, dBl, dCall, dCB, dLen, dChain, dLe, dLt, dGe, dGt, dI2, dI2C, dIx, dNext, dDrop, dSet, dSetF, dSub, dMul, dAdd, dMod, dFdiv, dPow, dNeg, dIf, dIntC, dEqN, dEq, dNe, dIsN, dNew, dLst, dTupF, dLenF, dTupleC, dPar, startD, List.length_cons, List.length_nil, List.map_cons, List.map_nil, List.cons_append, List.nil_append, List.getElem?_cons_zero, List.getElem?_cons_succ, List.set_cons_zero, List.set_cons_succ, List.replicate_succ, List.replicate_zero, Nat.reduceAdd, Nat.reduceSub, true_and, wipeD, subT_tt, subT_ii, subT_ib, subT_ll, subT_lt, subT_il, subT_it, subT_tl, subT_is, if_true, if_false, Bool.false_eq_true, Bool.not_true, Bool.not_false]
  exact q
theorem p_Board_row : Pok N_Board_row 1 S_Board_row t_Board_row := by
  rintro as H Q W - ⟨i, i1, i2, n, bs, ds, rfl, B, ok, q⟩
  have few := ok.few
  simp only [t_Board_row, N_Board_row, dSeq2, dIfS, dRet, dRetN, dVar, dC, dOp, dUn, dCons, dNil, dTup, dAsg, bindT, bindTs, itemsD, dIsi, isD, dAndV, dOrV, dNotV, dAnd, dOr, dNot, dTest, tru, dBl, dCall, dCB, dLen, dChain, dLe, dLt, dGe, dGt, dI2, dI2C, dIx, dNext, dDrop, dSet, dSetF, dSub, dMul, dAdd, dMod, dFdiv, dPow, dNeg, dIf, dIntC, dEqN, dEq, dNe, dIsN, dNew, dLst, dTupF, dLenF, dTupleC, dPar, startD, List.length_cons, List.length_nil, List.map_cons, List.map_nil, List.cons_append, List.nil_append, List.getElem?_cons_zero, List.getElem?_cons_succ, List.set_cons_zero, List.set_cons_succ, List.replicate_succ, List.replicate_zero, Nat.reduceAdd, Nat.reduceSub, true_and, wipeD, subT_tt, subT_ii, subT_ib, subT_ll, subT_lt, subT_il, subT_it, subT_tl, subT_is, if_true, if_false, Bool.false_eq_true, Bool.not_true, Bool.not_false]
  refine lc_map (xs := rangeD 0 n.deeds.length) (fun j => .int ((ds.count j : Nat) : Int)) (fun R h => ?_) (by rw [range_len]; omega) (fun j x hx => ?_) ?_
  · simp only [dRng1, dSeq2, dIfS, dRet, dRetN, dVar, dC, dOp, dUn, dCons, dNil, dTup, dAsg, bindT, bindTs, itemsD, dIsi, isD, dAndV, dOrV, dNotV, dAnd, dOr, dNot, dTest, tru, dBl, dCall, dCB, dLen, dChain, dLe, dLt, dGe, dGt, dI2, dI2C, dIx, dNext, dDrop, dSet, dSetF, dSub, dMul, dAdd, dMod, dFdiv, dPow, dNeg, dIf, dIntC, dEqN, dEq, dNe, dIsN, dNew, dLst, dTupF, dLenF, dTupleC, dPar, startD, List.length_cons, List.length_nil, List.map_cons, List.map_nil, List.cons_append, List.nil_append, List.getElem?_cons_zero, List.getElem?_cons_succ, List.set_cons_zero, List.set_cons_succ, List.replicate_succ, List.replicate_zero, Nat.reduceAdd, Nat.reduceSub, true_and, wipeD, subT_tt, subT_ii, subT_ib, subT_ll, subT_lt, subT_il, subT_it, subT_tl, subT_is, if_true, if_false, Bool.false_eq_true, Bool.not_true, Bool.not_false]
    refine fld0 B (fun Q h => h) ?_
    simp only [netD, atI_two, List.length_map, dSeq2, dIfS, dRet, dRetN, dVar, dC, dOp, dUn, dCons, dNil, dTup, dAsg, bindT, bindTs, itemsD, dIsi, isD, dAndV, dOrV, dNotV, dAnd, dOr, dNot, dTest, tru, dBl, dCall, dCB, dLen, dChain, dLe, dLt, dGe, dGt, dI2, dI2C, dIx, dNext, dDrop, dSet, dSetF, dSub, dMul, dAdd, dMod, dFdiv, dPow, dNeg, dIf, dIntC, dEqN, dEq, dNe, dIsN, dNew, dLst, dTupF, dLenF, dTupleC, dPar, startD, List.length_cons, List.length_nil, List.map_cons, List.map_nil, List.cons_append, List.nil_append, List.getElem?_cons_zero, List.getElem?_cons_succ, List.set_cons_zero, List.set_cons_succ, List.replicate_succ, List.replicate_zero, Nat.reduceAdd, Nat.reduceSub, true_and, wipeD, subT_tt, subT_ii, subT_ib, subT_ll, subT_lt, subT_il, subT_it, subT_tl, subT_is, if_true, if_false, Bool.false_eq_true, Bool.not_true, Bool.not_false]
    exact ⟨⟨by omega, by omega⟩, by simpa using h⟩
  · obtain ⟨hj, rfl⟩ := range_at hx
    refine ⟨_, rfl, fun R r => ?_⟩
    simp only [dBM, dSeq2, dIfS, dRet, dRetN, dVar, dC, dOp, dUn, dCons, dNil, dTup, dAsg, bindT, bindTs, itemsD, dIsi, isD, dAndV, dOrV, dNotV, dAnd, dOr, dNot, dTest, tru, dBl, dCall, dCB, dLen, dChain, dLe, dLt, dGe, dGt, dI2, dI2C, dIx, dNext, dDrop, dSet, dSetF, dSub, dMul, dAdd, dMod, dFdiv, dPow, dNeg, dIf, dIntC, dEqN, dEq, dNe, dIsN, dNew, dLst, dTupF, dLenF, dTupleC, dPar, startD, List.length_cons, List.length_nil, List.map_cons, List.map_nil, List.cons_append, List.nil_append, List.getElem?_cons_zero, List.getElem?_cons_succ, List.set_cons_zero, List.set_cons_succ, List.replicate_succ, List.replicate_zero, Nat.reduceAdd, Nat.reduceSub, true_and, wipeD, subT_tt, subT_ii, subT_ib, subT_ll, subT_lt, subT_il, subT_it, subT_tl, subT_is, if_true, if_false, Bool.false_eq_true, Bool.not_true, Bool.not_false]
    refine fld2 B (fun Q h => h) ⟨by simp [isT, B.deeds], ?_⟩
    simp only [mCount, B.deeds]
    refine ⟨ds.map Int.ofNat, by simp [natsD], ?_⟩
    have e : (ds.map Int.ofNat).count (0 + (j : Int)) = ds.count j := by
      rw [Int.zero_add]
      exact count_ints j ds
    rw [e]
    exact r
  · rw [range_len]
    have e : (List.range n.deeds.length).map (fun j => D.int ((ds.count j : Nat) : Int)) = (row n ds).map D.int := by simp [row, List.map_map, Function.comp_def]
    rw [e]
    exact q
theorem p_Board___len__ : Pok N_Board___len__ 1 S_Board___len__ t_Board___len__ := by
  rintro as H Q W - ⟨i, i1, i2, n, bs, ds, rfl, B, q⟩
  simp only [t_Board___len__, N_Board___len__, dSeq2, dIfS, dRet, dRetN, dVar, dC, dOp, dUn, dCons, dNil, dTup, dAsg, bindT, bindTs, itemsD, dIsi, isD, dAndV, dOrV, dNotV, dAnd, dOr, dNot, dTest, tru, dBl, dCall, dCB, dLen, dChain, dLe, dLt, dGe, dGt, dI2, dI2C, dIx, dNext, dDrop, dSet, dSetF, dSub, dMul, dAdd, dMod, dFdiv, dPow, dNeg, dIf, dIntC, dEqN, dEq, dNe, dIsN, dNew, dLst, dTupF, dLenF, dTupleC, dPar, startD, List.length_cons, List.length_nil, List.map_cons, List.map_nil, List.cons_append, List.nil_append, List.getElem?_cons_zero, List.getElem?_cons_succ, List.set_cons_zero, List.set_cons_succ, List.replicate_succ, List.replicate_zero, Nat.reduceAdd, Nat.reduceSub, true_and, wipeD, subT_tt, subT_ii, subT_ib, subT_ll, subT_lt, subT_il, subT_it, subT_tl, subT_is, if_true, if_false, Bool.false_eq_true, Bool.not_true, Bool.not_false]
  refine fld2 B (fun Q h => h) ?_
  simp only [B.deeds, natsD, List.length_map]
  exact q
theorem p_Board_can : Pok N_Board_can 1 S_Board_can t_Board_can := by
  rintro as H Q W - ⟨i, i1, i2, n, bs, b, ds, rfl, B, ok, hb, q⟩
  have few := ok.few
  simp only [t_Board_can, N_Board_can, dSeq2, dIfS, dRet, dRetN, dVar, dC, dOp, dUn, dCons, dNil, dTup, dAsg, bindT, bindTs, itemsD, dIsi, isD, dAndV, dOrV, dNotV, dAnd, dOr, dNot, dTest, tru, dBl, dCall, dCB, dLen, dChain, dLe, dLt, dGe, dGt, dI2, dI2C, dIx, dNext, dDrop, dSet, dSetF, dSub, dMul, dAdd, dMod, dFdiv, dPow, dNeg, dIf, dIntC, dEqN, dEq, dNe, dIsN, dNew, dLst, dTupF, dLenF, dTupleC, dPar, startD, List.length_cons, List.length_nil, List.map_cons, List.map_nil, List.cons_append, List.nil_append, List.getElem?_cons_zero, List.getElem?_cons_succ, List.set_cons_zero, List.set_cons_succ, List.replicate_succ, List.replicate_zero, Nat.reduceAdd, Nat.reduceSub, true_and, wipeD, subT_tt, subT_ii, subT_ib, subT_ll, subT_lt, subT_il, subT_it, subT_tl, subT_is, if_true, if_false, Bool.false_eq_true, Bool.not_true, Bool.not_false]
  refine lc_fil (xs := rangeD 0 n.deeds.length) (canB n b) (fun j => .int (j : Int)) (fun R h => ?_) (by rw [range_len]; omega) (fun j x hx => ?_) ?_
  · simp only [dRng1, dSeq2, dIfS, dRet, dRetN, dVar, dC, dOp, dUn, dCons, dNil, dTup, dAsg, bindT, bindTs, itemsD, dIsi, isD, dAndV, dOrV, dNotV, dAnd, dOr, dNot, dTest, tru, dBl, dCall, dCB, dLen, dChain, dLe, dLt, dGe, dGt, dI2, dI2C, dIx, dNext, dDrop, dSet, dSetF, dSub, dMul, dAdd, dMod, dFdiv, dPow, dNeg, dIf, dIntC, dEqN, dEq, dNe, dIsN, dNew, dLst, dTupF, dLenF, dTupleC, dPar, startD, List.length_cons, List.length_nil, List.map_cons, List.map_nil, List.cons_append, List.nil_append, List.getElem?_cons_zero, List.getElem?_cons_succ, List.set_cons_zero, List.set_cons_succ, List.replicate_succ, List.replicate_zero, Nat.reduceAdd, Nat.reduceSub, true_and, wipeD, subT_tt, subT_ii, subT_ib, subT_ll, subT_lt, subT_il, subT_it, subT_tl, subT_is, if_true, if_false, Bool.false_eq_true, Bool.not_true, Bool.not_false]
    refine fld0 B (fun Q h => h) ?_
    simp only [netD, atI_two, List.length_map, dSeq2, dIfS, dRet, dRetN, dVar, dC, dOp, dUn, dCons, dNil, dTup, dAsg, bindT, bindTs, itemsD, dIsi, isD, dAndV, dOrV, dNotV, dAnd, dOr, dNot, dTest, tru, dBl, dCall, dCB, dLen, dChain, dLe, dLt, dGe, dGt, dI2, dI2C, dIx, dNext, dDrop, dSet, dSetF, dSub, dMul, dAdd, dMod, dFdiv, dPow, dNeg, dIf, dIntC, dEqN, dEq, dNe, dIsN, dNew, dLst, dTupF, dLenF, dTupleC, dPar, startD, List.length_cons, List.length_nil, List.map_cons, List.map_nil, List.cons_append, List.nil_append, List.getElem?_cons_zero, List.getElem?_cons_succ, List.set_cons_zero, List.set_cons_succ, List.replicate_succ, List.replicate_zero, Nat.reduceAdd, Nat.reduceSub, true_and, wipeD, subT_tt, subT_ii, subT_ib, subT_ll, subT_lt, subT_il, subT_it, subT_tl, subT_is, if_true, if_false, Bool.false_eq_true, Bool.not_true, Bool.not_false]
    exact ⟨⟨by omega, by omega⟩, by simpa using h⟩
  · obtain ⟨hj, rfl⟩ := range_at hx
    refine ⟨_, rfl, fun R r => ?_, fun R _ r => ?_⟩
    · simp only [dSeq2, dIfS, dRet, dRetN, dVar, dC, dOp, dUn, dCons, dNil, dTup, dAsg, bindT, bindTs, itemsD, dIsi, isD, dAndV, dOrV, dNotV, dAnd, dOr, dNot, dTest, tru, dBl, dCall, dCB, dLen, dChain, dLe, dLt, dGe, dGt, dI2, dI2C, dIx, dNext, dDrop, dSet, dSetF, dSub, dMul, dAdd, dMod, dFdiv, dPow, dNeg, dIf, dIntC, dEqN, dEq, dNe, dIsN, dNew, dLst, dTupF, dLenF, dTupleC, dPar, startD, List.length_cons, List.length_nil, List.map_cons, List.map_nil, List.cons_append, List.nil_append, List.getElem?_cons_zero, List.getElem?_cons_succ, List.set_cons_zero, List.set_cons_succ, List.replicate_succ, List.replicate_zero, Nat.reduceAdd, Nat.reduceSub, true_and, wipeD, subT_tt, subT_ii, subT_ib, subT_ll, subT_lt, subT_il, subT_it, subT_tl, subT_is, if_true, if_false, Bool.false_eq_true, Bool.not_true, Bool.not_false]
      refine fld0 B (fun Q h => h) (fld1 B (fun Q h => h) ?_)
      simp only [B.bags, List.map_append, atI_last, dSeq2, dIfS, dRet, dRetN, dVar, dC, dOp, dUn, dCons, dNil, dTup, dAsg, bindT, bindTs, itemsD, dIsi, isD, dAndV, dOrV, dNotV, dAnd, dOr, dNot, dTest, tru, dBl, dCall, dCB, dLen, dChain, dLe, dLt, dGe, dGt, dI2, dI2C, dIx, dNext, dDrop, dSet, dSetF, dSub, dMul, dAdd, dMod, dFdiv, dPow, dNeg, dIf, dIntC, dEqN, dEq, dNe, dIsN, dNew, dLst, dTupF, dLenF, dTupleC, dPar, startD, List.length_cons, List.length_nil, List.map_cons, List.map_nil, List.cons_append, List.nil_append, List.getElem?_cons_zero, List.getElem?_cons_succ, List.set_cons_zero, List.set_cons_succ, List.replicate_succ, List.replicate_zero, Nat.reduceAdd, Nat.reduceSub, true_and, wipeD, subT_tt, subT_ii, subT_ib, subT_ll, subT_lt, subT_il, subT_it, subT_tl, subT_is, if_true, if_false, Bool.false_eq_true, Bool.not_true, Bool.not_false]
      exact ⟨n, b, j, by rw [Int.zero_add], ok, hb, hj, r⟩
    · simp only [Int.zero_add, dSeq2, dIfS, dRet, dRetN, dVar, dC, dOp, dUn, dCons, dNil, dTup, dAsg, bindT, bindTs, itemsD, dIsi, isD, dAndV, dOrV, dNotV, dAnd, dOr, dNot, dTest, tru, dBl, dCall, dCB, dLen, dChain, dLe, dLt, dGe, dGt, dI2, dI2C, dIx, dNext, dDrop, dSet, dSetF, dSub, dMul, dAdd, dMod, dFdiv, dPow, dNeg, dIf, dIntC, dEqN, dEq, dNe, dIsN, dNew, dLst, dTupF, dLenF, dTupleC, dPar, startD, List.length_cons, List.length_nil, List.map_cons, List.map_nil, List.cons_append, List.nil_append, List.getElem?_cons_zero, List.getElem?_cons_succ, List.set_cons_zero, List.set_cons_succ, List.replicate_succ, List.replicate_zero, Nat.reduceAdd, Nat.reduceSub, true_and, wipeD, subT_tt, subT_ii, subT_ib, subT_ll, subT_lt, subT_il, subT_it, subT_tl, subT_is, if_true, if_false, Bool.false_eq_true, Bool.not_true, Bool.not_false]
      exact r
  · rw [range_len]
    exact q
theorem p_Board_do : Pok N_Board_do 2 S_Board_do t_Board_do := by
  rintro as H Q W - ⟨i, i1, i2, n, bs, b, ds, d, rfl, B, ok, hb, hd, hc, l1, l2, q⟩
  have n1 := B.n1
  have n2 := B.n2
  have n3 := B.ne
  simp only [t_Board_do, N_Board_do, dSeq2, dIfS, dRet, dRetN, dVar, dC, dOp, dUn, dCons, dNil, dTup, dAsg, bindT, bindTs, itemsD, dIsi, isD, dAndV, dOrV, dNotV, dAnd, dOr, dNot, dTest, tru, dBl, dCall, dCB, dLen, dChain, dLe, dLt, dGe, dGt, dI2, dI2C, dIx, dNext, dDrop, dSet, dSetF, dSub, dMul, dAdd, dMod, dFdiv, dPow, dNeg, dIf, dIntC, dEqN, dEq, dNe, dIsN, dNew, dLst, dTupF, dLenF, dTupleC, dPar, startD, List.length_cons, List.length_nil, List.map_cons, List.map_nil, List.cons_append, List.nil_append, List.getElem?_cons_zero, List.getElem?_cons_succ, List.set_cons_zero, List.set_cons_succ, List.replicate_succ, List.replicate_zero, Nat.reduceAdd, Nat.reduceSub, true_and, wipeD, subT_tt, subT_ii, subT_ib, subT_ll, subT_lt, subT_il, subT_it, subT_tl, subT_is, if_true, if_false, Bool.false_eq_true, Bool.not_true, Bool.not_false]
  refine fld0 B (fun Q h => h) (fld1 B (fun Q h => h) ?_)
  simp only [B.bags, List.map_append, atI_last, dSeq2, dIfS, dRet, dRetN, dVar, dC, dOp, dUn, dCons, dNil, dTup, dAsg, bindT, bindTs, itemsD, dIsi, isD, dAndV, dOrV, dNotV, dAnd, dOr, dNot, dTest, tru, dBl, dCall, dCB, dLen, dChain, dLe, dLt, dGe, dGt, dI2, dI2C, dIx, dNext, dDrop, dSet, dSetF, dSub, dMul, dAdd, dMod, dFdiv, dPow, dNeg, dIf, dIntC, dEqN, dEq, dNe, dIsN, dNew, dLst, dTupF, dLenF, dTupleC, dPar, startD, List.length_cons, List.length_nil, List.map_cons, List.map_nil, List.cons_append, List.nil_append, List.getElem?_cons_zero, List.getElem?_cons_succ, List.set_cons_zero, List.set_cons_succ, List.replicate_succ, List.replicate_zero, Nat.reduceAdd, Nat.reduceSub, true_and, wipeD, subT_tt, subT_ii, subT_ib, subT_ll, subT_lt, subT_il, subT_it, subT_tl, subT_is, if_true, if_false, Bool.false_eq_true, Bool.not_true, Bool.not_false]
  refine ⟨n, b, d, rfl, ok, hb, hd, hc, ?_⟩
  simp only [dBM, dSeq2, dIfS, dRet, dRetN, dVar, dC, dOp, dUn, dCons, dNil, dTup, dAsg, bindT, bindTs, itemsD, dIsi, isD, dAndV, dOrV, dNotV, dAnd, dOr, dNot, dTest, tru, dBl, dCall, dCB, dLen, dChain, dLe, dLt, dGe, dGt, dI2, dI2C, dIx, dNext, dDrop, dSet, dSetF, dSub, dMul, dAdd, dMod, dFdiv, dPow, dNeg, dIf, dIntC, dEqN, dEq, dNe, dIsN, dNew, dLst, dTupF, dLenF, dTupleC, dPar, startD, List.length_cons, List.length_nil, List.map_cons, List.map_nil, List.cons_append, List.nil_append, List.getElem?_cons_zero, List.getElem?_cons_succ, List.set_cons_zero, List.set_cons_succ, List.replicate_succ, List.replicate_zero, Nat.reduceAdd, Nat.reduceSub, true_and, wipeD, subT_tt, subT_ii, subT_ib, subT_ll, subT_lt, subT_il, subT_it, subT_tl, subT_is, if_true, if_false, Bool.false_eq_true, Bool.not_true, Bool.not_false]
  refine fld1 B (fun Q h => h) ⟨by simp [isT, B.bags], fld0 B (fun Q h => h) (fld1 B (fun Q h => h) ?_)⟩
  simp only [B.bags, List.map_append, atI_last, dSeq2, dIfS, dRet, dRetN, dVar, dC, dOp, dUn, dCons, dNil, dTup, dAsg, bindT, bindTs, itemsD, dIsi, isD, dAndV, dOrV, dNotV, dAnd, dOr, dNot, dTest, tru, dBl, dCall, dCB, dLen, dChain, dLe, dLt, dGe, dGt, dI2, dI2C, dIx, dNext, dDrop, dSet, dSetF, dSub, dMul, dAdd, dMod, dFdiv, dPow, dNeg, dIf, dIntC, dEqN, dEq, dNe, dIsN, dNew, dLst, dTupF, dLenF, dTupleC, dPar, startD, List.length_cons, List.length_nil, List.map_cons, List.map_nil, List.cons_append, List.nil_append, List.getElem?_cons_zero, List.getElem?_cons_succ, List.set_cons_zero, List.set_cons_succ, List.replicate_succ, List.replicate_zero, Nat.reduceAdd, Nat.reduceSub, true_and, wipeD, subT_tt, subT_ii, subT_ib, subT_ll, subT_lt, subT_il, subT_it, subT_tl, subT_is, if_true, if_false, Bool.false_eq_true, Bool.not_true, Bool.not_false]
  refine ⟨n, b, d, rfl, ok, hb, hd, ?_⟩
  simp only [mAppend, B.bags]
  refine ⟨by simp [sizeLine]; omega, ?_⟩
  have B' : BoardAt (upd H i1 (.lst (List.map bagD (bs ++ [b]) ++ [bagD (after n b d)]))) i i1 i2 n (bs ++ [b] ++ [after n b d]) ds :=
    ⟨by rw [upd_ne n1]; exact B.self, by rw [upd_same]; simp, by rw [upd_ne n3.symm]; exact B.deeds, n3⟩
  refine fld2 B' (fun Q h => h) ⟨by simp only [isT, B'.deeds]; rfl, ?_⟩
  simp only [B'.deeds]
  refine ⟨by simp [natsD, sizeLine]; omega, q _ ⟨by rw [upd_ne n2]; exact B'.self, by rw [upd_ne n3]; exact B'.bags, by rw [upd_same]; simp [natsD], n3⟩ fun j j1 j2 => by rw [upd_ne j2, upd_ne j1]⟩
theorem p_Board_undo : Pok N_Board_undo 1 S_Board_undo t_Board_undo := by
  rintro as H Q W - ⟨i, i1, i2, n, bs, b, ds, d, rfl, B, q⟩
  have n1 := B.n1
  have n2 := B.n2
  have n3 := B.ne
  simp only [t_Board_undo, N_Board_undo, dSeq2, dIfS, dRet, dRetN, dVar, dC, dOp, dUn, dCons, dNil, dTup, dAsg, bindT, bindTs, itemsD, dIsi, isD, dAndV, dOrV, dNotV, dAnd, dOr, dNot, dTest, tru, dBl, dCall, dCB, dLen, dChain, dLe, dLt, dGe, dGt, dI2, dI2C, dIx, dNext, dDrop, dSet, dSetF, dSub, dMul, dAdd, dMod, dFdiv, dPow, dNeg, dIf, dIntC, dEqN, dEq, dNe, dIsN, dNew, dLst, dTupF, dLenF, dTupleC, dPar, startD, List.length_cons, List.length_nil, List.map_cons, List.map_nil, List.cons_append, List.nil_append, List.getElem?_cons_zero, List.getElem?_cons_succ, List.set_cons_zero, List.set_cons_succ, List.replicate_succ, List.replicate_zero, Nat.reduceAdd, Nat.reduceSub, true_and, wipeD, subT_tt, subT_ii, subT_ib, subT_ll, subT_lt, subT_il, subT_it, subT_tl, subT_is, if_true, if_false, Bool.false_eq_true, Bool.not_true, Bool.not_false]
  refine fld2 B (fun Q h => h) ?_
  simp only [B.deeds, natsD, List.map_append, dSeq2, dIfS, dRet, dRetN, dVar, dC, dOp, dUn, dCons, dNil, dTup, dAsg, bindT, bindTs, itemsD, dIsi, isD, dAndV, dOrV, dNotV, dAnd, dOr, dNot, dTest, tru, dBl, dCall, dCB, dLen, dChain, dLe, dLt, dGe, dGt, dI2, dI2C, dIx, dNext, dDrop, dSet, dSetF, dSub, dMul, dAdd, dMod, dFdiv, dPow, dNeg, dIf, dIntC, dEqN, dEq, dNe, dIsN, dNew, dLst, dTupF, dLenF, dTupleC, dPar, startD, List.length_cons, List.length_nil, List.map_cons, List.map_nil, List.cons_append, List.nil_append, List.getElem?_cons_zero, List.getElem?_cons_succ, List.set_cons_zero, List.set_cons_succ, List.replicate_succ, List.replicate_zero, Nat.reduceAdd, Nat.reduceSub, true_and, wipeD, subT_tt, subT_ii, subT_ib, subT_ll, subT_lt, subT_il, subT_it, subT_tl, subT_is, if_true, if_false, Bool.false_eq_true, Bool.not_true, Bool.not_false]
  have e0 : decide (((List.length (List.map (fun (i : Nat) => D.int (i : Int)) ds ++ [D.int (d : Int)]) : Nat) : Int) = 0) = false := decide_eq_false (by rw [List.length_append, List.length_singleton]; omega)
  simp only [e0, Bool.false_xor, dSeq2, dIfS, dRet, dRetN, dVar, dC, dOp, dUn, dCons, dNil, dTup, dAsg, bindT, bindTs, itemsD, dIsi, isD, dAndV, dOrV, dNotV, dAnd, dOr, dNot, dTest, tru, dBl, dCall, dCB, dLen, dChain, dLe, dLt, dGe, dGt, dI2, dI2C, dIx, dNext, dDrop, dSet, dSetF, dSub, dMul, dAdd, dMod, dFdiv, dPow, dNeg, dIf, dIntC, dEqN, dEq, dNe, dIsN, dNew, dLst, dTupF, dLenF, dTupleC, dPar, startD, List.length_cons, List.length_nil, List.map_cons, List.map_nil, List.cons_append, List.nil_append, List.getElem?_cons_zero, List.getElem?_cons_succ, List.set_cons_zero, List.set_cons_succ, List.replicate_succ, List.replicate_zero, Nat.reduceAdd, Nat.reduceSub, true_and, wipeD, subT_tt, subT_ii, subT_ib, subT_ll, subT_lt, subT_il, subT_it, subT_tl, subT_is, if_true, if_false, Bool.false_eq_true, Bool.not_true, Bool.not_false]
  simp only [dBM0, dSeq2, dIfS, dRet, dRetN, dVar, dC, dOp, dUn, dCons, dNil, dTup, dAsg, bindT, bindTs, itemsD, dIsi, isD, dAndV, dOrV, dNotV, dAnd, dOr, dNot, dTest, tru, dBl, dCall, dCB, dLen, dChain, dLe, dLt, dGe, dGt, dI2, dI2C, dIx, dNext, dDrop, dSet, dSetF, dSub, dMul, dAdd, dMod, dFdiv, dPow, dNeg, dIf, dIntC, dEqN, dEq, dNe, dIsN, dNew, dLst, dTupF, dLenF, dTupleC, dPar, startD, List.length_cons, List.length_nil, List.map_cons, List.map_nil, List.cons_append, List.nil_append, List.getElem?_cons_zero, List.getElem?_cons_succ, List.set_cons_zero, List.set_cons_succ, List.replicate_succ, List.replicate_zero, Nat.reduceAdd, Nat.reduceSub, true_and, wipeD, subT_tt, subT_ii, subT_ib, subT_ll, subT_lt, subT_il, subT_it, subT_tl, subT_is, if_true, if_false, Bool.false_eq_true, Bool.not_true, Bool.not_false]
  refine fld1 B (fun Q h => h) ⟨by simp [isT, B.bags], ?_⟩
  simp only [mPop, B.bags]
  have e1 : (List.map bagD (bs ++ [b]))[(List.map bagD (bs ++ [b])).length - 1]? = some (bagD b) := by simp
  simp only [e1]
  have e2 : (List.map bagD (bs ++ [b])).dropLast = bs.map bagD := by simp
  rw [e2]
  have B' : BoardAt (upd H i1 (.lst (bs.map bagD))) i i1 i2 n bs (ds ++ [d]) := ⟨by rw [upd_ne n1]; exact B.self, by rw [upd_same], by rw [upd_ne n3.symm]; exact B.deeds, n3⟩
  refine fld2 B' (fun Q h => h) ⟨by simp only [isT, B'.deeds]; rfl, ?_⟩
  simp only [B'.deeds]
  have e3 : (natsD (ds ++ [d]))[(natsD (ds ++ [d])).length - 1]? = some (D.int (d : Int)) := by simp [natsD]
  simp only [e3]
  have e4 : (natsD (ds ++ [d])).dropLast = natsD ds := by simp [natsD]
  rw [e4]
  exact q _ ⟨by rw [upd_ne n2]; exact B'.self, by rw [upd_ne n3]; exact B'.bags, by rw [upd_same], n3⟩ fun j j1 j2 => by rw [upd_ne j2, upd_ne j1]
theorem after_len {n : Net} {b : List Int} {d : Nat} : (after n b d).length = b.length := by
  unfold after
  split
  · simp [afterL]
  · rfl
theorem after_ok {n : Net} {b : List Int} {d : Nat} (ok : NetOk n) (hb : BagOk n.places b) (hc : canB n b d = true) : BagOk n.places (after n b d) := by
  refine ⟨after_len.trans hb.len, ?_⟩
  unfold canB at hc
  unfold after
  split at hc
  · rename_i x e
    obtain ⟨h1, h2⟩ := ok.each x (List.mem_of_getElem? e)
    have hc := of_decide_eq_true hc
    intro y hy
    simp only [afterL, List.mem_map, List.mem_range] at hy
    obtain ⟨j, hj, rfl⟩ := hy
    have g1 : 0 ≤ b.getD j 0 := by
      rw [List.getD_eq_getElem?_getD, List.getElem?_eq_getElem hj]
      exact hb.nn _ (List.getElem_mem hj)
    have g2 : 0 ≤ x.2.getD j 0 := by
      have hj2 : j < x.2.length := by rw [h2.len, ← hb.len]; exact hj
      rw [List.getD_eq_getElem?_getD, List.getElem?_eq_getElem hj2]
      exact h2.nn _ (List.getElem_mem hj2)
    split
    · rename_i e; subst e; omega
    · omega
  · cases hc
theorem Hist.len {n : Net} {bs : List (List Int)} {ds : List Nat} (h : Hist n bs ds) : bs.length = ds.length + 1 := by
  induction h with
  | one => rfl
  | more h h1 h2 ih => simp only [List.length_append, List.length_singleton] at ih ⊢; omega
theorem Hist.last {n : Net} {bs : List (List Int)} {ds : List Nat} (ok : NetOk n) (h : Hist n bs ds) : ∃ cs b, bs = cs ++ [b] ∧ BagOk n.places b := by
  induction h with
  | @one b hb => exact ⟨[], b, rfl, hb⟩
  | @more bs b ds i h h1 h2 ih =>
    obtain ⟨cs, b', e, hb⟩ := ih
    obtain ⟨rfl, e2⟩ := List.append_inj' e rfl
    cases e2
    exact ⟨_, _, rfl, after_ok ok hb h2⟩
theorem Hist.step {n : Net} {bs : List (List Int)} {ds : List Nat} (ok : NetOk n) (h : Hist n bs ds) : ∀ (i d : Nat), ds[i]? = some d → ∃ b, bs[i]? = some b ∧ BagOk n.places b ∧ d < n.deeds.length ∧ canB n b d = true ∧ bs[i + 1]? = some (after n b d) := by
  induction h with
  | one => intro i d e; simp at e
  | @more bs b ds i0 h h1 h2 ih =>
    intro i d e
    have hl := h.len
    rw [List.length_append, List.length_singleton] at hl
    have hi : i < ds.length + 1 := by
      have := (List.getElem?_eq_some_iff.mp e).1
      rw [List.length_append, List.length_singleton] at this
      exact this
    by_cases hi2 : i < ds.length
    · rw [List.getElem?_append_left hi2] at e
      obtain ⟨b', e1, e2, e3, e4, e5⟩ := ih i d e
      refine ⟨b', ?_, e2, e3, e4, ?_⟩
      · rw [List.getElem?_append_left (by rw [List.length_append, List.length_singleton]; omega)]; exact e1
      · rw [List.getElem?_append_left (by rw [List.length_append, List.length_singleton]; omega)]; exact e5
    · have hi3 : i = ds.length := by omega
      subst hi3
      have e : i0 = d := by simpa using e
      subst e
      obtain ⟨cs, b', e', hb⟩ := h.last ok
      obtain ⟨_, e2⟩ := List.append_inj' e' rfl
      cases e2
      refine ⟨b, ?_, hb, h1, h2, ?_⟩
      · rw [List.getElem?_append_left (by rw [List.length_append, List.length_singleton]; omega), List.getElem?_append_right (by omega)]
        have : ds.length - bs.length = 0 := by omega
        rw [this]; rfl
      · rw [List.getElem?_append_right (by rw [List.length_append, List.length_singleton]; omega)]
        have : ds.length + 1 - (bs ++ [b]).length = 0 := by rw [List.length_append, List.length_singleton]; omega
        rw [this]; rfl
theorem take_one {α : Type} {l : List α} {i : Nat} {x : α} (h : l[i]? = some x) : l.take (i + 1) = l.take i ++ [x] := by rw [List.take_add_one, h]; rfl
theorem p_Board_twin : Pok N_Board_twin 1 S_Board_twin t_Board_twin := by
  rintro as H Q W - ⟨i, i1, i2, n, bs, ds, rfl, B, ok, hh, few, p, p1, p2, f, f1, f2, hp1, hp2, hp3, q⟩
  have hl := hh.len
  have ne : ∀ {j : Oid} {o : DO} {p : List Nat}, H j = some o → H (.nm p) = none → j ≠ .nm p := fun h1 h2 z => by rw [z, h2] at h1; cases h1
  obtain ⟨b0, e0⟩ : ∃ b, bs[0]? = some b := ⟨_, List.getElem?_eq_getElem (by omega)⟩
  have hb0 : BagOk n.places b0 := by
    clear q few f f1 f2 B ne
    induction hh with
    | one hb => cases e0; exact hb
    | @more bs b ds i h h1 h2 ih =>
      refine ih h.len ?_
      rw [List.getElem?_append_left (by rw [List.length_append, List.length_singleton]; omega)] at e0
      exact e0
  have a0 : L2.atI (bs.map bagD) 0 = some (bagD b0) := atI_nat' (i := 0) (by rw [List.getElem?_map, e0]; rfl)
  simp only [t_Board_twin, N_Board_twin, dMake, dSeq2, dIfS, dRet, dRetN, dVar, dC, dOp, dUn, dCons, dNil, dTup, dAsg, bindT, bindTs, itemsD, dIsi, isD, dAndV, dOrV, dNotV, dAnd, dOr, dNot, dTest, tru, dBl, dCall, dCB, dLen, dChain, dLe, dLt, dGe, dGt, dI2, dI2C, dIx, dNext, dDrop, dSet, dSetF, dSub, dMul, dAdd, dMod, dFdiv, dPow, dNeg, dIf, dIntC, dEqN, dEq, dNe, dIsN, dNew, dLst, dTupF, dLenF, dTupleC, dPar, startD, List.length_cons, List.length_nil, List.map_cons, List.map_nil, List.cons_append, List.nil_append, List.getElem?_cons_zero, List.getElem?_cons_succ, List.set_cons_zero, List.set_cons_succ, List.replicate_succ, List.replicate_zero, Nat.reduceAdd, Nat.reduceSub, true_and, wipeD, subT_tt, subT_ii, subT_ib, subT_ll, subT_lt, subT_il, subT_it, subT_tl, subT_is, if_true, if_false, Bool.false_eq_true, Bool.not_true, Bool.not_false]
  refine fld0 B (fun Q h => h) (fld1 B (fun Q h => h) ?_)
  simp only [B.bags, a0, dSeq2, dIfS, dRet, dRetN, dVar, dC, dOp, dUn, dCons, dNil, dTup, dAsg, bindT, bindTs, itemsD, dIsi, isD, dAndV, dOrV, dNotV, dAnd, dOr, dNot, dTest, tru, dBl, dCall, dCB, dLen, dChain, dLe, dLt, dGe, dGt, dI2, dI2C, dIx, dNext, dDrop, dSet, dSetF, dSub, dMul, dAdd, dMod, dFdiv, dPow, dNeg, dIf, dIntC, dEqN, dEq, dNe, dIsN, dNew, dLst, dTupF, dLenF, dTupleC, dPar, startD, List.length_cons, List.length_nil, List.map_cons, List.map_nil, List.cons_append, List.nil_append, List.getElem?_cons_zero, List.getElem?_cons_succ, List.set_cons_zero, List.set_cons_succ, List.replicate_succ, List.replicate_zero, Nat.reduceAdd, Nat.reduceSub, true_and, wipeD, subT_tt, subT_ii, subT_ib, subT_ll, subT_lt, subT_il, subT_it, subT_tl, subT_is, if_true, if_false, Bool.false_eq_true, Bool.not_true, Bool.not_false]
  have q1 := ne B.self f
  have q2 := ne B.bags f
  have q3 := ne B.deeds f
  have w1 := ne B.self f1
  have w2 := ne B.bags f1
  have w3 := ne B.deeds f1
  have v1 := ne B.self f2
  have v2 := ne B.bags f2
  have v3 := ne B.deeds f2
  have m1 : Oid.nm p1 ≠ Oid.nm p := fun z => hp1 (by injection z with z; exact z.symm)
  have m2 : Oid.nm p2 ≠ Oid.nm p := fun z => hp2 (by injection z with z; exact z.symm)
  refine .inl ⟨p, f, _, n, b0, rfl, upd_same, ok, hb0, p1, p2, by rw [upd_ne m1]; exact f1, by rw [upd_ne m2]; exact f2, hp3, fun H1 C1 fr1 => ?_⟩
  simp only [dSeq2, dIfS, dRet, dRetN, dVar, dC, dOp, dUn, dCons, dNil, dTup, dAsg, bindT, bindTs, itemsD, dIsi, isD, dAndV, dOrV, dNotV, dAnd, dOr, dNot, dTest, tru, dBl, dCall, dCB, dLen, dChain, dLe, dLt, dGe, dGt, dI2, dI2C, dIx, dNext, dDrop, dSet, dSetF, dSub, dMul, dAdd, dMod, dFdiv, dPow, dNeg, dIf, dIntC, dEqN, dEq, dNe, dIsN, dNew, dLst, dTupF, dLenF, dTupleC, dPar, startD, List.length_cons, List.length_nil, List.map_cons, List.map_nil, List.cons_append, List.nil_append, List.getElem?_cons_zero, List.getElem?_cons_succ, List.set_cons_zero, List.set_cons_succ, List.replicate_succ, List.replicate_zero, Nat.reduceAdd, Nat.reduceSub, true_and, wipeD, subT_tt, subT_ii, subT_ib, subT_ll, subT_lt, subT_il, subT_it, subT_tl, subT_is, if_true, if_false, Bool.false_eq_true, Bool.not_true, Bool.not_false]
  have fr1' : ∀ j, j ≠ .nm p → j ≠ .nm p1 → j ≠ .nm p2 → H1 j = H j := fun j j0 j1 j2 => by rw [fr1 j j0 j1 j2, upd_ne j0]
  have mk : ∀ {H' : DH}, (∀ j, j ≠ .nm p → j ≠ .nm p1 → j ≠ .nm p2 → H' j = H j) → BoardAt H' i i1 i2 n bs ds := fun fr =>
    ⟨by rw [fr _ q1 w1 v1]; exact B.self, by rw [fr _ q2 w2 v2]; exact B.bags, by rw [fr _ q3 w3 v3]; exact B.deeds, B.ne⟩
  simp only [dFor, dSeq]
  refine fld2 (mk fr1') (fun Q h => h) ⟨⟨_, (mk fr1').deeds⟩, ds.length, fun k σ H' => ∃ y, σ = [some (.ref i), some (.ref (.nm p)), y] ∧ BoardAt H' (.nm p) (.nm p1) (.nm p2) n (bs.take (k + 1)) (ds.take k) ∧ ∀ j, j ≠ .nm p → j ≠ .nm p1 → j ≠ .nm p2 → H' j = H j, ?_, ?_, ?_⟩
  · refine ⟨_, rfl, ?_, fr1'⟩
    have e : bs.take 1 = [b0] := by rw [take_one e0]; rfl
    rw [e]
    exact C1
  · rintro k σ H' hk ⟨y, rfl, C, fr⟩
    obtain ⟨d, hd⟩ : ∃ d, ds[k]? = some d := ⟨_, List.getElem?_eq_getElem hk⟩
    obtain ⟨b, g1, g2, g3, g4, g5⟩ := hh.step ok k d hd
    refine ⟨natsD ds, .int (d : Int), _, by simp only [DIter.at, (mk fr).deeds], by simp [natsD], by rw [natsD, List.getElem?_map, hd]; rfl, rfl, ?_⟩
    simp only [t_Board_twin_b1, dMeth, dSeq2, dIfS, dRet, dRetN, dVar, dC, dOp, dUn, dCons, dNil, dTup, dAsg, bindT, bindTs, itemsD, dIsi, isD, dAndV, dOrV, dNotV, dAnd, dOr, dNot, dTest, tru, dBl, dCall, dCB, dLen, dChain, dLe, dLt, dGe, dGt, dI2, dI2C, dIx, dNext, dDrop, dSet, dSetF, dSub, dMul, dAdd, dMod, dFdiv, dPow, dNeg, dIf, dIntC, dEqN, dEq, dNe, dIsN, dNew, dLst, dTupF, dLenF, dTupleC, dPar, startD, List.length_cons, List.length_nil, List.map_cons, List.map_nil, List.cons_append, List.nil_append, List.getElem?_cons_zero, List.getElem?_cons_succ, List.set_cons_zero, List.set_cons_succ, List.replicate_succ, List.replicate_zero, Nat.reduceAdd, Nat.reduceSub, true_and, wipeD, subT_tt, subT_ii, subT_ib, subT_ll, subT_lt, subT_il, subT_it, subT_tl, subT_is, if_true, if_false, Bool.false_eq_true, Bool.not_true, Bool.not_false]
    rw [take_one g1] at C
    refine ⟨C.insn, _, _, _, n, bs.take k, b, ds.take k, d, rfl, C, ok, g2, g3, g4, by rw [List.length_take]; omega, by rw [List.length_take]; omega, fun H2 C2 fr2 => ⟨_, rfl, ?_, fun j j0 j1 j2 => by rw [fr2 j j1 j2, fr j j0 j1 j2]⟩⟩
    rw [take_one g5, take_one g1, take_one hd]
    exact C2
  · rintro σ H' ⟨y, rfl, C, fr⟩
    refine ⟨⟨natsD ds, by simp only [DIter.at, (mk fr).deeds], by simp [natsD]⟩, ?_⟩
    simp only [t_Board_twin_r0, dSeq2, dIfS, dRet, dRetN, dVar, dC, dOp, dUn, dCons, dNil, dTup, dAsg, bindT, bindTs, itemsD, dIsi, isD, dAndV, dOrV, dNotV, dAnd, dOr, dNot, dTest, tru, dBl, dCall, dCB, dLen, dChain, dLe, dLt, dGe, dGt, dI2, dI2C, dIx, dNext, dDrop, dSet, dSetF, dSub, dMul, dAdd, dMod, dFdiv, dPow, dNeg, dIf, dIntC, dEqN, dEq, dNe, dIsN, dNew, dLst, dTupF, dLenF, dTupleC, dPar, startD, List.length_cons, List.length_nil, List.map_cons, List.map_nil, List.cons_append, List.nil_append, List.getElem?_cons_zero, List.getElem?_cons_succ, List.set_cons_zero, List.set_cons_succ, List.replicate_succ, List.replicate_zero, Nat.reduceAdd, Nat.reduceSub, true_and, wipeD, subT_tt, subT_ii, subT_ib, subT_ll, subT_lt, subT_il, subT_it, subT_tl, subT_is, if_true, if_false, Bool.false_eq_true, Bool.not_true, Bool.not_false]
    rw [List.take_of_length_le (by omega), List.take_of_length_le (by omega)] at C
    exact q _ C fr
end K57

namespace K57
open PySem PySem.Spec
open PyProof.Rows DL
def kvW (ic : Oid) (nx dg sd ct : Int) : List (D × D) := [(.str "cells", .ref ic), (.str "next", .int nx), (.str "digits", .int dg), (.str "seed", .int sd), (.str "count", .int ct)]
section
variable {ic : Oid} {nx dg sd ct v : Int}
theorem kw_cells : dKat (kvW ic nx dg sd ct) (.str "cells") = some (.ref ic) := rfl
theorem kw_next : dKat (kvW ic nx dg sd ct) (.str "next") = some (.int nx) := rfl
theorem kw_digits : dKat (kvW ic nx dg sd ct) (.str "digits") = some (.int dg) := rfl
theorem kw_seed : dKat (kvW ic nx dg sd ct) (.str "seed") = some (.int sd) := rfl
theorem kw_count : dKat (kvW ic nx dg sd ct) (.str "count") = some (.int ct) := rfl
theorem pw_next : dKput (kvW ic nx dg sd ct) (.str "next") (.int v) = kvW ic v dg sd ct := rfl
theorem pw_digits : dKput (kvW ic nx dg sd ct) (.str "digits") (.int v) = kvW ic nx v sd ct := rfl
theorem pw_seed : dKput (kvW ic nx dg sd ct) (.str "seed") (.int v) = kvW ic nx dg v ct := rfl
theorem pw_count : dKput (kvW ic nx dg sd ct) (.str "count") (.int v) = kvW ic nx dg sd v := rfl
theorem kvW_len : (kvW ic nx dg sd ct).length < sizeLine := by simp [kvW, sizeLine]
end
structure WellX (H : DH) (i ic : Oid) (cells : List Int) (nx : Nat) (dg sd ct : Int) : Prop where
  self : H i = some (.dK (kvW ic nx dg sd ct))
  cls : H ic = some (.lst (cells.map D.int))
  len : cells.length ≤ 63
  le : nx ≤ cells.length
  pdg : 0 ≤ dg
  psd : 0 ≤ sd
  sd2 : sd < 2305843009213693951
theorem WellAt.x {H : DH} {i ic : Oid} (h : WellAt H i ic) : ∃ cells nx dg sd ct, WellX H i ic cells nx dg sd ct := by
  obtain ⟨cells, nx, dg, sd, ct, h1, h2, h3, h4, h5, h6, h7⟩ := h.ex
  exact ⟨cells, nx, dg, sd, ct, h1, h2, h3, h4, h5, h6, h7⟩
theorem WellX.at {H : DH} {i ic : Oid} {cells : List Int} {nx : Nat} {dg sd ct : Int} (h : WellX H i ic cells nx dg sd ct) : WellAt H i ic := ⟨cells, nx, dg, sd, ct, h.self, h.cls, h.len, h.le, h.pdg, h.psd, h.sd2⟩
theorem WellX.ne {H : DH} {i ic : Oid} {cells : List Int} {nx : Nat} {dg sd ct : Int} (h : WellX H i ic cells nx dg sd ct) : ic ≠ i := by rintro rfl; have := h.self; rw [h.cls] at this; cases this
theorem WellX.put {H : DH} {i ic : Oid} {cells : List Int} {nx : Nat} {dg sd ct : Int} (h : WellX H i ic cells nx dg sd ct) {nx' : Nat} {dg' sd' ct' : Int} (h1 : nx' ≤ cells.length) (h2 : 0 ≤ dg') (h3 : 0 ≤ sd') (h4 : sd' < 2305843009213693951) :
    WellX (upd H i (.dK (kvW ic nx' dg' sd' ct'))) i ic cells nx' dg' sd' ct' := ⟨upd_same, by rw [upd_ne h.ne]; exact h.cls, h.len, h1, h2, h3, h4⟩
theorem WellAt.frame {H H' : DH} {i ic : Oid} (h : WellAt H i ic) (e1 : H' i = H i) (e2 : H' ic = H ic) : WellAt H' i ic := by
  obtain ⟨cells, nx, dg, sd, ct, h1, h2, h3⟩ := h.ex
  exact ⟨cells, nx, dg, sd, ct, e1.trans h1, e2.trans h2, h3⟩
theorem mod_lt {a b : Int} (h : 0 < b) : 0 ≤ a % b ∧ a % b < b := ⟨Int.emod_nonneg _ (by omega), Int.emod_lt_of_pos _ h⟩
theorem p__law_well : Pok N__law_well 1 S__law_well t__law_well := by
  rintro as H Q W - ⟨ns, p, pc, rfl, hl, hp, f1, f2, q⟩
  have n1 : Oid.nm p ≠ .nm pc := fun z => hp (by injection z)
  simp only [t__law_well, N__law_well, dDisp, dPairs, dSeq2, dIfS, dRet, dRetN, dVar, dC, dOp, dUn, dCons, dNil, dTup, dAsg, bindT, bindTs, itemsD, dIsi, isD, dAndV, dOrV, dNotV, dAnd, dOr, dNot, dTest, tru, dBl, dCall, dCB, dLen, dChain, dLe, dLt, dGe, dGt, dI2, dI2C, dIx, dNext, dDrop, dSet, dSetF, dSub, dMul, dAdd, dMod, dFdiv, dPow, dNeg, dIf, dIntC, dEqN, dEq, dNe, dIsN, dNew, dLst, dTupF, dLenF, dTupleC, dPar, startD, List.length_cons, List.length_nil, List.map_cons, List.map_nil, List.cons_append, List.nil_append, List.getElem?_cons_zero, List.getElem?_cons_succ, List.set_cons_zero, List.set_cons_succ, List.replicate_succ, List.replicate_zero, Nat.reduceAdd, Nat.reduceSub, true_and, wipeD, subT_tt, subT_ii, subT_ib, subT_ll, subT_lt, subT_il, subT_it, subT_tl, subT_is, if_true, if_false, Bool.false_eq_true, Bool.not_true, Bool.not_false]
  refine lc_map (xs := ns.map D.int) (fun j => .int (ns.getD j 0)) (fun R h => h) (by rw [List.length_map]; omega) (fun j x hx => ⟨_, rfl, fun R r => ?_⟩) ?_
  · obtain ⟨a, ha, rfl⟩ := map_at hx
    simp only [dSeq2, dIfS, dRet, dRetN, dVar, dC, dOp, dUn, dCons, dNil, dTup, dAsg, bindT, bindTs, itemsD, dIsi, isD, dAndV, dOrV, dNotV, dAnd, dOr, dNot, dTest, tru, dBl, dCall, dCB, dLen, dChain, dLe, dLt, dGe, dGt, dI2, dI2C, dIx, dNext, dDrop, dSet, dSetF, dSub, dMul, dAdd, dMod, dFdiv, dPow, dNeg, dIf, dIntC, dEqN, dEq, dNe, dIsN, dNew, dLst, dTupF, dLenF, dTupleC, dPar, startD, List.length_cons, List.length_nil, List.map_cons, List.map_nil, List.cons_append, List.nil_append, List.getElem?_cons_zero, List.getElem?_cons_succ, List.set_cons_zero, List.set_cons_succ, List.replicate_succ, List.replicate_zero, Nat.reduceAdd, Nat.reduceSub, true_and, wipeD, subT_tt, subT_ii, subT_ib, subT_ll, subT_lt, subT_il, subT_it, subT_tl, subT_is, if_true, if_false, Bool.false_eq_true, Bool.not_true, Bool.not_false]
    rw [List.getD_eq_getElem?_getD, ha] at r
    exact r
  · have e : (List.range (ns.map D.int).length).map (fun j => D.int (ns.getD j 0)) = ns.map D.int := by
      apply List.ext_getElem
      · simp
      · intro k h1 h2
        have h3 : k < ns.length := by simpa using h2
        simp [List.getD_eq_getElem?_getD, h3]
    rw [e]
    refine .inl ⟨pc, f2, ?_, ?_, .inl ⟨p, by rw [upd_ne n1]; exact f1, ?_⟩⟩
    · intro p hp; simp only [List.mem_cons, List.not_mem_nil, or_false] at hp
      rcases hp with rfl | rfl | rfl | rfl | rfl <;> exact fun z => by cases z
    · decide
    · exact q _ ⟨ns, 0, 0, 1709, 0, upd_same, by rw [upd_ne n1.symm, upd_same], hl, Nat.zero_le _, by omega, by omega, by omega⟩ fun j j1 j2 => by rw [upd_ne j1, upd_ne j2]
theorem p__law_draw : Pok N__law_draw 2 S__law_draw t__law_draw := by
  rintro as H Q W - ⟨i, ic, many, rfl, B, m0, m1, q⟩
  obtain ⟨cells, nx0, dg, sd, ct, B⟩ := B.x
  have key : ∀ (k : String), keyD (.str k) ≠ none := fun k z => by cases z
  have rest : ∀ (σ : DSt) (H' : DH) (a b c d : Option D) (nx : Nat) (dg sd ct : Int), σ = [some (.ref i), some (.int (many : Int)), a, b, c, d] → WellX H' i ic cells nx dg sd ct → (∀ j, j ≠ i → H' j = H j) → t__law_draw_r0 W { nx := fun _ H' => Q .non H', rt := Q } σ H' := by
    rintro σ H' a b c d nx dg sd ct rfl B fr
    simp only [t__law_draw_r0, dSubS, dAugS, dSetI, dGet, dSeq2, dIfS, dRet, dRetN, dVar, dC, dOp, dUn, dCons, dNil, dTup, dAsg, bindT, bindTs, itemsD, dIsi, isD, dAndV, dOrV, dNotV, dAnd, dOr, dNot, dTest, tru, dBl, dCall, dCB, dLen, dChain, dLe, dLt, dGe, dGt, dI2, dI2C, dIx, dNext, dDrop, dSet, dSetF, dSub, dMul, dAdd, dMod, dFdiv, dPow, dNeg, dIf, dIntC, dEqN, dEq, dNe, dIsN, dNew, dLst, dTupF, dLenF, dTupleC, dPar, startD, List.length_cons, List.length_nil, List.map_cons, List.map_nil, List.cons_append, List.nil_append, List.getElem?_cons_zero, List.getElem?_cons_succ, List.set_cons_zero, List.set_cons_succ, List.replicate_succ, List.replicate_zero, Nat.reduceAdd, Nat.reduceSub, true_and, wipeD, subT_tt, subT_ii, subT_ib, subT_ll, subT_lt, subT_il, subT_it, subT_tl, subT_is, if_true, if_false, Bool.false_eq_true, Bool.not_true, Bool.not_false]
    simp only [B.self, kw_digits, keyD, ne_eq, reduceCtorEq, not_false_eq_true, dSeq2, dIfS, dRet, dRetN, dVar, dC, dOp, dUn, dCons, dNil, dTup, dAsg, bindT, bindTs, itemsD, dIsi, isD, dAndV, dOrV, dNotV, dAnd, dOr, dNot, dTest, tru, dBl, dCall, dCB, dLen, dChain, dLe, dLt, dGe, dGt, dI2, dI2C, dIx, dNext, dDrop, dSet, dSetF, dSub, dMul, dAdd, dMod, dFdiv, dPow, dNeg, dIf, dIntC, dEqN, dEq, dNe, dIsN, dNew, dLst, dTupF, dLenF, dTupleC, dPar, startD, List.length_cons, List.length_nil, List.map_cons, List.map_nil, List.cons_append, List.nil_append, List.getElem?_cons_zero, List.getElem?_cons_succ, List.set_cons_zero, List.set_cons_succ, List.replicate_succ, List.replicate_zero, Nat.reduceAdd, Nat.reduceSub, true_and, wipeD, subT_tt, subT_ii, subT_ib, subT_ll, subT_lt, subT_il, subT_it, subT_tl, subT_is, if_true, if_false, Bool.false_eq_true, Bool.not_true, Bool.not_false]
    by_cases hd : 0 < dg
    · simp only [decide_eq_true hd, B.self, kw_digits, pw_digits, keyD, ne_eq, reduceCtorEq, not_false_eq_true, kvW_len, dSeq2, dIfS, dRet, dRetN, dVar, dC, dOp, dUn, dCons, dNil, dTup, dAsg, bindT, bindTs, itemsD, dIsi, isD, dAndV, dOrV, dNotV, dAnd, dOr, dNot, dTest, tru, dBl, dCall, dCB, dLen, dChain, dLe, dLt, dGe, dGt, dI2, dI2C, dIx, dNext, dDrop, dSet, dSetF, dSub, dMul, dAdd, dMod, dFdiv, dPow, dNeg, dIf, dIntC, dEqN, dEq, dNe, dIsN, dNew, dLst, dTupF, dLenF, dTupleC, dPar, startD, List.length_cons, List.length_nil, List.map_cons, List.map_nil, List.cons_append, List.nil_append, List.getElem?_cons_zero, List.getElem?_cons_succ, List.set_cons_zero, List.set_cons_succ, List.replicate_succ, List.replicate_zero, Nat.reduceAdd, Nat.reduceSub, true_and, wipeD, subT_tt, subT_ii, subT_ib, subT_ll, subT_lt, subT_il, subT_it, subT_tl, subT_is, if_true, if_false, Bool.false_eq_true, Bool.not_true, Bool.not_false]
      obtain ⟨g1, g2⟩ := mod_lt (a := dg) (b := (many : Int)) (by omega)
      refine ⟨by omega, ⟨by omega, by omega⟩, ?_⟩
      obtain ⟨r, hr⟩ := Int.eq_ofNat_of_zero_le g1
      rw [hr]
      exact q r _ (by omega) (B.put B.le (Int.ediv_nonneg B.pdg (by omega)) B.psd B.sd2).at fun j hj => by rw [upd_ne hj]; exact fr j hj
    · simp only [decide_eq_false hd, B.self, kw_count, pw_count, keyD, ne_eq, reduceCtorEq, not_false_eq_true, kvW_len, dSeq2, dIfS, dRet, dRetN, dVar, dC, dOp, dUn, dCons, dNil, dTup, dAsg, bindT, bindTs, itemsD, dIsi, isD, dAndV, dOrV, dNotV, dAnd, dOr, dNot, dTest, tru, dBl, dCall, dCB, dLen, dChain, dLe, dLt, dGe, dGt, dI2, dI2C, dIx, dNext, dDrop, dSet, dSetF, dSub, dMul, dAdd, dMod, dFdiv, dPow, dNeg, dIf, dIntC, dEqN, dEq, dNe, dIsN, dNew, dLst, dTupF, dLenF, dTupleC, dPar, startD, List.length_cons, List.length_nil, List.map_cons, List.map_nil, List.cons_append, List.nil_append, List.getElem?_cons_zero, List.getElem?_cons_succ, List.set_cons_zero, List.set_cons_succ, List.replicate_succ, List.replicate_zero, Nat.reduceAdd, Nat.reduceSub, true_and, wipeD, subT_tt, subT_ii, subT_ib, subT_ll, subT_lt, subT_il, subT_it, subT_tl, subT_is, if_true, if_false, Bool.false_eq_true, Bool.not_true, Bool.not_false]
      have B1 := B.put (ct' := ct + 1) B.le B.pdg B.psd B.sd2
      simp only [B1.self, kw_seed, kw_count, pw_seed, keyD, ne_eq, reduceCtorEq, not_false_eq_true, kvW_len, dSeq2, dIfS, dRet, dRetN, dVar, dC, dOp, dUn, dCons, dNil, dTup, dAsg, bindT, bindTs, itemsD, dIsi, isD, dAndV, dOrV, dNotV, dAnd, dOr, dNot, dTest, tru, dBl, dCall, dCB, dLen, dChain, dLe, dLt, dGe, dGt, dI2, dI2C, dIx, dNext, dDrop, dSet, dSetF, dSub, dMul, dAdd, dMod, dFdiv, dPow, dNeg, dIf, dIntC, dEqN, dEq, dNe, dIsN, dNew, dLst, dTupF, dLenF, dTupleC, dPar, startD, List.length_cons, List.length_nil, List.map_cons, List.map_nil, List.cons_append, List.nil_append, List.getElem?_cons_zero, List.getElem?_cons_succ, List.set_cons_zero, List.set_cons_succ, List.replicate_succ, List.replicate_zero, Nat.reduceAdd, Nat.reduceSub, true_and, wipeD, subT_tt, subT_ii, subT_ib, subT_ll, subT_lt, subT_il, subT_it, subT_tl, subT_is, if_true, if_false, Bool.false_eq_true, Bool.not_true, Bool.not_false]
      refine ⟨.inr ⟨by omega, by omega⟩, .inl ⟨by omega, by omega⟩, by omega, ?_⟩
      obtain ⟨g1, g2⟩ := mod_lt (a := sd * 6364136223846793 + 1442695040888963 * (ct + 1) + 11) (b := 2305843009213693951) (by omega)
      have B2 := B1.put (ct' := ct + 1) (sd' := (sd * 6364136223846793 + 1442695040888963 * (ct + 1) + 11) % 2305843009213693951) B1.le B1.pdg g1 g2
      simp only [B2.self, kw_seed, keyD, ne_eq, reduceCtorEq, not_false_eq_true, dSeq2, dIfS, dRet, dRetN, dVar, dC, dOp, dUn, dCons, dNil, dTup, dAsg, bindT, bindTs, itemsD, dIsi, isD, dAndV, dOrV, dNotV, dAnd, dOr, dNot, dTest, tru, dBl, dCall, dCB, dLen, dChain, dLe, dLt, dGe, dGt, dI2, dI2C, dIx, dNext, dDrop, dSet, dSetF, dSub, dMul, dAdd, dMod, dFdiv, dPow, dNeg, dIf, dIntC, dEqN, dEq, dNe, dIsN, dNew, dLst, dTupF, dLenF, dTupleC, dPar, startD, List.length_cons, List.length_nil, List.map_cons, List.map_nil, List.cons_append, List.nil_append, List.getElem?_cons_zero, List.getElem?_cons_succ, List.set_cons_zero, List.set_cons_succ, List.replicate_succ, List.replicate_zero, Nat.reduceAdd, Nat.reduceSub, true_and, wipeD, subT_tt, subT_ii, subT_ib, subT_ll, subT_lt, subT_il, subT_it, subT_tl, subT_is, if_true, if_false, Bool.false_eq_true, Bool.not_true, Bool.not_false]
      generalize (sd * 6364136223846793 + 1442695040888963 * (ct + 1) + 11) % 2305843009213693951 = sd2 at *
      refine ⟨.inl ⟨by omega, by omega⟩, ⟨by omega, by omega⟩, ⟨by omega, by omega⟩, by omega, ⟨by omega, by omega⟩, by omega, ?_⟩
      generalize (sd2 * sd2 / 1000003 + sd2 / 17) % 9007199254740881 / 13 = y
      obtain ⟨g1, g2⟩ := mod_lt (a := y) (b := (many : Int)) (by omega)
      obtain ⟨r, hr⟩ := Int.eq_ofNat_of_zero_le g1
      rw [hr]
      exact q r _ (by omega) B2.at fun j hj => by rw [upd_ne hj, upd_ne hj]; exact fr j hj
  have le := B.le
  have len := B.len
  simp only [t__law_draw, N__law_draw, dFor, dRng1, dSeq2, dIfS, dRet, dRetN, dVar, dC, dOp, dUn, dCons, dNil, dTup, dAsg, bindT, bindTs, itemsD, dIsi, isD, dAndV, dOrV, dNotV, dAnd, dOr, dNot, dTest, tru, dBl, dCall, dCB, dLen, dChain, dLe, dLt, dGe, dGt, dI2, dI2C, dIx, dNext, dDrop, dSet, dSetF, dSub, dMul, dAdd, dMod, dFdiv, dPow, dNeg, dIf, dIntC, dEqN, dEq, dNe, dIsN, dNew, dLst, dTupF, dLenF, dTupleC, dPar, startD, List.length_cons, List.length_nil, List.map_cons, List.map_nil, List.cons_append, List.nil_append, List.getElem?_cons_zero, List.getElem?_cons_succ, List.set_cons_zero, List.set_cons_succ, List.replicate_succ, List.replicate_zero, Nat.reduceAdd, Nat.reduceSub, true_and, wipeD, subT_tt, subT_ii, subT_ib, subT_ll, subT_lt, subT_il, subT_it, subT_tl, subT_is, if_true, if_false, Bool.false_eq_true, Bool.not_true, Bool.not_false]
  simp only [B.self, B.cls, kw_cells, kw_next, keyD, ne_eq, reduceCtorEq, not_false_eq_true, List.length_map, dSeq2, dIfS, dRet, dRetN, dVar, dC, dOp, dUn, dCons, dNil, dTup, dAsg, bindT, bindTs, itemsD, dIsi, isD, dAndV, dOrV, dNotV, dAnd, dOr, dNot, dTest, tru, dBl, dCall, dCB, dLen, dChain, dLe, dLt, dGe, dGt, dI2, dI2C, dIx, dNext, dDrop, dSet, dSetF, dSub, dMul, dAdd, dMod, dFdiv, dPow, dNeg, dIf, dIntC, dEqN, dEq, dNe, dIsN, dNew, dLst, dTupF, dLenF, dTupleC, dPar, startD, List.length_cons, List.length_nil, List.map_cons, List.map_nil, List.cons_append, List.nil_append, List.getElem?_cons_zero, List.getElem?_cons_succ, List.set_cons_zero, List.set_cons_succ, List.replicate_succ, List.replicate_zero, Nat.reduceAdd, Nat.reduceSub, true_and, wipeD, subT_tt, subT_ii, subT_ib, subT_ll, subT_lt, subT_il, subT_it, subT_tl, subT_is, if_true, if_false, Bool.false_eq_true, Bool.not_true, Bool.not_false]
  refine ⟨⟨by omega, by omega⟩, cells.length - nx0, fun k σ H' => ∃ a b c d dg sd ct, σ = [some (.ref i), some (.int (many : Int)), a, b, c, d] ∧ WellX H' i ic cells (nx0 + k) dg sd ct ∧ (∀ j, j ≠ i → H' j = H j), ⟨_, _, _, _, dg, sd, ct, rfl, B, fun _ _ => rfl⟩, ?_, ?_⟩
  · rintro k σ H' hk ⟨a, b, c, d, dg, sd, ct, rfl, B, fr⟩
    refine ⟨rangeD 0 ((cells.length : Int) - (nx0 : Int)).toNat, .int (0 + (k : Int)), _, rfl, by rw [range_len]; omega, by rw [rangeD, List.getElem?_map, List.getElem?_range (by omega)]; rfl, rfl, ?_⟩
    simp only [t__law_draw_b1, dSubS, dAugS, dSetI, dGet, dBrk, dSeq2, dIfS, dRet, dRetN, dVar, dC, dOp, dUn, dCons, dNil, dTup, dAsg, bindT, bindTs, itemsD, dIsi, isD, dAndV, dOrV, dNotV, dAnd, dOr, dNot, dTest, tru, dBl, dCall, dCB, dLen, dChain, dLe, dLt, dGe, dGt, dI2, dI2C, dIx, dNext, dDrop, dSet, dSetF, dSub, dMul, dAdd, dMod, dFdiv, dPow, dNeg, dIf, dIntC, dEqN, dEq, dNe, dIsN, dNew, dLst, dTupF, dLenF, dTupleC, dPar, startD, List.length_cons, List.length_nil, List.map_cons, List.map_nil, List.cons_append, List.nil_append, List.getElem?_cons_zero, List.getElem?_cons_succ, List.set_cons_zero, List.set_cons_succ, List.replicate_succ, List.replicate_zero, Nat.reduceAdd, Nat.reduceSub, true_and, wipeD, subT_tt, subT_ii, subT_ib, subT_ll, subT_lt, subT_il, subT_it, subT_tl, subT_is, if_true, if_false, Bool.false_eq_true, Bool.not_true, Bool.not_false]
    simp only [B.self, kw_digits, keyD, ne_eq, reduceCtorEq, not_false_eq_true, dSeq2, dIfS, dRet, dRetN, dVar, dC, dOp, dUn, dCons, dNil, dTup, dAsg, bindT, bindTs, itemsD, dIsi, isD, dAndV, dOrV, dNotV, dAnd, dOr, dNot, dTest, tru, dBl, dCall, dCB, dLen, dChain, dLe, dLt, dGe, dGt, dI2, dI2C, dIx, dNext, dDrop, dSet, dSetF, dSub, dMul, dAdd, dMod, dFdiv, dPow, dNeg, dIf, dIntC, dEqN, dEq, dNe, dIsN, dNew, dLst, dTupF, dLenF, dTupleC, dPar, startD, List.length_cons, List.length_nil, List.map_cons, List.map_nil, List.cons_append, List.nil_append, List.getElem?_cons_zero, List.getElem?_cons_succ, List.set_cons_zero, List.set_cons_succ, List.replicate_succ, List.replicate_zero, Nat.reduceAdd, Nat.reduceSub, true_and, wipeD, subT_tt, subT_ii, subT_ib, subT_ll, subT_lt, subT_il, subT_it, subT_tl, subT_is, if_true, if_false, Bool.false_eq_true, Bool.not_true, Bool.not_false]
    by_cases hd : 0 < dg
    · simp only [decide_eq_true hd, dSeq2, dIfS, dRet, dRetN, dVar, dC, dOp, dUn, dCons, dNil, dTup, dAsg, bindT, bindTs, itemsD, dIsi, isD, dAndV, dOrV, dNotV, dAnd, dOr, dNot, dTest, tru, dBl, dCall, dCB, dLen, dChain, dLe, dLt, dGe, dGt, dI2, dI2C, dIx, dNext, dDrop, dSet, dSetF, dSub, dMul, dAdd, dMod, dFdiv, dPow, dNeg, dIf, dIntC, dEqN, dEq, dNe, dIsN, dNew, dLst, dTupF, dLenF, dTupleC, dPar, startD, List.length_cons, List.length_nil, List.map_cons, List.map_nil, List.cons_append, List.nil_append, List.getElem?_cons_zero, List.getElem?_cons_succ, List.set_cons_zero, List.set_cons_succ, List.replicate_succ, List.replicate_zero, Nat.reduceAdd, Nat.reduceSub, true_and, wipeD, subT_tt, subT_ii, subT_ib, subT_ll, subT_lt, subT_il, subT_it, subT_tl, subT_is, if_true, if_false, Bool.false_eq_true, Bool.not_true, Bool.not_false]
      exact rest _ _ _ _ _ _ _ _ _ _ rfl B fr
    · have e := bag_at (b := cells) (j := nx0 + k) (by omega)
      simp only [decide_eq_false hd, B.self, B.cls, kw_cells, kw_next, pw_next, e, keyD, ne_eq, reduceCtorEq, not_false_eq_true, kvW_len, dSeq2, dIfS, dRet, dRetN, dVar, dC, dOp, dUn, dCons, dNil, dTup, dAsg, bindT, bindTs, itemsD, dIsi, isD, dAndV, dOrV, dNotV, dAnd, dOr, dNot, dTest, tru, dBl, dCall, dCB, dLen, dChain, dLe, dLt, dGe, dGt, dI2, dI2C, dIx, dNext, dDrop, dSet, dSetF, dSub, dMul, dAdd, dMod, dFdiv, dPow, dNeg, dIf, dIntC, dEqN, dEq, dNe, dIsN, dNew, dLst, dTupF, dLenF, dTupleC, dPar, startD, List.length_cons, List.length_nil, List.map_cons, List.map_nil, List.cons_append, List.nil_append, List.getElem?_cons_zero, List.getElem?_cons_succ, List.set_cons_zero, List.set_cons_succ, List.replicate_succ, List.replicate_zero, Nat.reduceAdd, Nat.reduceSub, true_and, wipeD, subT_tt, subT_ii, subT_ib, subT_ll, subT_lt, subT_il, subT_it, subT_tl, subT_is, if_true, if_false, Bool.false_eq_true, Bool.not_true, Bool.not_false]
      have en : ((nx0 + k : Nat) : Int) + 1 = ((nx0 + (k + 1) : Nat) : Int) := by omega
      rw [en]
      have B1 := B.put (nx' := nx0 + (k + 1)) (ct' := ct) (by omega) B.pdg B.psd B.sd2
      generalize cells.getD (nx0 + k) 0 = cl
      simp only [L2.CPow, B1.self, kw_seed, pw_seed, pw_digits, keyD, ne_eq, reduceCtorEq, not_false_eq_true, kvW_len, dSeq2, dIfS, dRet, dRetN, dVar, dC, dOp, dUn, dCons, dNil, dTup, dAsg, bindT, bindTs, itemsD, dIsi, isD, dAndV, dOrV, dNotV, dAnd, dOr, dNot, dTest, tru, dBl, dCall, dCB, dLen, dChain, dLe, dLt, dGe, dGt, dI2, dI2C, dIx, dNext, dDrop, dSet, dSetF, dSub, dMul, dAdd, dMod, dFdiv, dPow, dNeg, dIf, dIntC, dEqN, dEq, dNe, dIsN, dNew, dLst, dTupF, dLenF, dTupleC, dPar, startD, List.length_cons, List.length_nil, List.map_cons, List.map_nil, List.cons_append, List.nil_append, List.getElem?_cons_zero, List.getElem?_cons_succ, List.set_cons_zero, List.set_cons_succ, List.replicate_succ, List.replicate_zero, Nat.reduceAdd, Nat.reduceSub, true_and, wipeD, subT_tt, subT_ii, subT_ib, subT_ll, subT_lt, subT_il, subT_it, subT_tl, subT_is, if_true, if_false, Bool.false_eq_true, Bool.not_true, Bool.not_false]
      refine ⟨⟨by omega, by omega, by omega⟩, ?_⟩
      have e18 : (10 : Int) ^ (18 : Int).toNat = 1000000000000000000 := by decide
      rw [e18]
      by_cases hc : 1000000000000000000 ≤ cl
      · simp only [decide_eq_true hc, L2.CPow, e18, B1.self, kw_seed, pw_seed, pw_digits, keyD, ne_eq, reduceCtorEq, not_false_eq_true, kvW_len, dSeq2, dIfS, dRet, dRetN, dVar, dC, dOp, dUn, dCons, dNil, dTup, dAsg, bindT, bindTs, itemsD, dIsi, isD, dAndV, dOrV, dNotV, dAnd, dOr, dNot, dTest, tru, dBl, dCall, dCB, dLen, dChain, dLe, dLt, dGe, dGt, dI2, dI2C, dIx, dNext, dDrop, dSet, dSetF, dSub, dMul, dAdd, dMod, dFdiv, dPow, dNeg, dIf, dIntC, dEqN, dEq, dNe, dIsN, dNew, dLst, dTupF, dLenF, dTupleC, dPar, startD, List.length_cons, List.length_nil, List.map_cons, List.map_nil, List.cons_append, List.nil_append, List.getElem?_cons_zero, List.getElem?_cons_succ, List.set_cons_zero, List.set_cons_succ, List.replicate_succ, List.replicate_zero, Nat.reduceAdd, Nat.reduceSub, true_and, wipeD, subT_tt, subT_ii, subT_ib, subT_ll, subT_lt, subT_il, subT_it, subT_tl, subT_is, if_true, if_false, Bool.false_eq_true, Bool.not_true, Bool.not_false]
        refine ⟨⟨by omega, by omega, by omega⟩, ?_⟩
        exact ⟨_, _, _, _, _, _, _, rfl, B1.put B1.le (by omega) B1.psd B1.sd2, fun j hj => by rw [upd_ne hj, upd_ne hj]; exact fr j hj⟩
      · simp only [decide_eq_false hc, B1.self, kw_seed, pw_seed, pw_digits, keyD, ne_eq, reduceCtorEq, not_false_eq_true, kvW_len, dSeq2, dIfS, dRet, dRetN, dVar, dC, dOp, dUn, dCons, dNil, dTup, dAsg, bindT, bindTs, itemsD, dIsi, isD, dAndV, dOrV, dNotV, dAnd, dOr, dNot, dTest, tru, dBl, dCall, dCB, dLen, dChain, dLe, dLt, dGe, dGt, dI2, dI2C, dIx, dNext, dDrop, dSet, dSetF, dSub, dMul, dAdd, dMod, dFdiv, dPow, dNeg, dIf, dIntC, dEqN, dEq, dNe, dIsN, dNew, dLst, dTupF, dLenF, dTupleC, dPar, startD, List.length_cons, List.length_nil, List.map_cons, List.map_nil, List.cons_append, List.nil_append, List.getElem?_cons_zero, List.getElem?_cons_succ, List.set_cons_zero, List.set_cons_succ, List.replicate_succ, List.replicate_zero, Nat.reduceAdd, Nat.reduceSub, true_and, wipeD, subT_tt, subT_ii, subT_ib, subT_ll, subT_lt, subT_il, subT_it, subT_tl, subT_is, if_true, if_false, Bool.false_eq_true, Bool.not_true, Bool.not_false]
        obtain ⟨g1, g2⟩ := mod_lt (a := sd * 1009 + cl * 31 + 7) (b := 2305843009213693951) (by omega)
        refine ⟨.inr ⟨by omega, by omega⟩, .inr ⟨by omega, by omega⟩, by omega, ?_⟩
        exact ⟨_, _, _, _, _, _, _, rfl, B1.put B1.le B1.pdg g1 g2, fun j hj => by rw [upd_ne hj, upd_ne hj]; exact fr j hj⟩
  · rintro σ H' ⟨a, b, c, d, dg, sd, ct, rfl, B, fr⟩
    exact ⟨⟨_, rfl, by rw [range_len]; omega⟩, rest _ _ _ _ _ _ _ _ _ _ rfl B fr⟩
end K57

namespace K57
open PySem PySem.Spec
open PyProof.Rows DL
theorem all_bls (n : Nat) : (List.range n).map (fun _ => D.bl true) = (List.replicate n true).map D.bl := by
  rw [List.map_replicate, List.map_const']
  simp
theorem all_rep (n : Nat) : (List.replicate n true).all id = true := by simp
theorem p__law_like (d : Nat) : Pok N__law_like 2 (S__law_like (d + 1)) (t__law_like (S__law_like d)) := by
  rintro as H Q W - ⟨x, y, rfl, h, q⟩
  have hint : ∀ i : Int, x = .int i → y = .int i → t__law_like (S__law_like d) W { nx := fun _ H' => Q .non H', rt := Q } (startD N__law_like [x, y]) H := by
    rintro i rfl rfl
    simp only [t__law_like, N__law_like, dSeq2, dIfS, dRet, dRetN, dVar, dC, dOp, dUn, dCons, dNil, dTup, dAsg, bindT, bindTs, itemsD, dIsi, isD, dAndV, dOrV, dNotV, dAnd, dOr, dNot, dTest, tru, dBl, dCall, dCB, dLen, dChain, dLe, dLt, dGe, dGt, dI2, dI2C, dIx, dNext, dDrop, dSet, dSetF, dSub, dMul, dAdd, dMod, dFdiv, dPow, dNeg, dIf, dIntC, dEqN, dEq, dNe, dIsN, dNew, dLst, dTupF, dLenF, dTupleC, dPar, startD, List.length_cons, List.length_nil, List.map_cons, List.map_nil, List.cons_append, List.nil_append, List.getElem?_cons_zero, List.getElem?_cons_succ, List.set_cons_zero, List.set_cons_succ, List.replicate_succ, List.replicate_zero, Nat.reduceAdd, Nat.reduceSub, true_and, wipeD, subT_tt, subT_ii, subT_ib, subT_ll, subT_lt, subT_il, subT_it, subT_tl, subT_is, if_true, if_false, Bool.false_eq_true, Bool.not_true, Bool.not_false]
    simp only [decide_true, Bool.false_xor]
    exact q
  cases d with
  | zero => obtain ⟨i, h1, h2⟩ := h; exact hint i h1 h2
  | succ d =>
    rcases h with ⟨i, h1, h2⟩ | ⟨xs, ys, rfl, rfl, hl, hz, hs⟩ | ⟨i, j, xs, ys, rfl, rfl, h1, h2, hl, hz, hs⟩
    · exact hint i h1 h2
    · simp only [t__law_like, N__law_like, dSeq2, dIfS, dRet, dRetN, dVar, dC, dOp, dUn, dCons, dNil, dTup, dAsg, bindT, bindTs, itemsD, dIsi, isD, dAndV, dOrV, dNotV, dAnd, dOr, dNot, dTest, tru, dBl, dCall, dCB, dLen, dChain, dLe, dLt, dGe, dGt, dI2, dI2C, dIx, dNext, dDrop, dSet, dSetF, dSub, dMul, dAdd, dMod, dFdiv, dPow, dNeg, dIf, dIntC, dEqN, dEq, dNe, dIsN, dNew, dLst, dTupF, dLenF, dTupleC, dPar, startD, List.length_cons, List.length_nil, List.map_cons, List.map_nil, List.cons_append, List.nil_append, List.getElem?_cons_zero, List.getElem?_cons_succ, List.set_cons_zero, List.set_cons_succ, List.replicate_succ, List.replicate_zero, Nat.reduceAdd, Nat.reduceSub, true_and, wipeD, subT_tt, subT_ii, subT_ib, subT_ll, subT_lt, subT_il, subT_it, subT_tl, subT_is, if_true, if_false, Bool.false_eq_true, Bool.not_true, Bool.not_false]
      simp only [hl, decide_true, Bool.false_xor, dSeq2, dIfS, dRet, dRetN, dVar, dC, dOp, dUn, dCons, dNil, dTup, dAsg, bindT, bindTs, itemsD, dIsi, isD, dAndV, dOrV, dNotV, dAnd, dOr, dNot, dTest, tru, dBl, dCall, dCB, dLen, dChain, dLe, dLt, dGe, dGt, dI2, dI2C, dIx, dNext, dDrop, dSet, dSetF, dSub, dMul, dAdd, dMod, dFdiv, dPow, dNeg, dIf, dIntC, dEqN, dEq, dNe, dIsN, dNew, dLst, dTupF, dLenF, dTupleC, dPar, startD, List.length_cons, List.length_nil, List.map_cons, List.map_nil, List.cons_append, List.nil_append, List.getElem?_cons_zero, List.getElem?_cons_succ, List.set_cons_zero, List.set_cons_succ, List.replicate_succ, List.replicate_zero, Nat.reduceAdd, Nat.reduceSub, true_and, wipeD, subT_tt, subT_ii, subT_ib, subT_ll, subT_lt, subT_il, subT_it, subT_tl, subT_is, if_true, if_false, Bool.false_eq_true, Bool.not_true, Bool.not_false]
      refine lc_map (xs := rangeD 0 ys.length) (fun _ => .bl true) (fun R h => ?_) (by rw [range_len]; omega) (fun k x hx => ⟨_, rfl, fun R r => ?_⟩) ?_
      · simp only [dRng1, dSeq2, dIfS, dRet, dRetN, dVar, dC, dOp, dUn, dCons, dNil, dTup, dAsg, bindT, bindTs, itemsD, dIsi, isD, dAndV, dOrV, dNotV, dAnd, dOr, dNot, dTest, tru, dBl, dCall, dCB, dLen, dChain, dLe, dLt, dGe, dGt, dI2, dI2C, dIx, dNext, dDrop, dSet, dSetF, dSub, dMul, dAdd, dMod, dFdiv, dPow, dNeg, dIf, dIntC, dEqN, dEq, dNe, dIsN, dNew, dLst, dTupF, dLenF, dTupleC, dPar, startD, List.length_cons, List.length_nil, List.map_cons, List.map_nil, List.cons_append, List.nil_append, List.getElem?_cons_zero, List.getElem?_cons_succ, List.set_cons_zero, List.set_cons_succ, List.replicate_succ, List.replicate_zero, Nat.reduceAdd, Nat.reduceSub, true_and, wipeD, subT_tt, subT_ii, subT_ib, subT_ll, subT_lt, subT_il, subT_it, subT_tl, subT_is, if_true, if_false, Bool.false_eq_true, Bool.not_true, Bool.not_false]
        exact ⟨⟨by omega, by omega⟩, by simpa using h⟩
      · obtain ⟨hk, rfl⟩ := range_at hx
        have e1 : L2.atI xs (0 + (k : Int)) = some xs[k] := by rw [Int.zero_add]; exact atI_nat (by omega)
        have e2 : L2.atI ys (0 + (k : Int)) = some ys[k] := by rw [Int.zero_add]; exact atI_nat hk
        simp only [e1, e2, dSeq2, dIfS, dRet, dRetN, dVar, dC, dOp, dUn, dCons, dNil, dTup, dAsg, bindT, bindTs, itemsD, dIsi, isD, dAndV, dOrV, dNotV, dAnd, dOr, dNot, dTest, tru, dBl, dCall, dCB, dLen, dChain, dLe, dLt, dGe, dGt, dI2, dI2C, dIx, dNext, dDrop, dSet, dSetF, dSub, dMul, dAdd, dMod, dFdiv, dPow, dNeg, dIf, dIntC, dEqN, dEq, dNe, dIsN, dNew, dLst, dTupF, dLenF, dTupleC, dPar, startD, List.length_cons, List.length_nil, List.map_cons, List.map_nil, List.cons_append, List.nil_append, List.getElem?_cons_zero, List.getElem?_cons_succ, List.set_cons_zero, List.set_cons_succ, List.replicate_succ, List.replicate_zero, Nat.reduceAdd, Nat.reduceSub, true_and, wipeD, subT_tt, subT_ii, subT_ib, subT_ll, subT_lt, subT_il, subT_it, subT_tl, subT_is, if_true, if_false, Bool.false_eq_true, Bool.not_true, Bool.not_false]
        exact ⟨_, _, rfl, hs k _ _ (List.getElem?_eq_getElem (by omega)) (List.getElem?_eq_getElem hk), r⟩
      · rw [range_len]
        exact ⟨_, all_bls _, by rw [all_rep]; exact q⟩
    · simp only [t__law_like, N__law_like, dSeq2, dIfS, dRet, dRetN, dVar, dC, dOp, dUn, dCons, dNil, dTup, dAsg, bindT, bindTs, itemsD, dIsi, isD, dAndV, dOrV, dNotV, dAnd, dOr, dNot, dTest, tru, dBl, dCall, dCB, dLen, dChain, dLe, dLt, dGe, dGt, dI2, dI2C, dIx, dNext, dDrop, dSet, dSetF, dSub, dMul, dAdd, dMod, dFdiv, dPow, dNeg, dIf, dIntC, dEqN, dEq, dNe, dIsN, dNew, dLst, dTupF, dLenF, dTupleC, dPar, startD, List.length_cons, List.length_nil, List.map_cons, List.map_nil, List.cons_append, List.nil_append, List.getElem?_cons_zero, List.getElem?_cons_succ, List.set_cons_zero, List.set_cons_succ, List.replicate_succ, List.replicate_zero, Nat.reduceAdd, Nat.reduceSub, true_and, wipeD, subT_tt, subT_ii, subT_ib, subT_ll, subT_lt, subT_il, subT_it, subT_tl, subT_is, if_true, if_false, Bool.false_eq_true, Bool.not_true, Bool.not_false]
      simp only [h1, h2, hl, decide_true, Bool.false_xor, dSeq2, dIfS, dRet, dRetN, dVar, dC, dOp, dUn, dCons, dNil, dTup, dAsg, bindT, bindTs, itemsD, dIsi, isD, dAndV, dOrV, dNotV, dAnd, dOr, dNot, dTest, tru, dBl, dCall, dCB, dLen, dChain, dLe, dLt, dGe, dGt, dI2, dI2C, dIx, dNext, dDrop, dSet, dSetF, dSub, dMul, dAdd, dMod, dFdiv, dPow, dNeg, dIf, dIntC, dEqN, dEq, dNe, dIsN, dNew, dLst, dTupF, dLenF, dTupleC, dPar, startD, List.length_cons, List.length_nil, List.map_cons, List.map_nil, List.cons_append, List.nil_append, List.getElem?_cons_zero, List.getElem?_cons_succ, List.set_cons_zero, List.set_cons_succ, List.replicate_succ, List.replicate_zero, Nat.reduceAdd, Nat.reduceSub, true_and, wipeD, subT_tt, subT_ii, subT_ib, subT_ll, subT_lt, subT_il, subT_it, subT_tl, subT_is, if_true, if_false, Bool.false_eq_true, Bool.not_true, Bool.not_false]
      refine lc_map (xs := rangeD 0 ys.length) (fun _ => .bl true) (fun R h => ?_) (by rw [range_len]; omega) (fun k x hx => ⟨_, rfl, fun R r => ?_⟩) ?_
      · simp only [dRng1, h2, dSeq2, dIfS, dRet, dRetN, dVar, dC, dOp, dUn, dCons, dNil, dTup, dAsg, bindT, bindTs, itemsD, dIsi, isD, dAndV, dOrV, dNotV, dAnd, dOr, dNot, dTest, tru, dBl, dCall, dCB, dLen, dChain, dLe, dLt, dGe, dGt, dI2, dI2C, dIx, dNext, dDrop, dSet, dSetF, dSub, dMul, dAdd, dMod, dFdiv, dPow, dNeg, dIf, dIntC, dEqN, dEq, dNe, dIsN, dNew, dLst, dTupF, dLenF, dTupleC, dPar, startD, List.length_cons, List.length_nil, List.map_cons, List.map_nil, List.cons_append, List.nil_append, List.getElem?_cons_zero, List.getElem?_cons_succ, List.set_cons_zero, List.set_cons_succ, List.replicate_succ, List.replicate_zero, Nat.reduceAdd, Nat.reduceSub, true_and, wipeD, subT_tt, subT_ii, subT_ib, subT_ll, subT_lt, subT_il, subT_it, subT_tl, subT_is, if_true, if_false, Bool.false_eq_true, Bool.not_true, Bool.not_false]
        exact ⟨⟨by omega, by omega⟩, by simpa using h⟩
      · obtain ⟨hk, rfl⟩ := range_at hx
        have e1 : L2.atI xs (0 + (k : Int)) = some xs[k] := by rw [Int.zero_add]; exact atI_nat (by omega)
        have e2 : L2.atI ys (0 + (k : Int)) = some ys[k] := by rw [Int.zero_add]; exact atI_nat hk
        simp only [h1, h2, e1, e2, dSeq2, dIfS, dRet, dRetN, dVar, dC, dOp, dUn, dCons, dNil, dTup, dAsg, bindT, bindTs, itemsD, dIsi, isD, dAndV, dOrV, dNotV, dAnd, dOr, dNot, dTest, tru, dBl, dCall, dCB, dLen, dChain, dLe, dLt, dGe, dGt, dI2, dI2C, dIx, dNext, dDrop, dSet, dSetF, dSub, dMul, dAdd, dMod, dFdiv, dPow, dNeg, dIf, dIntC, dEqN, dEq, dNe, dIsN, dNew, dLst, dTupF, dLenF, dTupleC, dPar, startD, List.length_cons, List.length_nil, List.map_cons, List.map_nil, List.cons_append, List.nil_append, List.getElem?_cons_zero, List.getElem?_cons_succ, List.set_cons_zero, List.set_cons_succ, List.replicate_succ, List.replicate_zero, Nat.reduceAdd, Nat.reduceSub, true_and, wipeD, subT_tt, subT_ii, subT_ib, subT_ll, subT_lt, subT_il, subT_it, subT_tl, subT_is, if_true, if_false, Bool.false_eq_true, Bool.not_true, Bool.not_false]
        exact ⟨_, _, rfl, hs k _ _ (List.getElem?_eq_getElem (by omega)) (List.getElem?_eq_getElem hk), r⟩
      · rw [range_len]
        exact ⟨_, all_bls _, by rw [all_rep]; exact q⟩
theorem p__law_sum : Pok N__law_sum 3 S__law_sum t__law_sum := by
  rintro as H Q W - ⟨a, b, m, rfl, hl, h3, hm, q⟩
  simp only [t__law_sum, N__law_sum, bagD, dSeq2, dIfS, dRet, dRetN, dVar, dC, dOp, dUn, dCons, dNil, dTup, dAsg, bindT, bindTs, itemsD, dIsi, isD, dAndV, dOrV, dNotV, dAnd, dOr, dNot, dTest, tru, dBl, dCall, dCB, dLen, dChain, dLe, dLt, dGe, dGt, dI2, dI2C, dIx, dNext, dDrop, dSet, dSetF, dSub, dMul, dAdd, dMod, dFdiv, dPow, dNeg, dIf, dIntC, dEqN, dEq, dNe, dIsN, dNew, dLst, dTupF, dLenF, dTupleC, dPar, startD, List.length_cons, List.length_nil, List.map_cons, List.map_nil, List.cons_append, List.nil_append, List.getElem?_cons_zero, List.getElem?_cons_succ, List.set_cons_zero, List.set_cons_succ, List.replicate_succ, List.replicate_zero, Nat.reduceAdd, Nat.reduceSub, true_and, wipeD, subT_tt, subT_ii, subT_ib, subT_ll, subT_lt, subT_il, subT_it, subT_tl, subT_is, if_true, if_false, Bool.false_eq_true, Bool.not_true, Bool.not_false]
  refine lc_map (xs := rangeD 0 a.length) (fun j => .int (a.getD j 0 + m * b.getD j 0)) (fun R h => ?_) (by rw [range_len]; omega) (fun k x hx => ⟨_, rfl, fun R r => ?_⟩) ?_
  · simp only [dRng1, List.length_map, dSeq2, dIfS, dRet, dRetN, dVar, dC, dOp, dUn, dCons, dNil, dTup, dAsg, bindT, bindTs, itemsD, dIsi, isD, dAndV, dOrV, dNotV, dAnd, dOr, dNot, dTest, tru, dBl, dCall, dCB, dLen, dChain, dLe, dLt, dGe, dGt, dI2, dI2C, dIx, dNext, dDrop, dSet, dSetF, dSub, dMul, dAdd, dMod, dFdiv, dPow, dNeg, dIf, dIntC, dEqN, dEq, dNe, dIsN, dNew, dLst, dTupF, dLenF, dTupleC, dPar, startD, List.length_cons, List.length_nil, List.map_cons, List.map_nil, List.cons_append, List.nil_append, List.getElem?_cons_zero, List.getElem?_cons_succ, List.set_cons_zero, List.set_cons_succ, List.replicate_succ, List.replicate_zero, Nat.reduceAdd, Nat.reduceSub, true_and, wipeD, subT_tt, subT_ii, subT_ib, subT_ll, subT_lt, subT_il, subT_it, subT_tl, subT_is, if_true, if_false, Bool.false_eq_true, Bool.not_true, Bool.not_false]
    exact ⟨⟨by omega, by omega⟩, by simpa using h⟩
  · obtain ⟨hk, rfl⟩ := range_at hx
    simp only [Int.zero_add, bag_at hk, bag_at (show k < b.length by omega), dSeq2, dIfS, dRet, dRetN, dVar, dC, dOp, dUn, dCons, dNil, dTup, dAsg, bindT, bindTs, itemsD, dIsi, isD, dAndV, dOrV, dNotV, dAnd, dOr, dNot, dTest, tru, dBl, dCall, dCB, dLen, dChain, dLe, dLt, dGe, dGt, dI2, dI2C, dIx, dNext, dDrop, dSet, dSetF, dSub, dMul, dAdd, dMod, dFdiv, dPow, dNeg, dIf, dIntC, dEqN, dEq, dNe, dIsN, dNew, dLst, dTupF, dLenF, dTupleC, dPar, startD, List.length_cons, List.length_nil, List.map_cons, List.map_nil, List.cons_append, List.nil_append, List.getElem?_cons_zero, List.getElem?_cons_succ, List.set_cons_zero, List.set_cons_succ, List.replicate_succ, List.replicate_zero, Nat.reduceAdd, Nat.reduceSub, true_and, wipeD, subT_tt, subT_ii, subT_ib, subT_ll, subT_lt, subT_il, subT_it, subT_tl, subT_is, if_true, if_false, Bool.false_eq_true, Bool.not_true, Bool.not_false]
    exact ⟨.inl (by rcases hm with rfl | rfl <;> omega), r⟩
  · rw [range_len]
    have e : (List.range a.length).map (fun j => D.int (a.getD j 0 + m * b.getD j 0)) = (sumL a b m).map D.int := by simp [sumL, List.map_map, Function.comp_def]
    rw [e]; exact q
theorem p__law_unit : Pok N__law_unit 2 S__law_unit t__law_unit := by
  rintro as H Q W - ⟨k, p, rfl, h3, q⟩
  simp only [t__law_unit, N__law_unit, dSeq2, dIfS, dRet, dRetN, dVar, dC, dOp, dUn, dCons, dNil, dTup, dAsg, bindT, bindTs, itemsD, dIsi, isD, dAndV, dOrV, dNotV, dAnd, dOr, dNot, dTest, tru, dBl, dCall, dCB, dLen, dChain, dLe, dLt, dGe, dGt, dI2, dI2C, dIx, dNext, dDrop, dSet, dSetF, dSub, dMul, dAdd, dMod, dFdiv, dPow, dNeg, dIf, dIntC, dEqN, dEq, dNe, dIsN, dNew, dLst, dTupF, dLenF, dTupleC, dPar, startD, List.length_cons, List.length_nil, List.map_cons, List.map_nil, List.cons_append, List.nil_append, List.getElem?_cons_zero, List.getElem?_cons_succ, List.set_cons_zero, List.set_cons_succ, List.replicate_succ, List.replicate_zero, Nat.reduceAdd, Nat.reduceSub, true_and, wipeD, subT_tt, subT_ii, subT_ib, subT_ll, subT_lt, subT_il, subT_it, subT_tl, subT_is, if_true, if_false, Bool.false_eq_true, Bool.not_true, Bool.not_false]
  refine lc_map (xs := rangeD 0 k) (fun j => .int (if j = p then 1 else 0)) (fun R h => ?_) (by rw [range_len]; omega) (fun j x hx => ⟨_, rfl, fun R r => ?_⟩) ?_
  · simp only [dRng1, List.length_map, dSeq2, dIfS, dRet, dRetN, dVar, dC, dOp, dUn, dCons, dNil, dTup, dAsg, bindT, bindTs, itemsD, dIsi, isD, dAndV, dOrV, dNotV, dAnd, dOr, dNot, dTest, tru, dBl, dCall, dCB, dLen, dChain, dLe, dLt, dGe, dGt, dI2, dI2C, dIx, dNext, dDrop, dSet, dSetF, dSub, dMul, dAdd, dMod, dFdiv, dPow, dNeg, dIf, dIntC, dEqN, dEq, dNe, dIsN, dNew, dLst, dTupF, dLenF, dTupleC, dPar, startD, List.length_cons, List.length_nil, List.map_cons, List.map_nil, List.cons_append, List.nil_append, List.getElem?_cons_zero, List.getElem?_cons_succ, List.set_cons_zero, List.set_cons_succ, List.replicate_succ, List.replicate_zero, Nat.reduceAdd, Nat.reduceSub, true_and, wipeD, subT_tt, subT_ii, subT_ib, subT_ll, subT_lt, subT_il, subT_it, subT_tl, subT_is, if_true, if_false, Bool.false_eq_true, Bool.not_true, Bool.not_false]
    exact ⟨⟨by omega, by omega⟩, by simpa using h⟩
  · obtain ⟨hk, rfl⟩ := range_at hx
    simp only [Int.zero_add, dSeq2, dIfS, dRet, dRetN, dVar, dC, dOp, dUn, dCons, dNil, dTup, dAsg, bindT, bindTs, itemsD, dIsi, isD, dAndV, dOrV, dNotV, dAnd, dOr, dNot, dTest, tru, dBl, dCall, dCB, dLen, dChain, dLe, dLt, dGe, dGt, dI2, dI2C, dIx, dNext, dDrop, dSet, dSetF, dSub, dMul, dAdd, dMod, dFdiv, dPow, dNeg, dIf, dIntC, dEqN, dEq, dNe, dIsN, dNew, dLst, dTupF, dLenF, dTupleC, dPar, startD, List.length_cons, List.length_nil, List.map_cons, List.map_nil, List.cons_append, List.nil_append, List.getElem?_cons_zero, List.getElem?_cons_succ, List.set_cons_zero, List.set_cons_succ, List.replicate_succ, List.replicate_zero, Nat.reduceAdd, Nat.reduceSub, true_and, wipeD, subT_tt, subT_ii, subT_ib, subT_ll, subT_lt, subT_il, subT_it, subT_tl, subT_is, if_true, if_false, Bool.false_eq_true, Bool.not_true, Bool.not_false]
    by_cases hj : j = p
    · subst hj; simpa using r
    · have : ¬ ((j : Int) = (p : Int)) := by omega
      simpa [hj, this] using r
  · rw [range_len]
    have e : (List.range k).map (fun j => D.int (if j = p then 1 else 0)) = (unitL k p).map D.int := by simp [unitL, List.map_map, Function.comp_def]
    rw [e]; exact q
theorem behind_eq {b l : List Int} {p : Nat} (hl : b.length = l.length) : sumL (sumL b l 1) (unitL b.length p) (-1) = afterL b p l := by
  have e0 : (sumL b l 1).length = b.length := by simp [sumL]
  unfold afterL
  rw [sumL, e0]
  refine List.map_congr_left fun j hj => ?_
  have hj := List.mem_range.mp hj
  have e1 : (sumL b l 1).getD j 0 = b.getD j 0 + 1 * l.getD j 0 := by simp [sumL, List.getD_eq_getElem?_getD, hj]
  have e2 : (unitL b.length p).getD j 0 = if j = p then 1 else 0 := by simp [unitL, List.getD_eq_getElem?_getD, hj]
  rw [e1, e2]
  split <;> omega
theorem p__law_behind : Pok N__law_behind 3 S__law_behind t__law_behind := by
  rintro as H Q W - ⟨n, b, i, rfl, ok, hb, hi, q⟩
  obtain ⟨d, hd⟩ := net_at hi
  obtain ⟨h1, h2⟩ := ok.each d (List.mem_of_getElem? hd)
  have l3 := ok.hi
  simp only [t__law_behind, N__law_behind, netD, deedD, atI_two, deed_at hd, dSeq2, dIfS, dRet, dRetN, dVar, dC, dOp, dUn, dCons, dNil, dTup, dAsg, bindT, bindTs, itemsD, dIsi, isD, dAndV, dOrV, dNotV, dAnd, dOr, dNot, dTest, tru, dBl, dCall, dCB, dLen, dChain, dLe, dLt, dGe, dGt, dI2, dI2C, dIx, dNext, dDrop, dSet, dSetF, dSub, dMul, dAdd, dMod, dFdiv, dPow, dNeg, dIf, dIntC, dEqN, dEq, dNe, dIsN, dNew, dLst, dTupF, dLenF, dTupleC, dPar, startD, List.length_cons, List.length_nil, List.map_cons, List.map_nil, List.cons_append, List.nil_append, List.getElem?_cons_zero, List.getElem?_cons_succ, List.set_cons_zero, List.set_cons_succ, List.replicate_succ, List.replicate_zero, Nat.reduceAdd, Nat.reduceSub, true_and, wipeD, subT_tt, subT_ii, subT_ib, subT_ll, subT_lt, subT_il, subT_it, subT_tl, subT_is, if_true, if_false, Bool.false_eq_true, Bool.not_true, Bool.not_false]
  refine ⟨b, d.2, 1, rfl, by rw [hb.len, h2.len], by rw [hb.len]; exact l3, .inl rfl, ?_⟩
  refine ⟨n.places, d.1, rfl, l3, ?_⟩
  refine ⟨_, _, -1, rfl, by simp [sumL, unitL, hb.len], by simp [sumL, hb.len]; exact l3, .inr rfl, ?_⟩
  have e := behind_eq (b := b) (l := d.2) (p := d.1) (by rw [hb.len, h2.len])
  rw [hb.len] at e
  rw [e]
  have e2 : after n b i = afterL b d.1 d.2 := by unfold after; rw [hd]
  rw [← e2]
  exact q
end K57

namespace K57
open PySem PySem.Spec
open PyProof.Rows DL
theorem ixN_nat {n r : Nat} (h : r < n) : L2.ixN n (r : Int) = some r := by
  unfold L2.ixN
  rw [if_pos (by omega), if_pos (by omega)]
  simp
theorem rep_flat (n : Nat) : (List.replicate n [D.int 0]).flatten = (List.replicate n (0 : Int)).map D.int := by
  induction n with
  | zero => rfl
  | succ n ih => rw [List.replicate_succ, List.flatten_cons, ih, List.replicate_succ]; rfl
theorem p__law_tally : Pok N__law_tally 3 S__law_tally t__law_tally := by
  rintro as H Q W - ⟨i, ic, size, total, rfl, B, s0, s3, t8, q⟩
  obtain ⟨cells, nx, dg, sd, ct, X⟩ := B.x
  simp only [t__law_tally, N__law_tally, dRep, dSeq2, dIfS, dRet, dRetN, dVar, dC, dOp, dUn, dCons, dNil, dTup, dAsg, bindT, bindTs, itemsD, dIsi, isD, dAndV, dOrV, dNotV, dAnd, dOr, dNot, dTest, tru, dBl, dCall, dCB, dLen, dChain, dLe, dLt, dGe, dGt, dI2, dI2C, dIx, dNext, dDrop, dSet, dSetF, dSub, dMul, dAdd, dMod, dFdiv, dPow, dNeg, dIf, dIntC, dEqN, dEq, dNe, dIsN, dNew, dLst, dTupF, dLenF, dTupleC, dPar, startD, List.length_cons, List.length_nil, List.map_cons, List.map_nil, List.cons_append, List.nil_append, List.getElem?_cons_zero, List.getElem?_cons_succ, List.set_cons_zero, List.set_cons_succ, List.replicate_succ, List.replicate_zero, Nat.reduceAdd, Nat.reduceSub, true_and, wipeD, subT_tt, subT_ii, subT_ib, subT_ll, subT_lt, subT_il, subT_it, subT_tl, subT_is, if_true, if_false, Bool.false_eq_true, Bool.not_true, Bool.not_false]
  refine ⟨by simp [sizeLine], ⟨by omega, by omega⟩, by simp [sizeLine]; omega, .inr fun m hm => ?_⟩
  have n1 : Oid.tmp m ≠ i := by rintro rfl; rw [X.self] at hm; cases hm
  have n2 : Oid.tmp m ≠ ic := by rintro rfl; rw [X.cls] at hm; cases hm
  simp only [dFor, dRng1, dSeq2, dIfS, dRet, dRetN, dVar, dC, dOp, dUn, dCons, dNil, dTup, dAsg, bindT, bindTs, itemsD, dIsi, isD, dAndV, dOrV, dNotV, dAnd, dOr, dNot, dTest, tru, dBl, dCall, dCB, dLen, dChain, dLe, dLt, dGe, dGt, dI2, dI2C, dIx, dNext, dDrop, dSet, dSetF, dSub, dMul, dAdd, dMod, dFdiv, dPow, dNeg, dIf, dIntC, dEqN, dEq, dNe, dIsN, dNew, dLst, dTupF, dLenF, dTupleC, dPar, startD, List.length_cons, List.length_nil, List.map_cons, List.map_nil, List.cons_append, List.nil_append, List.getElem?_cons_zero, List.getElem?_cons_succ, List.set_cons_zero, List.set_cons_succ, List.replicate_succ, List.replicate_zero, Nat.reduceAdd, Nat.reduceSub, true_and, wipeD, subT_tt, subT_ii, subT_ib, subT_ll, subT_lt, subT_il, subT_it, subT_tl, subT_is, if_true, if_false, Bool.false_eq_true, Bool.not_true, Bool.not_false]
  refine ⟨⟨by omega, by omega⟩, total, fun k σ H' => ∃ (a : Option D) (b : List Int), σ = [some (.ref i), some (.int (size : Int)), some (.int (total : Int)), some (.ref (.tmp m)), a] ∧ WellAt H' i ic ∧ H' (.tmp m) = some (.lst (b.map D.int)) ∧ BagOk size b ∧ (∀ x ∈ b, x ≤ k) ∧ ∀ j, j ≠ i → j ≠ .tmp m → H' j = H j, ?_, ?_, ?_⟩
  · refine ⟨_, List.replicate size 0, rfl, B.frame (upd_ne n1.symm) (upd_ne n2.symm), ?_, ⟨by simp, fun x hx => ?_⟩, fun x hx => ?_, fun j j1 j2 => upd_ne j2⟩
    · rw [upd_same, ← rep_flat]; simp
    · rw [List.eq_of_mem_replicate hx]; omega
    · rw [List.eq_of_mem_replicate hx]; omega
  · rintro k σ H' hk ⟨a, b, rfl, B', hb, ob, hx, fr⟩
    refine ⟨_, .int (0 + (k : Int)), _, rfl, by rw [range_len]; omega, by rw [rangeD, List.getElem?_map, List.getElem?_range (by omega)]; rfl, rfl, ?_⟩
    simp only [t__law_tally_b1, dAugS, dSetI, dGet, dSeq2, dIfS, dRet, dRetN, dVar, dC, dOp, dUn, dCons, dNil, dTup, dAsg, bindT, bindTs, itemsD, dIsi, isD, dAndV, dOrV, dNotV, dAnd, dOr, dNot, dTest, tru, dBl, dCall, dCB, dLen, dChain, dLe, dLt, dGe, dGt, dI2, dI2C, dIx, dNext, dDrop, dSet, dSetF, dSub, dMul, dAdd, dMod, dFdiv, dPow, dNeg, dIf, dIntC, dEqN, dEq, dNe, dIsN, dNew, dLst, dTupF, dLenF, dTupleC, dPar, startD, List.length_cons, List.length_nil, List.map_cons, List.map_nil, List.cons_append, List.nil_append, List.getElem?_cons_zero, List.getElem?_cons_succ, List.set_cons_zero, List.set_cons_succ, List.replicate_succ, List.replicate_zero, Nat.reduceAdd, Nat.reduceSub, true_and, wipeD, subT_tt, subT_ii, subT_ib, subT_ll, subT_lt, subT_il, subT_it, subT_tl, subT_is, if_true, if_false, Bool.false_eq_true, Bool.not_true, Bool.not_false]
    refine ⟨i, ic, size, rfl, B', s0, by omega, fun r H2 hr B2 fr2 => ?_⟩
    have e := bag_at (b := b) (j := r) (by rw [ob.len]; exact hr)
    have hb2 : H2 (.tmp m) = some (.lst (b.map D.int)) := by rw [fr2 _ n1]; exact hb
    have ei := ixN_nat (n := (b.map D.int).length) (r := r) (by rw [List.length_map, ob.len]; exact hr)
    simp only [hb2, e, ei, dSeq2, dIfS, dRet, dRetN, dVar, dC, dOp, dUn, dCons, dNil, dTup, dAsg, bindT, bindTs, itemsD, dIsi, isD, dAndV, dOrV, dNotV, dAnd, dOr, dNot, dTest, tru, dBl, dCall, dCB, dLen, dChain, dLe, dLt, dGe, dGt, dI2, dI2C, dIx, dNext, dDrop, dSet, dSetF, dSub, dMul, dAdd, dMod, dFdiv, dPow, dNeg, dIf, dIntC, dEqN, dEq, dNe, dIsN, dNew, dLst, dTupF, dLenF, dTupleC, dPar, startD, List.length_cons, List.length_nil, List.map_cons, List.map_nil, List.cons_append, List.nil_append, List.getElem?_cons_zero, List.getElem?_cons_succ, List.set_cons_zero, List.set_cons_succ, List.replicate_succ, List.replicate_zero, Nat.reduceAdd, Nat.reduceSub, true_and, wipeD, subT_tt, subT_ii, subT_ib, subT_ll, subT_lt, subT_il, subT_it, subT_tl, subT_is, if_true, if_false, Bool.false_eq_true, Bool.not_true, Bool.not_false]
    have hv : b.getD r 0 ∈ b := by rw [List.getD_eq_getElem?_getD, List.getElem?_eq_getElem (by rw [ob.len]; exact hr)]; exact List.getElem_mem _
    have g1 := ob.nn _ hv
    have g2 := hx _ hv
    refine ⟨_, b.set r (b.getD r 0 + 1), rfl, B2.frame (upd_ne n1.symm) (upd_ne n2.symm), by rw [upd_same, List.map_set], ⟨by rw [List.length_set]; exact ob.len, fun x h => ?_⟩, fun x h => ?_, fun j j1 j2 => by rw [upd_ne j2, fr2 j j1, fr j j1 j2]⟩
    · rcases List.mem_or_eq_of_mem_set h with h | rfl
      · exact ob.nn _ h
      · omega
    · rcases List.mem_or_eq_of_mem_set h with h | rfl
      · have := hx _ h; omega
      · omega
  · rintro σ H' ⟨a, b, rfl, B', hb, ob, hx, fr⟩
    refine ⟨⟨_, rfl, by rw [range_len]; omega⟩, ?_⟩
    simp only [t__law_tally_r0, hb, dSeq2, dIfS, dRet, dRetN, dVar, dC, dOp, dUn, dCons, dNil, dTup, dAsg, bindT, bindTs, itemsD, dIsi, isD, dAndV, dOrV, dNotV, dAnd, dOr, dNot, dTest, tru, dBl, dCall, dCB, dLen, dChain, dLe, dLt, dGe, dGt, dI2, dI2C, dIx, dNext, dDrop, dSet, dSetF, dSub, dMul, dAdd, dMod, dFdiv, dPow, dNeg, dIf, dIntC, dEqN, dEq, dNe, dIsN, dNew, dLst, dTupF, dLenF, dTupleC, dPar, startD, List.length_cons, List.length_nil, List.map_cons, List.map_nil, List.cons_append, List.nil_append, List.getElem?_cons_zero, List.getElem?_cons_succ, List.set_cons_zero, List.set_cons_succ, List.replicate_succ, List.replicate_zero, Nat.reduceAdd, Nat.reduceSub, true_and, wipeD, subT_tt, subT_ii, subT_ib, subT_ll, subT_lt, subT_il, subT_it, subT_tl, subT_is, if_true, if_false, Bool.false_eq_true, Bool.not_true, Bool.not_false]
    refine q b H' ob (fun x h => by have := hx x h; omega) B' ⟨fun j o j1 h => ?_, fun p h => ?_⟩
    · rw [fr j j1 (by rintro rfl; rw [hm] at h; cases h)]; exact h
    · rw [fr _ (by rintro rfl; rw [X.self] at h; cases h) (by intro z; cases z)]; exact h
end K57

namespace K57
open PySem PySem.Spec
open PyProof.Rows DL
theorem nks_ints : ∀ l : List Int, nksD (l.map D.int) = some (l.map NestedKey.num)
  | [] => rfl
  | a :: r => by rw [List.map_cons, nksD, nks_ints r]; rfl
theorem nk_deed (d : Nat × List Int) : nkD (deedD d) = some (.tup [.num (d.1 : Int), .tup (d.2.map NestedKey.num)]) := by
  unfold deedD bagD
  simp only [nkD, nksD, nks_ints, Option.map_some]
theorem map_num_inj : ∀ {l m : List Int}, l.map NestedKey.num = m.map NestedKey.num → l = m
  | [], [], _ => rfl
  | [], _ :: _, h => by cases h
  | _ :: _, [], h => by cases h
  | a :: r, b :: t, h => by
    rw [List.map_cons, List.map_cons] at h
    injection h with h1 h2
    injection h1 with h1
    rw [h1, map_num_inj h2]
theorem nk_inj {d e : Nat × List Int} (h : nkD (deedD d) = nkD (deedD e)) : d = e := by
  rw [nk_deed, nk_deed] at h
  injection h with h
  injection h with h
  injection h with h1 h2
  injection h1 with h1
  injection h2 with h2 _
  injection h2 with h2
  have h3 := map_num_inj h2
  obtain ⟨d1, d2⟩ := d
  obtain ⟨e1, e2⟩ := e
  have : d1 = e1 := by have h1 : (d1 : Int) = (e1 : Int) := h1; omega
  subst this
  subst h3
  rfl
theorem nums_depth : ∀ l : List Int, NestedKey.depthAll (l.map NestedKey.num) = 0
  | [] => rfl
  | a :: r => by simp [NestedKey.depthAll, NestedKey.depth, nums_depth r]
def kvOf (d : Nat × List Int) : D × D := (deedD d, .bl true)
theorem nput_deed (l : List (Nat × List Int)) (d : Nat × List Int) : nput (l.map kvOf) (deedD d) (.bl true) = (if d ∈ l then l else l ++ [d]).map kvOf := by
  have ha : ((l.map kvOf).any fun p => decide (nkD p.1 = nkD (deedD d))) = decide (d ∈ l) := by
    rw [Bool.eq_iff_iff, decide_eq_true_iff, List.any_eq_true]
    constructor
    · rintro ⟨p, hp, e⟩
      obtain ⟨x, hx, rfl⟩ := List.mem_map.mp hp
      rw [← nk_inj (of_decide_eq_true e)]
      exact hx
    · intro h
      exact ⟨kvOf d, List.mem_map.mpr ⟨d, h, rfl⟩, decide_eq_true rfl⟩
  unfold nput
  rw [ha]
  by_cases h : d ∈ l
  · rw [decide_eq_true h, if_pos rfl, if_pos h, List.map_map]
    refine List.map_congr_left fun x hx => ?_
    simp only [Function.comp]
    split <;> rfl
  · rw [decide_eq_false h, if_neg Bool.false_ne_true, if_neg h, List.map_append]
    rfl
/-! the order of deeds -/
def leD (x y : Nat × List Int) : Bool := PySem.W.dataLe false pdv (deedD x) (deedD y)
theorem toks_ints : ∀ {l m : List Int}, PySem.W.keyToksAll (pdvs (l.map D.int)) = PySem.W.keyToksAll (pdvs (m.map D.int)) → l = m
  | [], [], _ => rfl
  | [], _ :: _, h => by simp [pdvs, PySem.W.keyToksAll] at h
  | _ :: _, [], h => by simp [pdvs, PySem.W.keyToksAll] at h
  | a :: r, b :: t, h => by
    simp only [List.map_cons, pdvs, pdv, PySem.W.keyToksAll, PySem.W.keyToks, List.cons_append, List.nil_append] at h
    injection h with _ h
    injection h with h1 h2
    injection h1 with h1
    rw [h1, toks_ints h2]
theorem toks_deed {x y : Nat × List Int} (h : PySem.W.keyToks (pdv (deedD x)) = PySem.W.keyToks (pdv (deedD y))) : x = y := by
  obtain ⟨x1, x2⟩ := x
  obtain ⟨y1, y2⟩ := y
  simp only [deedD, bagD, pdvs, pdv, PySem.W.keyToksAll, PySem.W.keyToks, List.cons_append, List.nil_append] at h
  injection h with _ h
  injection h with h1 h
  injection h1 with h1
  injection h with _ h
  have h3 := List.append_inj_left' h rfl
  have : x1 = y1 := by have h1 : (x1 : Int) = (y1 : Int) := h1; omega
  subst this
  rw [toks_ints h3]
theorem asc_sort {l : List (Nat × List Int)} (hn : l.Nodup) : Asc (l.mergeSort leD) := by
  have hp : (l.mergeSort leD).Pairwise fun a b => leD a b = true := PySem.W.sort_pairwise (PySem.W.sortLe_total (PyProof.Rows.listOrd PyProof.Rows.itemOrd) false fun b : Nat × List Int => PySem.W.keyToks (pdv (deedD b))) l
  have hn2 : (l.mergeSort leD).Nodup := (List.mergeSort_perm l leD).nodup_iff.mpr hn
  intro i x y hx hy
  obtain ⟨h1, e1⟩ := List.getElem?_eq_some_iff.mp hx
  obtain ⟨h2, e2⟩ := List.getElem?_eq_some_iff.mp hy
  have le := List.pairwise_iff_getElem.mp hp i (i + 1) h1 h2 (Nat.lt_succ_self i)
  rw [e1, e2] at le
  have ne : x ≠ y := fun z => by
    have := List.pairwise_iff_getElem.mp hn2 i (i + 1) h1 h2 (Nat.lt_succ_self i)
    rw [e1, e2] at this
    exact this z
  have le : (!PyProof.Rows.lexLt PyProof.Rows.itemOrd (PySem.W.keyToks (pdv (deedD y))) (PySem.W.keyToks (pdv (deedD x)))) = true := le
  cases h : PySem.W.dataLt (pdv (deedD x)) (pdv (deedD y)) with
  | true => rfl
  | false =>
    refine absurd (toks_deed ((PyProof.Rows.listOrd PyProof.Rows.itemOrd).total _ _ h ?_)) ne
    simpa using le
theorem way_at (w : Nat) (h : w < 4) (a b c d : Int) : ∃ v, L2.atI [D.int a, D.int b, D.int c, D.int d] (w : Int) = some (.int v) ∧ (v = a ∨ v = b ∨ v = c ∨ v = d) := by
  match w, h with
  | 0, _ => exact ⟨a, rfl, .inl rfl⟩
  | 1, _ => exact ⟨b, rfl, .inr (.inl rfl)⟩
  | 2, _ => exact ⟨c, rfl, .inr (.inr (.inl rfl))⟩
  | 3, _ => exact ⟨d, rfl, .inr (.inr (.inr rfl))⟩
theorem p__law_net : Pok N__law_net 2 S__law_net t__law_net := by
  rintro as H Q W - ⟨i, ic, rfl, B0, q⟩
  simp only [t__law_net, N__law_net, dNewN, dSeq2, dIfS, dRet, dRetN, dVar, dC, dOp, dUn, dCons, dNil, dTup, dAsg, bindT, bindTs, itemsD, dIsi, isD, dAndV, dOrV, dNotV, dAnd, dOr, dNot, dTest, tru, dBl, dCall, dCB, dLen, dChain, dLe, dLt, dGe, dGt, dI2, dI2C, dIx, dNext, dDrop, dSet, dSetF, dSub, dMul, dAdd, dMod, dFdiv, dPow, dNeg, dIf, dIntC, dEqN, dEq, dNe, dIsN, dNew, dLst, dTupF, dLenF, dTupleC, dPar, startD, List.length_cons, List.length_nil, List.map_cons, List.map_nil, List.cons_append, List.nil_append, List.getElem?_cons_zero, List.getElem?_cons_succ, List.set_cons_zero, List.set_cons_succ, List.replicate_succ, List.replicate_zero, Nat.reduceAdd, Nat.reduceSub, true_and, wipeD, subT_tt, subT_ii, subT_ib, subT_ll, subT_lt, subT_il, subT_it, subT_tl, subT_is, if_true, if_false, Bool.false_eq_true, Bool.not_true, Bool.not_false]
  refine ⟨i, ic, 4, rfl, B0, by omega, by omega, fun way H1 hw B1 fr1 => .inr fun m hm => ?_⟩
  obtain ⟨cells, nx, dg, sd, ct, X⟩ := B1.x
  have n1 : Oid.tmp m ≠ i := by rintro rfl; rw [X.self] at hm; cases hm
  have n2 : Oid.tmp m ≠ ic := by rintro rfl; rw [X.cls] at hm; cases hm
  have hm0 : H (.tmp m) = none := by rw [← fr1 _ n1]; exact hm
  have hi0 : H i ≠ none := by
    obtain ⟨_, _, _, _, _, X0⟩ := B0.x
    rw [X0.self]; exact fun z => by cases z
  have B1' : WellAt (upd H1 (.tmp m) (.dN [])) i ic := B1.frame (upd_ne n1.symm) (upd_ne n2.symm)
  -- how many places
  have place : ∀ (mo : Nat), (mo = 2 ∨ mo = 3) → ∀ R : DVK, (∀ (r : Nat) H', r < mo → WellAt H' i ic → (∀ j, j ≠ i → H' j = upd H1 (.tmp m) (.dN []) j) → R (.int (r : Int)) H') → S__law_draw [.ref i, .int (mo : Int)] (upd H1 (.tmp m) (.dN [])) R W :=
    fun mo hmo R h => ⟨i, ic, mo, rfl, B1', by omega, by omega, h⟩
  simp only [dMinC, dSeq2, dIfS, dRet, dRetN, dVar, dC, dOp, dUn, dCons, dNil, dTup, dAsg, bindT, bindTs, itemsD, dIsi, isD, dAndV, dOrV, dNotV, dAnd, dOr, dNot, dTest, tru, dBl, dCall, dCB, dLen, dChain, dLe, dLt, dGe, dGt, dI2, dI2C, dIx, dNext, dDrop, dSet, dSetF, dSub, dMul, dAdd, dMod, dFdiv, dPow, dNeg, dIf, dIntC, dEqN, dEq, dNe, dIsN, dNew, dLst, dTupF, dLenF, dTupleC, dPar, startD, List.length_cons, List.length_nil, List.map_cons, List.map_nil, List.cons_append, List.nil_append, List.getElem?_cons_zero, List.getElem?_cons_succ, List.set_cons_zero, List.set_cons_succ, List.replicate_succ, List.replicate_zero, Nat.reduceAdd, Nat.reduceSub, true_and, wipeD, subT_tt, subT_ii, subT_ib, subT_ll, subT_lt, subT_il, subT_it, subT_tl, subT_is, if_true, if_false, Bool.false_eq_true, Bool.not_true, Bool.not_false]
  have go : ∀ (r : Nat) (H2 : DH), r < 3 → WellAt H2 i ic → (∀ j, j ≠ i → H2 j = upd H1 (.tmp m) (.dN []) j) → dFor (dRng1 (dCall 2 S__law_draw W (dCons (dVar 0) (dCons (dC (.int 5)) dNil)))) (.nm 3) (t__law_net_b1 W) { nx := fun σ H => t__law_net_r0 W { nx := fun _ H' => Q .non H', rt := Q } σ H, rt := Q } [some (.ref i), some (.int 3), some (.int (1 + (r : Int))), none, some (.int (way : Int)), some (.ref (.tmp m)), none] H2 := by
    intro r H2 hr B2 fr2
    have h2m : H2 (.tmp m) = some (.dN []) := by rw [fr2 _ n1, upd_same]
    simp only [dFor, dRng1, dSeq2, dIfS, dRet, dRetN, dVar, dC, dOp, dUn, dCons, dNil, dTup, dAsg, bindT, bindTs, itemsD, dIsi, isD, dAndV, dOrV, dNotV, dAnd, dOr, dNot, dTest, tru, dBl, dCall, dCB, dLen, dChain, dLe, dLt, dGe, dGt, dI2, dI2C, dIx, dNext, dDrop, dSet, dSetF, dSub, dMul, dAdd, dMod, dFdiv, dPow, dNeg, dIf, dIntC, dEqN, dEq, dNe, dIsN, dNew, dLst, dTupF, dLenF, dTupleC, dPar, startD, List.length_cons, List.length_nil, List.map_cons, List.map_nil, List.cons_append, List.nil_append, List.getElem?_cons_zero, List.getElem?_cons_succ, List.set_cons_zero, List.set_cons_succ, List.replicate_succ, List.replicate_zero, Nat.reduceAdd, Nat.reduceSub, true_and, wipeD, subT_tt, subT_ii, subT_ib, subT_ll, subT_lt, subT_il, subT_it, subT_tl, subT_is, if_true, if_false, Bool.false_eq_true, Bool.not_true, Bool.not_false]
    refine ⟨i, ic, 5, rfl, B2, by omega, by omega, fun total H3 ht B3 fr3 => ⟨⟨by omega, by omega⟩, total, fun k σ H' => ∃ (a c : Option D) (l : List (Nat × List Int)), σ = [some (.ref i), some (.int 3), some (.int (1 + (r : Int))), a, some (.int (way : Int)), some (.ref (.tmp m)), c] ∧ WellAt H' i ic ∧ H' (.tmp m) = some (.dN (l.map kvOf)) ∧
      (∀ d ∈ l, d.1 < 1 + r ∧ BagOk (1 + r) d.2 ∧ SmallB d.2) ∧ l.Nodup ∧ l.length ≤ k ∧ ExtE i H H', ?_, ?_, ?_⟩⟩
    · refine ⟨_, _, [], rfl, B3, by rw [fr3 _ n1]; exact h2m, by simp, List.nodup_nil, Nat.le_refl _, fun j o j1 h => ?_, fun p h => ?_⟩
      · have jm : j ≠ .tmp m := by rintro rfl; rw [hm0] at h; cases h
        rw [fr3 j j1, fr2 j j1, upd_ne jm, fr1 j j1]; exact h
      · have j1 : Oid.nm p ≠ i := by rintro rfl; exact hi0 h
        rw [fr3 _ j1, fr2 _ j1, upd_ne (by intro z; cases z), fr1 _ j1]; exact h
    · rintro k σ H' hk ⟨a, c, l, rfl, B', hd, hl, nd, ll, ex⟩
      refine ⟨_, .int (0 + (k : Int)), _, rfl, by rw [range_len]; omega, by rw [rangeD, List.getElem?_map, List.getElem?_range (by omega)]; rfl, rfl, ?_⟩
      have tail : ∀ (marks : Nat) (H4 : DH), marks ≤ 3 → WellAt H4 i ic → (∀ j, j ≠ i → H4 j = H' j) → dSubS dSetN (dVar 5) (dTup (dCons (dCall 2 S__law_draw W (dCons (dVar 0) (dCons (dVar 2) dNil))) (dCons (dCall 3 S__law_tally W (dCons (dVar 0) (dCons (dVar 2) (dCons (dVar 6) dNil)))) dNil))) (dC (.bl true))
          { nx := fun σ H' => ∃ (a c : Option D) (l : List (Nat × List Int)), σ = [some (.ref i), some (.int 3), some (.int (1 + (r : Int))), a, some (.int (way : Int)), some (.ref (.tmp m)), c] ∧ WellAt H' i ic ∧ H' (.tmp m) = some (.dN (l.map kvOf)) ∧
      (∀ d ∈ l, d.1 < 1 + r ∧ BagOk (1 + r) d.2 ∧ SmallB d.2) ∧ l.Nodup ∧ l.length ≤ k + 1 ∧ ExtE i H H', rt := Q, ct := fun σ H' => ∃ (a c : Option D) (l : List (Nat × List Int)), σ = [some (.ref i), some (.int 3), some (.int (1 + (r : Int))), a, some (.int (way : Int)), some (.ref (.tmp m)), c] ∧ WellAt H' i ic ∧ H' (.tmp m) = some (.dN (l.map kvOf)) ∧
      (∀ d ∈ l, d.1 < 1 + r ∧ BagOk (1 + r) d.2 ∧ SmallB d.2) ∧ l.Nodup ∧ l.length ≤ k + 1 ∧ ExtE i H H', bk := fun σ H => t__law_net_r0 W { nx := fun _ H' => Q .non H', rt := Q } σ H } [some (.ref i), some (.int 3), some (.int (1 + (r : Int))), some (.int (0 + (k : Int))), some (.int (way : Int)), some (.ref (.tmp m)), some (.int (marks : Int))] H4 := by
        intro marks H4 hmk B4 fr4
        simp only [dSubS, dSetN, dSeq2, dIfS, dRet, dRetN, dVar, dC, dOp, dUn, dCons, dNil, dTup, dAsg, bindT, bindTs, itemsD, dIsi, isD, dAndV, dOrV, dNotV, dAnd, dOr, dNot, dTest, tru, dBl, dCall, dCB, dLen, dChain, dLe, dLt, dGe, dGt, dI2, dI2C, dIx, dNext, dDrop, dSet, dSetF, dSub, dMul, dAdd, dMod, dFdiv, dPow, dNeg, dIf, dIntC, dEqN, dEq, dNe, dIsN, dNew, dLst, dTupF, dLenF, dTupleC, dPar, startD, List.length_cons, List.length_nil, List.map_cons, List.map_nil, List.cons_append, List.nil_append, List.getElem?_cons_zero, List.getElem?_cons_succ, List.set_cons_zero, List.set_cons_succ, List.replicate_succ, List.replicate_zero, Nat.reduceAdd, Nat.reduceSub, true_and, wipeD, subT_tt, subT_ii, subT_ib, subT_ll, subT_lt, subT_il, subT_it, subT_tl, subT_is, if_true, if_false, Bool.false_eq_true, Bool.not_true, Bool.not_false]
        refine ⟨i, ic, 1 + r, by congr, B4, by omega, by omega, fun p H5 hp B5 fr5 => ?_⟩
        refine ⟨i, ic, 1 + r, marks, by congr, B5, by omega, by omega, by omega, fun b H6 ob sb B6 ex6 => ⟨by simp [sizeLine], ?_⟩⟩
        have h6 : H6 (.tmp m) = some (.dN (l.map kvOf)) := ex6.st _ _ n1 (by rw [fr5 _ n1, fr4 _ n1]; exact hd)
        simp only [h6]
        refine ⟨⟨_, nk_deed (p, b), ?_⟩, by rw [List.length_map]; simp [sizeLine]; omega, ?_⟩
        · simp [NestedKey.depth, NestedKey.depthAll, nums_depth]
        · have e := nput_deed l (p, b)
          have e2 : nput (l.map kvOf) (.tup [.int (p : Int), bagD b]) (.bl true) = (if (p, b) ∈ l then l else l ++ [(p, b)]).map kvOf := e
          rw [e2]
          refine ⟨_, _, _, rfl, B6.frame (upd_ne n1.symm) (upd_ne n2.symm), upd_same, ?_, ?_, ?_, fun j o j1 h => ?_, fun p h => ?_⟩
          · intro d hd
            split at hd
            · exact hl d hd
            · rcases List.mem_append.mp hd with h | h
              · exact hl d h
              · rw [List.mem_singleton.mp h]; exact ⟨hp, ob, sb⟩
          · split
            · exact nd
            · rename_i h
              rw [List.nodup_append]
              exact ⟨nd, by simp, fun a ha b hb e => h (by rw [← List.mem_singleton.mp hb, ← e]; exact ha)⟩
          · split
            · omega
            · rw [List.length_append, List.length_singleton]; omega
          · have jm : j ≠ .tmp m := by rintro rfl; rw [hm0] at h; cases h
            rw [upd_ne jm]
            refine ex6.st _ _ j1 ?_
            rw [fr5 j j1, fr4 j j1]
            exact ex.st _ _ j1 h
          · rw [upd_ne (by intro z; cases z)]
            refine ex6.fr _ ?_
            have j1 : Oid.nm p ≠ i := by rintro rfl; exact hi0 h
            rw [fr5 _ j1, fr4 _ j1]
            exact ex.fr _ h
      obtain ⟨v, hv, _⟩ := way_at way hw 0 1 2 1
      simp only [t__law_net_b1, dIxF, dSeq2, dIfS, dRet, dRetN, dVar, dC, dOp, dUn, dCons, dNil, dTup, dAsg, bindT, bindTs, itemsD, dIsi, isD, dAndV, dOrV, dNotV, dAnd, dOr, dNot, dTest, tru, dBl, dCall, dCB, dLen, dChain, dLe, dLt, dGe, dGt, dI2, dI2C, dIx, dNext, dDrop, dSet, dSetF, dSub, dMul, dAdd, dMod, dFdiv, dPow, dNeg, dIf, dIntC, dEqN, dEq, dNe, dIsN, dNew, dLst, dTupF, dLenF, dTupleC, dPar, startD, List.length_cons, List.length_nil, List.map_cons, List.map_nil, List.cons_append, List.nil_append, List.getElem?_cons_zero, List.getElem?_cons_succ, List.set_cons_zero, List.set_cons_succ, List.replicate_succ, List.replicate_zero, Nat.reduceAdd, Nat.reduceSub, true_and, wipeD, subT_tt, subT_ii, subT_ib, subT_ll, subT_lt, subT_il, subT_it, subT_tl, subT_is, if_true, if_false, Bool.false_eq_true, Bool.not_true, Bool.not_false]
      refine ⟨i, ic, 2, rfl, B', by omega, by omega, fun mk H4 hmk B4 fr4 => ⟨by simp [sizeLine], ?_⟩⟩
      simp only [hv, dSeq2, dIfS, dRet, dRetN, dVar, dC, dOp, dUn, dCons, dNil, dTup, dAsg, bindT, bindTs, itemsD, dIsi, isD, dAndV, dOrV, dNotV, dAnd, dOr, dNot, dTest, tru, dBl, dCall, dCB, dLen, dChain, dLe, dLt, dGe, dGt, dI2, dI2C, dIx, dNext, dDrop, dSet, dSetF, dSub, dMul, dAdd, dMod, dFdiv, dPow, dNeg, dIf, dIntC, dEqN, dEq, dNe, dIsN, dNew, dLst, dTupF, dLenF, dTupleC, dPar, startD, List.length_cons, List.length_nil, List.map_cons, List.map_nil, List.cons_append, List.nil_append, List.getElem?_cons_zero, List.getElem?_cons_succ, List.set_cons_zero, List.set_cons_succ, List.replicate_succ, List.replicate_zero, Nat.reduceAdd, Nat.reduceSub, true_and, wipeD, subT_tt, subT_ii, subT_ib, subT_ll, subT_lt, subT_il, subT_it, subT_tl, subT_is, if_true, if_false, Bool.false_eq_true, Bool.not_true, Bool.not_false]
      by_cases hlt : 0 + (k : Int) < v
      · simp only [decide_eq_true hlt, dSeq2, dIfS, dRet, dRetN, dVar, dC, dOp, dUn, dCons, dNil, dTup, dAsg, bindT, bindTs, itemsD, dIsi, isD, dAndV, dOrV, dNotV, dAnd, dOr, dNot, dTest, tru, dBl, dCall, dCB, dLen, dChain, dLe, dLt, dGe, dGt, dI2, dI2C, dIx, dNext, dDrop, dSet, dSetF, dSub, dMul, dAdd, dMod, dFdiv, dPow, dNeg, dIf, dIntC, dEqN, dEq, dNe, dIsN, dNew, dLst, dTupF, dLenF, dTupleC, dPar, startD, List.length_cons, List.length_nil, List.map_cons, List.map_nil, List.cons_append, List.nil_append, List.getElem?_cons_zero, List.getElem?_cons_succ, List.set_cons_zero, List.set_cons_succ, List.replicate_succ, List.replicate_zero, Nat.reduceAdd, Nat.reduceSub, true_and, wipeD, subT_tt, subT_ii, subT_ib, subT_ll, subT_lt, subT_il, subT_it, subT_tl, subT_is, if_true, if_false, Bool.false_eq_true, Bool.not_true, Bool.not_false]
        by_cases h3 : (way : Int) = 3
        · simp only [decide_eq_true h3, Bool.false_xor, dSeq2, dIfS, dRet, dRetN, dVar, dC, dOp, dUn, dCons, dNil, dTup, dAsg, bindT, bindTs, itemsD, dIsi, isD, dAndV, dOrV, dNotV, dAnd, dOr, dNot, dTest, tru, dBl, dCall, dCB, dLen, dChain, dLe, dLt, dGe, dGt, dI2, dI2C, dIx, dNext, dDrop, dSet, dSetF, dSub, dMul, dAdd, dMod, dFdiv, dPow, dNeg, dIf, dIntC, dEqN, dEq, dNe, dIsN, dNew, dLst, dTupF, dLenF, dTupleC, dPar, startD, List.length_cons, List.length_nil, List.map_cons, List.map_nil, List.cons_append, List.nil_append, List.getElem?_cons_zero, List.getElem?_cons_succ, List.set_cons_zero, List.set_cons_succ, List.replicate_succ, List.replicate_zero, Nat.reduceAdd, Nat.reduceSub, true_and, wipeD, subT_tt, subT_ii, subT_ib, subT_ll, subT_lt, subT_il, subT_it, subT_tl, subT_is, if_true, if_false, Bool.false_eq_true, Bool.not_true, Bool.not_false]
          exact tail 3 H4 (by omega) B4 fr4
        · simp only [decide_eq_false h3, Bool.false_xor, dSeq2, dIfS, dRet, dRetN, dVar, dC, dOp, dUn, dCons, dNil, dTup, dAsg, bindT, bindTs, itemsD, dIsi, isD, dAndV, dOrV, dNotV, dAnd, dOr, dNot, dTest, tru, dBl, dCall, dCB, dLen, dChain, dLe, dLt, dGe, dGt, dI2, dI2C, dIx, dNext, dDrop, dSet, dSetF, dSub, dMul, dAdd, dMod, dFdiv, dPow, dNeg, dIf, dIntC, dEqN, dEq, dNe, dIsN, dNew, dLst, dTupF, dLenF, dTupleC, dPar, startD, List.length_cons, List.length_nil, List.map_cons, List.map_nil, List.cons_append, List.nil_append, List.getElem?_cons_zero, List.getElem?_cons_succ, List.set_cons_zero, List.set_cons_succ, List.replicate_succ, List.replicate_zero, Nat.reduceAdd, Nat.reduceSub, true_and, wipeD, subT_tt, subT_ii, subT_ib, subT_ll, subT_lt, subT_il, subT_it, subT_tl, subT_is, if_true, if_false, Bool.false_eq_true, Bool.not_true, Bool.not_false]
          exact tail 2 H4 (by omega) B4 fr4
      · simp only [decide_eq_false hlt, dSeq2, dIfS, dRet, dRetN, dVar, dC, dOp, dUn, dCons, dNil, dTup, dAsg, bindT, bindTs, itemsD, dIsi, isD, dAndV, dOrV, dNotV, dAnd, dOr, dNot, dTest, tru, dBl, dCall, dCB, dLen, dChain, dLe, dLt, dGe, dGt, dI2, dI2C, dIx, dNext, dDrop, dSet, dSetF, dSub, dMul, dAdd, dMod, dFdiv, dPow, dNeg, dIf, dIntC, dEqN, dEq, dNe, dIsN, dNew, dLst, dTupF, dLenF, dTupleC, dPar, startD, List.length_cons, List.length_nil, List.map_cons, List.map_nil, List.cons_append, List.nil_append, List.getElem?_cons_zero, List.getElem?_cons_succ, List.set_cons_zero, List.set_cons_succ, List.replicate_succ, List.replicate_zero, Nat.reduceAdd, Nat.reduceSub, true_and, wipeD, subT_tt, subT_ii, subT_ib, subT_ll, subT_lt, subT_il, subT_it, subT_tl, subT_is, if_true, if_false, Bool.false_eq_true, Bool.not_true, Bool.not_false]
        exact tail mk H4 (by omega) B4 fr4
    · rintro σ H' ⟨a, c, l, rfl, B', hd, hl, nd, ll, ex⟩
      refine ⟨⟨_, rfl, by rw [range_len]; omega⟩, ?_⟩
      simp only [t__law_net_r0, dSortN, dIxF, hd, dSeq2, dIfS, dRet, dRetN, dVar, dC, dOp, dUn, dCons, dNil, dTup, dAsg, bindT, bindTs, itemsD, dIsi, isD, dAndV, dOrV, dNotV, dAnd, dOr, dNot, dTest, tru, dBl, dCall, dCB, dLen, dChain, dLe, dLt, dGe, dGt, dI2, dI2C, dIx, dNext, dDrop, dSet, dSetF, dSub, dMul, dAdd, dMod, dFdiv, dPow, dNeg, dIf, dIntC, dEqN, dEq, dNe, dIsN, dNew, dLst, dTupF, dLenF, dTupleC, dPar, startD, List.length_cons, List.length_nil, List.map_cons, List.map_nil, List.cons_append, List.nil_append, List.getElem?_cons_zero, List.getElem?_cons_succ, List.set_cons_zero, List.set_cons_succ, List.replicate_succ, List.replicate_zero, Nat.reduceAdd, Nat.reduceSub, true_and, wipeD, subT_tt, subT_ii, subT_ib, subT_ll, subT_lt, subT_il, subT_it, subT_tl, subT_is, if_true, if_false, Bool.false_eq_true, Bool.not_true, Bool.not_false]
      have ek : (l.map kvOf).map (·.1) = l.map deedD := by rw [List.map_map]; rfl
      rw [ek]
      refine ⟨fun p hp => ?_, ?_, ?_, ?_⟩
      · obtain ⟨d, hd, rfl⟩ := List.mem_map.mp hp
        have := ints_depth d.2
        exact ⟨pure_deed d, by simp [kvOf, deedD, bagD, pdv, pdvs, PyData.depth, PyData.depthAll]; omega⟩
      · intro x hx y hy
        rw [List.map_map] at hx hy
        obtain ⟨d, _, rfl⟩ := List.mem_map.mp hx
        obtain ⟨e, _, rfl⟩ := List.mem_map.mp hy
        exact deed_alike d e
      · refine .inl fun x hx => ?_
        rw [List.map_map] at hx
        obtain ⟨d, _, rfl⟩ := List.mem_map.mp hx
        exact ⟨.int (d.1 : Int), [pdv (bagD d.2)], by simp only [Function.comp, deedD, pdv, pdvs]⟩
      · have em : (l.map deedD).mergeSort (PySem.W.dataLe false pdv) = (l.mergeSort leD).map deedD := (List.map_mergeSort (f := deedD) (r := leD) (s := PySem.W.dataLe false pdv) fun a _ b _ => rfl).symm
        rw [em]
        obtain ⟨v, hv, hv2⟩ := way_at way hw 4 4 3 2
        simp only [hv, dSeq2, dIfS, dRet, dRetN, dVar, dC, dOp, dUn, dCons, dNil, dTup, dAsg, bindT, bindTs, itemsD, dIsi, isD, dAndV, dOrV, dNotV, dAnd, dOr, dNot, dTest, tru, dBl, dCall, dCB, dLen, dChain, dLe, dLt, dGe, dGt, dI2, dI2C, dIx, dNext, dDrop, dSet, dSetF, dSub, dMul, dAdd, dMod, dFdiv, dPow, dNeg, dIf, dIntC, dEqN, dEq, dNe, dIsN, dNew, dLst, dTupF, dLenF, dTupleC, dPar, startD, List.length_cons, List.length_nil, List.map_cons, List.map_nil, List.cons_append, List.nil_append, List.getElem?_cons_zero, List.getElem?_cons_succ, List.set_cons_zero, List.set_cons_succ, List.replicate_succ, List.replicate_zero, Nat.reduceAdd, Nat.reduceSub, true_and, wipeD, subT_tt, subT_ii, subT_ib, subT_ll, subT_lt, subT_il, subT_it, subT_tl, subT_is, if_true, if_false, Bool.false_eq_true, Bool.not_true, Bool.not_false]
        have hv3 : ∃ vn : Nat, v = (vn : Int) ∧ 0 < vn ∧ vn ≤ 4 := ⟨v.toNat, by omega, by omega, by omega⟩
        obtain ⟨vn, rfl, v1, v2⟩ := hv3
        refine ⟨by simp [sizeLine], ⟨by simp [sizeLine], ?_⟩⟩
        refine ⟨i, ic, vn, rfl, B', by omega, by omega, fun tot H7 ht7 B7 fr7 => ?_⟩
        refine ⟨i, ic, 1 + r, tot, by congr, B7, by omega, by omega, by omega, fun b H8 ob sb B8 ex8 => ⟨by simp [sizeLine], ?_⟩⟩
        have mem : ∀ d, d ∈ l.mergeSort leD ↔ d ∈ l := fun d => (List.mergeSort_perm l leD).mem_iff
        refine q ⟨1 + r, l.mergeSort leD⟩ b H8 ⟨by show 1 ≤ 1 + r; omega, by show 1 + r ≤ 3; omega, fun d hd => ?_, asc_sort nd, by show (l.mergeSort leD).length ≤ 4; rw [List.length_mergeSort]; omega⟩ (fun d hd => (hl d ((mem d).mp hd)).2.2) ob sb B8 ⟨fun j o j1 h => ?_, fun p h => ?_⟩
        · obtain ⟨g1, g2, _⟩ := hl d ((mem d).mp hd)
          exact ⟨g1, g2⟩
        · refine ex8.st _ _ j1 ?_
          rw [fr7 j j1]; exact ex.st _ _ j1 h
        · refine ex8.fr _ ?_
          have j1 : Oid.nm p ≠ i := by rintro rfl; exact hi0 h
          rw [fr7 _ j1]; exact ex.fr _ h
  by_cases hw2 : (way : Int) < 2
  · simp only [decide_eq_true hw2, dSeq2, dIfS, dRet, dRetN, dVar, dC, dOp, dUn, dCons, dNil, dTup, dAsg, bindT, bindTs, itemsD, dIsi, isD, dAndV, dOrV, dNotV, dAnd, dOr, dNot, dTest, tru, dBl, dCall, dCB, dLen, dChain, dLe, dLt, dGe, dGt, dI2, dI2C, dIx, dNext, dDrop, dSet, dSetF, dSub, dMul, dAdd, dMod, dFdiv, dPow, dNeg, dIf, dIntC, dEqN, dEq, dNe, dIsN, dNew, dLst, dTupF, dLenF, dTupleC, dPar, startD, List.length_cons, List.length_nil, List.map_cons, List.map_nil, List.cons_append, List.nil_append, List.getElem?_cons_zero, List.getElem?_cons_succ, List.set_cons_zero, List.set_cons_succ, List.replicate_succ, List.replicate_zero, Nat.reduceAdd, Nat.reduceSub, true_and, wipeD, subT_tt, subT_ii, subT_ib, subT_ll, subT_lt, subT_il, subT_it, subT_tl, subT_is, if_true, if_false, Bool.false_eq_true, Bool.not_true, Bool.not_false]
    exact place 3 (.inr rfl) _ fun r H2 hr B2 fr2 => go r H2 hr B2 fr2
  · simp only [decide_eq_false hw2, dSeq2, dIfS, dRet, dRetN, dVar, dC, dOp, dUn, dCons, dNil, dTup, dAsg, bindT, bindTs, itemsD, dIsi, isD, dAndV, dOrV, dNotV, dAnd, dOr, dNot, dTest, tru, dBl, dCall, dCB, dLen, dChain, dLe, dLt, dGe, dGt, dI2, dI2C, dIx, dNext, dDrop, dSet, dSetF, dSub, dMul, dAdd, dMod, dFdiv, dPow, dNeg, dIf, dIntC, dEqN, dEq, dNe, dIsN, dNew, dLst, dTupF, dLenF, dTupleC, dPar, startD, List.length_cons, List.length_nil, List.map_cons, List.map_nil, List.cons_append, List.nil_append, List.getElem?_cons_zero, List.getElem?_cons_succ, List.set_cons_zero, List.set_cons_succ, List.replicate_succ, List.replicate_zero, Nat.reduceAdd, Nat.reduceSub, true_and, wipeD, subT_tt, subT_ii, subT_ib, subT_ll, subT_lt, subT_il, subT_it, subT_tl, subT_is, if_true, if_false, Bool.false_eq_true, Bool.not_true, Bool.not_false]
    exact place 2 (.inl rfl) _ fun r H2 hr B2 fr2 => go r H2 (by omega) B2 fr2
end K57

namespace K57
open PySem PySem.Spec
open PyProof.Rows DL
theorem BoardAt.frame {H H' : DH} {i i1 i2 : Oid} {n : Net} {bs : List (List Int)} {ds : List Nat} (B : BoardAt H i i1 i2 n bs ds) (e : H' i = H i) (e1 : H' i1 = H i1) (e2 : H' i2 = H i2) : BoardAt H' i i1 i2 n bs ds :=
  ⟨e.trans B.self, e1.trans B.bags, e2.trans B.deeds, B.ne⟩
theorem GameAt.frame {H H' : DH} {k : Nat} {g : Game} (G : GameAt H k g) (e : ∀ m, m < 6 → H' (.nm [k, m]) = H (.nm [k, m])) : GameAt H' k g :=
  ⟨(e 0 (by decide)).trans G.self, G.board.frame (e 1 (by decide)) (e 2 (by decide)) (e 3 (by decide)), (e 4 (by decide)).trans G.bags, (e 5 (by decide)).trans G.deeds⟩
theorem p__law_begun : Pok N__law_begun 2 S__law_begun t__law_begun := by
  rintro as H Q W - ⟨n, b, k, rfl, ok, hb, fr, q⟩
  simp only [t__law_begun, N__law_begun, dMake, dSeq2, dIfS, dRet, dRetN, dVar, dC, dOp, dUn, dCons, dNil, dTup, dAsg, bindT, bindTs, itemsD, dIsi, isD, dAndV, dOrV, dNotV, dAnd, dOr, dNot, dTest, tru, dBl, dCall, dCB, dLen, dChain, dLe, dLt, dGe, dGt, dI2, dI2C, dIx, dNext, dDrop, dSet, dSetF, dSub, dMul, dAdd, dMod, dFdiv, dPow, dNeg, dIf, dIntC, dEqN, dEq, dNe, dIsN, dNew, dLst, dTupF, dLenF, dTupleC, dPar, startD, List.length_cons, List.length_nil, List.map_cons, List.map_nil, List.cons_append, List.nil_append, List.getElem?_cons_zero, List.getElem?_cons_succ, List.set_cons_zero, List.set_cons_succ, List.replicate_succ, List.replicate_zero, Nat.reduceAdd, Nat.reduceSub, true_and, wipeD, subT_tt, subT_ii, subT_ib, subT_ll, subT_lt, subT_il, subT_it, subT_tl, subT_is, if_true, if_false, Bool.false_eq_true, Bool.not_true, Bool.not_false]
  refine .inl ⟨[k, 1], fr 1, _, n, b, rfl, upd_same, ok, hb, [k, 2], [k, 3], by simp [upd, fr], by simp [upd, fr], by simp, fun H1 C1 fr1 => ?_⟩
  have f4 : H1 (.nm [k, 4]) = none := by rw [fr1 _ (by simp) (by simp) (by simp), upd_ne (by simp)]; exact fr 4
  have f5 : H1 (.nm [k, 5]) = none := by rw [fr1 _ (by simp) (by simp) (by simp), upd_ne (by simp)]; exact fr 5
  have f0 : H1 (.nm [k, 0]) = none := by rw [fr1 _ (by simp) (by simp) (by simp), upd_ne (by simp)]; exact fr 0
  simp only [dSeq2, dIfS, dRet, dRetN, dVar, dC, dOp, dUn, dCons, dNil, dTup, dAsg, bindT, bindTs, itemsD, dIsi, isD, dAndV, dOrV, dNotV, dAnd, dOr, dNot, dTest, tru, dBl, dCall, dCB, dLen, dChain, dLe, dLt, dGe, dGt, dI2, dI2C, dIx, dNext, dDrop, dSet, dSetF, dSub, dMul, dAdd, dMod, dFdiv, dPow, dNeg, dIf, dIntC, dEqN, dEq, dNe, dIsN, dNew, dLst, dTupF, dLenF, dTupleC, dPar, startD, List.length_cons, List.length_nil, List.map_cons, List.map_nil, List.cons_append, List.nil_append, List.getElem?_cons_zero, List.getElem?_cons_succ, List.set_cons_zero, List.set_cons_succ, List.replicate_succ, List.replicate_zero, Nat.reduceAdd, Nat.reduceSub, true_and, wipeD, subT_tt, subT_ii, subT_ib, subT_ll, subT_lt, subT_il, subT_it, subT_tl, subT_is, if_true, if_false, Bool.false_eq_true, Bool.not_true, Bool.not_false]
  refine ⟨by simp [sizeLine], .inl ⟨[k, 4], f4, ⟨by simp [sizeLine], .inl ⟨[k, 5], by rw [upd_ne (by simp)]; exact f5, ⟨by simp [sizeLine], .inl ⟨[k, 0], by rw [upd_ne (by simp), upd_ne (by simp)]; exact f0, ?_⟩⟩⟩⟩⟩⟩
  refine q _ ⟨upd_same, C1.frame ?_ ?_ ?_, ?_, ?_⟩ fun j hj => ?_
  · rw [upd_ne (by simp), upd_ne (by simp), upd_ne (by simp)]
  · rw [upd_ne (by simp), upd_ne (by simp), upd_ne (by simp)]
  · rw [upd_ne (by simp), upd_ne (by simp), upd_ne (by simp)]
  · rw [upd_ne (by simp), upd_ne (by simp), upd_same]; rfl
  · rw [upd_ne (by simp), upd_same]; rfl
  · rw [upd_ne (hj 0 (by decide)), upd_ne (hj 5 (by decide)), upd_ne (hj 4 (by decide)), fr1 j (hj 1 (by decide)) (hj 2 (by decide)) (hj 3 (by decide)), upd_ne (hj 1 (by decide))]
/-! shows -/
theorem Ext.refl (H : DH) : Ext H H := ⟨fun _ _ h => h, fun _ h => h⟩
theorem Ext.newT {H H' : DH} {m : Nat} {o : DO} (h : Ext H H') (hn : H' (.tmp m) = none) : Ext H (upd H' (.tmp m) o) :=
  ⟨fun j o' e => by
    have e' := h.st j o' e
    rw [upd_ne (by rintro rfl; rw [hn] at e'; cases e')]; exact e', fun p e => by rw [upd_ne (by simp)]; exact h.fr p e⟩
theorem Ext.setT {H H' : DH} {m : Nat} {o : DO} (h : Ext H H') (hn : H (.tmp m) = none) : Ext H (upd H' (.tmp m) o) :=
  ⟨fun j o' e => by rw [upd_ne (by rintro rfl; rw [hn] at e; cases e)]; exact h.st j o' e, fun p e => by rw [upd_ne (by simp)]; exact h.fr p e⟩
theorem BoardAt.ext {H H' : DH} {i i1 i2 : Oid} {n : Net} {bs : List (List Int)} {ds : List Nat} (B : BoardAt H i i1 i2 n bs ds) (x : Ext H H') : BoardAt H' i i1 i2 n bs ds :=
  ⟨x.st _ _ B.self, x.st _ _ B.bags, x.st _ _ B.deeds, B.ne⟩
theorem GameAt.ext {H H' : DH} {k : Nat} {g : Game} (G : GameAt H k g) (x : Ext H H') : GameAt H' k g := ⟨x.st _ _ G.self, G.board.ext x, x.st _ _ G.bags, x.st _ _ G.deeds⟩
theorem Ext.noT {H H' : DH} {m : Nat} (x : Ext H H') (h : H' (.tmp m) = none) : H (.tmp m) = none := by
  cases e : H (.tmp m) with
  | none => rfl
  | some o => have := x.st _ _ e; rw [h] at this; cases this
theorem lc_filK {K : DIter} {wi : DTI} {t : Tgt} {tt : DTT} {te : DTE} {vs : List Nat} {σ : DSt} {H : DH} {Q : List D → DH → Prop} {xs : List D} (p : Nat → Bool) (f : Nat → D) (hw : ∀ R : DIter → DH → Prop, R K H → wi σ H R) (hK : K.at H = some xs) (hz : xs.length ≤ 1000000)
    (hs : ∀ (i : Nat) (x : D), xs[i]? = some x → ∃ σ2, bindT t x H (wipeD σ vs) = some σ2 ∧ (∀ R : Bool → DH → Prop, R (p i) H → tt σ2 H R) ∧ ∀ R : DVK, p i = true → R (f i) H → te σ2 H R) (q : Q (((List.range xs.length).filter p).map f) H) : dLc wi t tt te vs σ H Q :=
  hw _ (dLc_fil (n := xs.length) p f hK rfl (Nat.le_trans hz (by decide)) hs q)
theorem count_fil (l : List Nat) (d : Nat) : ((List.range l.length).filter fun j => decide ((l.getD j 0 : Int) = (d : Int))).length = l.count d := by
  rw [← List.countP_eq_length_filter, List.count]
  have e : l = (List.range l.length).map fun j => l.getD j 0 := by
    apply List.ext_getElem
    · simp
    · intro k h1 h2; simp [List.getD_eq_getElem?_getD, h1]
  conv => rhs; rw [e]
  rw [List.countP_map]
  refine List.countP_congr fun j hj => ?_
  simp only [Function.comp, decide_eq_true_eq, beq_iff_eq]
  omega
section
variable {H : DH} {k : Nat} {g : Game} {cs : List (List Int)} {b : List Int} {σ : DSt} {Te : DTE} {Q : DVK} {W : DXW} (G : GameAt H k g) (ok : GameOk g) (e : g.bags = cs ++ [b]) (hb : BagOk g.net.places b) (h : ∀ Q : DVK, Q (.ref (.nm [k, 1])) H → Te σ H Q)
include G h
theorem rd_row (ok : GameOk g) (q : Q (bagD (row g.net g.deeds)) H) : dProp 0 S_Board_row Te σ H Q := h _ ⟨G.board.insn, _, _, _, _, _, _, rfl, G.board, ok.net, q⟩
theorem rd_len (ok : GameOk g) (q : Q (.int (g.deeds.length : Int)) H) : dLenO 0 S_Board___len__ Te σ H Q := h _ ⟨G.board.insn, _, _, _, _, _, _, rfl, G.board, ⟨by have := ok.few; omega, by have := ok.few; omega⟩, q⟩
include e
theorem rd_bag (q : Q (bagD b) H) : dProp 0 S_Board_bag Te σ H Q := h _ ⟨G.board.insn, _, _, _, _, cs, b, _, rfl, e ▸ G.board, q⟩
theorem rd_can (ok : GameOk g) (hb : BagOk g.net.places b) (q : ∀ m, H (.tmp m) = none → Q (.ref (.tmp m)) (upd H (.tmp m) (.lst (natsD (can g.net b))))) : dMeth 0 1 S_Board_can W Te dNil σ H Q :=
  h _ ⟨G.board.insn, rfl, _, _, _, _, cs, b, _, rfl, e ▸ G.board, ok.net, hb, .inr q⟩
end
theorem same_nats {H : DH} {i j : Oid} {l : List Nat} (h1 : H i = some (.lst (natsD l))) (h2 : H j = some (.lst (natsD l))) (hl : l.length ≤ 1000) (d : Nat) : Same (d + 1) H (.ref i) (.ref j) :=
  .inr (.inr ⟨i, j, _, _, rfl, rfl, h1, h2, rfl, by simpa [natsD] using hl, fun k a b ea eb => by
    rw [ea] at eb; cases eb
    obtain ⟨v, _, rfl⟩ := map_at ea
    cases d with
    | zero => exact ⟨_, rfl, rfl⟩
    | succ d => exact .inl ⟨_, rfl, rfl⟩⟩)
theorem same_bag {H : DH} (l : List Int) (hl : l.length ≤ 1000) (d : Nat) : Same (d + 1) H (bagD l) (bagD l) :=
  .inr (.inl ⟨_, _, rfl, rfl, rfl, by simpa using hl, fun k a b ea eb => by
    rw [ea] at eb; cases eb
    obtain ⟨v, _, rfl⟩ := map_at ea
    cases d with
    | zero => exact ⟨_, rfl, rfl⟩
    | succ d => exact .inl ⟨_, rfl, rfl⟩⟩)
theorem can_len (n : Net) (b : List Int) : (can n b).length ≤ n.deeds.length := by
  unfold can
  have := List.length_filter_le (canB n b) (List.range n.deeds.length)
  simpa using this
theorem fil_can {H : DH} {n : Net} {b : List Int} {cs : List (List Int)} (ok : NetOk n) (hb : BagOk n.places b) {j : Nat} (hj : j < n.deeds.length) : ∃ d, n.deeds[j]? = some d ∧ L2.atI (b.map D.int) (d.1 : Int) = some (.int (b.getD d.1 0)) ∧ canB n b j = decide (0 < b.getD d.1 0) := by
  obtain ⟨d, hd⟩ := net_at hj
  obtain ⟨h1, h2⟩ := ok.each d (List.mem_of_getElem? hd)
  exact ⟨d, hd, bag_at (by rw [hb.len]; exact h1), by unfold canB; rw [hd]⟩
theorem p__law_shows : Pok N__law_shows 2 S__law_shows t__law_shows := by
  rintro as H Q W - ⟨k, g, a, rfl, G, ok, q⟩
  obtain ⟨cs, b, eb, hb⟩ := ok.hist.last ok.net
  have few := ok.net.few
  have few2 := ok.few
  have l3 := ok.net.hi
  have cl := can_len g.net b
  simp only [t__law_shows, N__law_shows, G.self, dSeq2, dIfS, dRet, dRetN, dVar, dC, dOp, dUn, dCons, dNil, dTup, dAsg, bindT, bindTs, itemsD, dIsi, isD, dAndV, dOrV, dNotV, dAnd, dOr, dNot, dTest, tru, dBl, dCall, dCB, dLen, dChain, dLe, dLt, dGe, dGt, dI2, dI2C, dIx, dNext, dDrop, dSet, dSetF, dSub, dMul, dAdd, dMod, dFdiv, dPow, dNeg, dIf, dIntC, dEqN, dEq, dNe, dIsN, dNew, dLst, dTupF, dLenF, dTupleC, dPar, startD, List.length_cons, List.length_nil, List.map_cons, List.map_nil, List.cons_append, List.nil_append, List.getElem?_cons_zero, List.getElem?_cons_succ, List.set_cons_zero, List.set_cons_succ, List.replicate_succ, List.replicate_zero, Nat.reduceAdd, Nat.reduceSub, true_and, wipeD, subT_tt, subT_ii, subT_ib, subT_ll, subT_lt, subT_il, subT_it, subT_tl, subT_is, if_true, if_false, Bool.false_eq_true, Bool.not_true, Bool.not_false]
  simp only [netD, atI_two, List.length_map, dSeq2, dIfS, dRet, dRetN, dVar, dC, dOp, dUn, dCons, dNil, dTup, dAsg, bindT, bindTs, itemsD, dIsi, isD, dAndV, dOrV, dNotV, dAnd, dOr, dNot, dTest, tru, dBl, dCall, dCB, dLen, dChain, dLe, dLt, dGe, dGt, dI2, dI2C, dIx, dNext, dDrop, dSet, dSetF, dSub, dMul, dAdd, dMod, dFdiv, dPow, dNeg, dIf, dIntC, dEqN, dEq, dNe, dIsN, dNew, dLst, dTupF, dLenF, dTupleC, dPar, startD, List.length_cons, List.length_nil, List.map_cons, List.map_nil, List.cons_append, List.nil_append, List.getElem?_cons_zero, List.getElem?_cons_succ, List.set_cons_zero, List.set_cons_succ, List.replicate_succ, List.replicate_zero, Nat.reduceAdd, Nat.reduceSub, true_and, wipeD, subT_tt, subT_ii, subT_ib, subT_ll, subT_lt, subT_il, subT_it, subT_tl, subT_is, if_true, if_false, Bool.false_eq_true, Bool.not_true, Bool.not_false]
  refine lc_fil (xs := rangeD 0 g.net.deeds.length) (canB g.net b) (fun j => .int (j : Int)) (fun R h => ?_) (by rw [range_len]; omega) (fun j x hx => ?_) ?_
  · simp only [dRng1, dSeq2, dIfS, dRet, dRetN, dVar, dC, dOp, dUn, dCons, dNil, dTup, dAsg, bindT, bindTs, itemsD, dIsi, isD, dAndV, dOrV, dNotV, dAnd, dOr, dNot, dTest, tru, dBl, dCall, dCB, dLen, dChain, dLe, dLt, dGe, dGt, dI2, dI2C, dIx, dNext, dDrop, dSet, dSetF, dSub, dMul, dAdd, dMod, dFdiv, dPow, dNeg, dIf, dIntC, dEqN, dEq, dNe, dIsN, dNew, dLst, dTupF, dLenF, dTupleC, dPar, startD, List.length_cons, List.length_nil, List.map_cons, List.map_nil, List.cons_append, List.nil_append, List.getElem?_cons_zero, List.getElem?_cons_succ, List.set_cons_zero, List.set_cons_succ, List.replicate_succ, List.replicate_zero, Nat.reduceAdd, Nat.reduceSub, true_and, wipeD, subT_tt, subT_ii, subT_ib, subT_ll, subT_lt, subT_il, subT_it, subT_tl, subT_is, if_true, if_false, Bool.false_eq_true, Bool.not_true, Bool.not_false]
    exact ⟨⟨by omega, by omega⟩, by simpa using h⟩
  · obtain ⟨hj, rfl⟩ := range_at hx
    obtain ⟨d, hd, e1, e2⟩ := fil_can (H := H) (cs := cs) ok.net hb hj
    refine ⟨_, rfl, fun R r => ?_, fun R _ r => ?_⟩
    · simp only [G.bags, eb, List.map_append, atI_last, Int.zero_add, deed_at hd, deedD, atI_two, bagD, e1, dSeq2, dIfS, dRet, dRetN, dVar, dC, dOp, dUn, dCons, dNil, dTup, dAsg, bindT, bindTs, itemsD, dIsi, isD, dAndV, dOrV, dNotV, dAnd, dOr, dNot, dTest, tru, dBl, dCall, dCB, dLen, dChain, dLe, dLt, dGe, dGt, dI2, dI2C, dIx, dNext, dDrop, dSet, dSetF, dSub, dMul, dAdd, dMod, dFdiv, dPow, dNeg, dIf, dIntC, dEqN, dEq, dNe, dIsN, dNew, dLst, dTupF, dLenF, dTupleC, dPar, startD, List.length_cons, List.length_nil, List.map_cons, List.map_nil, List.cons_append, List.nil_append, List.getElem?_cons_zero, List.getElem?_cons_succ, List.set_cons_zero, List.set_cons_succ, List.replicate_succ, List.replicate_zero, Nat.reduceAdd, Nat.reduceSub, true_and, wipeD, subT_tt, subT_ii, subT_ib, subT_ll, subT_lt, subT_il, subT_it, subT_tl, subT_is, if_true, if_false, Bool.false_eq_true, Bool.not_true, Bool.not_false]
      rw [← e2]; exact r
    · simp only [Int.zero_add, dSeq2, dIfS, dRet, dRetN, dVar, dC, dOp, dUn, dCons, dNil, dTup, dAsg, bindT, bindTs, itemsD, dIsi, isD, dAndV, dOrV, dNotV, dAnd, dOr, dNot, dTest, tru, dBl, dCall, dCB, dLen, dChain, dLe, dLt, dGe, dGt, dI2, dI2C, dIx, dNext, dDrop, dSet, dSetF, dSub, dMul, dAdd, dMod, dFdiv, dPow, dNeg, dIf, dIntC, dEqN, dEq, dNe, dIsN, dNew, dLst, dTupF, dLenF, dTupleC, dPar, startD, List.length_cons, List.length_nil, List.map_cons, List.map_nil, List.cons_append, List.nil_append, List.getElem?_cons_zero, List.getElem?_cons_succ, List.set_cons_zero, List.set_cons_succ, List.replicate_succ, List.replicate_zero, Nat.reduceAdd, Nat.reduceSub, true_and, wipeD, subT_tt, subT_ii, subT_ib, subT_ll, subT_lt, subT_il, subT_it, subT_tl, subT_is, if_true, if_false, Bool.false_eq_true, Bool.not_true, Bool.not_false]; exact r
  rw [range_len]
  refine .inr fun m1 hm1 => ?_
  have x1 : Ext H (upd H (.tmp m1) (.lst (natsD (can g.net b)))) := (Ext.refl H).newT hm1
  have c1 : upd H (.tmp m1) (.lst (natsD (can g.net b))) (.tmp m1) = some (.lst (natsD (can g.net b))) := upd_same
  have ecan : List.map (fun (j : Nat) => D.int (j : Int)) (List.filter (canB g.net b) (List.range g.net.deeds.length)) = natsD (can g.net b) := rfl
  rw [ecan]
  generalize upd H (.tmp m1) (.lst (natsD (can g.net b))) = H1 at x1 c1 ⊢
  have G1 := G.ext x1
  refine lc_map (xs := rangeD 0 g.net.deeds.length) (fun j => .int ((g.deeds.count j : Nat) : Int)) (fun R h => ?_) (by rw [range_len]; omega) (fun j x hx => ⟨_, rfl, fun R r => ?_⟩) ?_
  · simp only [dRng1, dSeq2, dIfS, dRet, dRetN, dVar, dC, dOp, dUn, dCons, dNil, dTup, dAsg, bindT, bindTs, itemsD, dIsi, isD, dAndV, dOrV, dNotV, dAnd, dOr, dNot, dTest, tru, dBl, dCall, dCB, dLen, dChain, dLe, dLt, dGe, dGt, dI2, dI2C, dIx, dNext, dDrop, dSet, dSetF, dSub, dMul, dAdd, dMod, dFdiv, dPow, dNeg, dIf, dIntC, dEqN, dEq, dNe, dIsN, dNew, dLst, dTupF, dLenF, dTupleC, dPar, startD, List.length_cons, List.length_nil, List.map_cons, List.map_nil, List.cons_append, List.nil_append, List.getElem?_cons_zero, List.getElem?_cons_succ, List.set_cons_zero, List.set_cons_succ, List.replicate_succ, List.replicate_zero, Nat.reduceAdd, Nat.reduceSub, true_and, wipeD, subT_tt, subT_ii, subT_ib, subT_ll, subT_lt, subT_il, subT_it, subT_tl, subT_is, if_true, if_false, Bool.false_eq_true, Bool.not_true, Bool.not_false]
    exact ⟨⟨by omega, by omega⟩, by simpa using h⟩
  · obtain ⟨hj, rfl⟩ := range_at hx
    simp only [dSeq2, dIfS, dRet, dRetN, dVar, dC, dOp, dUn, dCons, dNil, dTup, dAsg, bindT, bindTs, itemsD, dIsi, isD, dAndV, dOrV, dNotV, dAnd, dOr, dNot, dTest, tru, dBl, dCall, dCB, dLen, dChain, dLe, dLt, dGe, dGt, dI2, dI2C, dIx, dNext, dDrop, dSet, dSetF, dSub, dMul, dAdd, dMod, dFdiv, dPow, dNeg, dIf, dIntC, dEqN, dEq, dNe, dIsN, dNew, dLst, dTupF, dLenF, dTupleC, dPar, startD, List.length_cons, List.length_nil, List.map_cons, List.map_nil, List.cons_append, List.nil_append, List.getElem?_cons_zero, List.getElem?_cons_succ, List.set_cons_zero, List.set_cons_succ, List.replicate_succ, List.replicate_zero, Nat.reduceAdd, Nat.reduceSub, true_and, wipeD, subT_tt, subT_ii, subT_ib, subT_ll, subT_lt, subT_il, subT_it, subT_tl, subT_is, if_true, if_false, Bool.false_eq_true, Bool.not_true, Bool.not_false]
    refine lc_filK (K := .ls (.nm [k, 5])) (xs := natsD g.deeds) (fun i => decide ((g.deeds.getD i 0 : Int) = (j : Int))) (fun _ => .int 1) (fun R h => ⟨⟨_, G1.deeds⟩, h⟩) (by simp only [DIter.at, G1.deeds]) (by simp [natsD]; omega) (fun i x hx => ?_) ?_
    · obtain ⟨v, hv, rfl⟩ := map_at hx
      refine ⟨_, rfl, fun R r => ?_, fun R _ r => ?_⟩
      · simp only [Int.zero_add, Bool.false_xor, dSeq2, dIfS, dRet, dRetN, dVar, dC, dOp, dUn, dCons, dNil, dTup, dAsg, bindT, bindTs, itemsD, dIsi, isD, dAndV, dOrV, dNotV, dAnd, dOr, dNot, dTest, tru, dBl, dCall, dCB, dLen, dChain, dLe, dLt, dGe, dGt, dI2, dI2C, dIx, dNext, dDrop, dSet, dSetF, dSub, dMul, dAdd, dMod, dFdiv, dPow, dNeg, dIf, dIntC, dEqN, dEq, dNe, dIsN, dNew, dLst, dTupF, dLenF, dTupleC, dPar, startD, List.length_cons, List.length_nil, List.map_cons, List.map_nil, List.cons_append, List.nil_append, List.getElem?_cons_zero, List.getElem?_cons_succ, List.set_cons_zero, List.set_cons_succ, List.replicate_succ, List.replicate_zero, Nat.reduceAdd, Nat.reduceSub, true_and, wipeD, subT_tt, subT_ii, subT_ib, subT_ll, subT_lt, subT_il, subT_it, subT_tl, subT_is, if_true, if_false, Bool.false_eq_true, Bool.not_true, Bool.not_false]
        rw [List.getD_eq_getElem?_getD, hv] at r
        exact r
      · simp only [dSeq2, dIfS, dRet, dRetN, dVar, dC, dOp, dUn, dCons, dNil, dTup, dAsg, bindT, bindTs, itemsD, dIsi, isD, dAndV, dOrV, dNotV, dAnd, dOr, dNot, dTest, tru, dBl, dCall, dCB, dLen, dChain, dLe, dLt, dGe, dGt, dI2, dI2C, dIx, dNext, dDrop, dSet, dSetF, dSub, dMul, dAdd, dMod, dFdiv, dPow, dNeg, dIf, dIntC, dEqN, dEq, dNe, dIsN, dNew, dLst, dTupF, dLenF, dTupleC, dPar, startD, List.length_cons, List.length_nil, List.map_cons, List.map_nil, List.cons_append, List.nil_append, List.getElem?_cons_zero, List.getElem?_cons_succ, List.set_cons_zero, List.set_cons_succ, List.replicate_succ, List.replicate_zero, Nat.reduceAdd, Nat.reduceSub, true_and, wipeD, subT_tt, subT_ii, subT_ib, subT_ll, subT_lt, subT_il, subT_it, subT_tl, subT_is, if_true, if_false, Bool.false_eq_true, Bool.not_true, Bool.not_false]; exact r
    · have e : (natsD g.deeds).length = g.deeds.length := by simp [natsD]
      rw [e, List.length_map, count_fil]
      exact r
  rw [range_len]
  have erow : (List.range g.net.deeds.length).map (fun j => D.int ((g.deeds.count j : Nat) : Int)) = (row g.net g.deeds).map D.int := by simp [row, List.map_map, Function.comp_def]
  rw [erow]
  have rest : ∀ (H2 : DH) (mt mc : Nat) (s10 s11 s12 : Option D), Ext H1 H2 → H2 (.tmp mt) = some (.lst [bagD b, bagD (row g.net g.deeds), .ref (.tmp mc), .int (g.deeds.length : Int)]) → H2 (.tmp mc) = some (.lst (natsD (can g.net b))) → H1 (.tmp mc) = none →
      t__law_shows_r1 W { nx := fun _ H' => Q .non H', rt := Q } [some (.ref (.nm [k, 0])), some (.int a), some (.int (g.net.deeds.length : Int)), some (.ref (.tmp m1)), some (.tup ((row g.net g.deeds).map D.int)), some (.ref (.nm [k, 1])), some (.tup [.int (g.net.places : Int), .tup (g.net.deeds.map deedD)]), some (.ref (.nm [k, 4])), some (.ref (.nm [k, 5])), some (.ref (.tmp mt)), s10, s11, s12, none, none] H2 := by
    intro H2 mt mc s10 s11 s12 x2 ht hc hn
    have G2 := G1.ext x2
    have c2 := x2.st _ _ c1
    have mne : mc ≠ m1 := by rintro rfl; rw [c1] at hn; cases hn
    have rl : (row g.net g.deeds).length ≤ 1000 := by simp [row]; omega
    simp only [t__law_shows_r1, dSeq2, dIfS, dRet, dRetN, dVar, dC, dOp, dUn, dCons, dNil, dTup, dAsg, bindT, bindTs, itemsD, dIsi, isD, dAndV, dOrV, dNotV, dAnd, dOr, dNot, dTest, tru, dBl, dCall, dCB, dLen, dChain, dLe, dLt, dGe, dGt, dI2, dI2C, dIx, dNext, dDrop, dSet, dSetF, dSub, dMul, dAdd, dMod, dFdiv, dPow, dNeg, dIf, dIntC, dEqN, dEq, dNe, dIsN, dNew, dLst, dTupF, dLenF, dTupleC, dPar, startD, List.length_cons, List.length_nil, List.map_cons, List.map_nil, List.cons_append, List.nil_append, List.getElem?_cons_zero, List.getElem?_cons_succ, List.set_cons_zero, List.set_cons_succ, List.replicate_succ, List.replicate_zero, Nat.reduceAdd, Nat.reduceSub, true_and, wipeD, subT_tt, subT_ii, subT_ib, subT_ll, subT_lt, subT_il, subT_it, subT_tl, subT_is, if_true, if_false, Bool.false_eq_true, Bool.not_true, Bool.not_false]
    simp only [G2.bags, G2.deeds, eb, List.map_append, atI_last, dSeq2, dIfS, dRet, dRetN, dVar, dC, dOp, dUn, dCons, dNil, dTup, dAsg, bindT, bindTs, itemsD, dIsi, isD, dAndV, dOrV, dNotV, dAnd, dOr, dNot, dTest, tru, dBl, dCall, dCB, dLen, dChain, dLe, dLt, dGe, dGt, dI2, dI2C, dIx, dNext, dDrop, dSet, dSetF, dSub, dMul, dAdd, dMod, dFdiv, dPow, dNeg, dIf, dIntC, dEqN, dEq, dNe, dIsN, dNew, dLst, dTupF, dLenF, dTupleC, dPar, startD, List.length_cons, List.length_nil, List.map_cons, List.map_nil, List.cons_append, List.nil_append, List.getElem?_cons_zero, List.getElem?_cons_succ, List.set_cons_zero, List.set_cons_succ, List.replicate_succ, List.replicate_zero, Nat.reduceAdd, Nat.reduceSub, true_and, wipeD, subT_tt, subT_ii, subT_ib, subT_ll, subT_lt, subT_il, subT_it, subT_tl, subT_is, if_true, if_false, Bool.false_eq_true, Bool.not_true, Bool.not_false]
    refine ⟨by simp [sizeLine], .inr fun m4 hm4 => ?_⟩
    have en : (natsD g.deeds).length = g.deeds.length := by simp [natsD]
    have e5 : D.tup ((row g.net g.deeds).map D.int) = bagD (row g.net g.deeds) := rfl
    rw [en, e5]
    have x4 : Ext H1 (upd H2 (.tmp m4) (.lst [bagD b, bagD (row g.net g.deeds), .ref (.tmp m1), .int (g.deeds.length : Int)])) := x2.newT hm4
    have y4 : ∀ m o, H2 (.tmp m) = some o → upd H2 (.tmp m4) (.lst [bagD b, bagD (row g.net g.deeds), .ref (.tmp m1), .int (g.deeds.length : Int)]) (.tmp m) = some o := fun m o h => ((Ext.refl H2).newT hm4).st _ _ h
    refine ⟨_, _, rfl, ?_, ?_⟩
    · refine .inr (.inr ⟨_, _, [bagD b, bagD (row g.net g.deeds), .ref (.tmp mc), .int (g.deeds.length : Int)], [bagD b, bagD (row g.net g.deeds), .ref (.tmp m1), .int (g.deeds.length : Int)], rfl, rfl, y4 _ _ ht, upd_same, rfl, by simp, fun j x y hx hy => ?_⟩)
      match j with
      | 0 => cases hx; cases hy; exact same_bag b (by rw [hb.len]; omega) 0
      | 1 => cases hx; cases hy; exact same_bag _ rl 0
      | 2 => cases hx; cases hy; exact same_nats (y4 _ _ hc) (y4 _ _ c2) (by omega) 0
      | 3 => cases hx; cases hy; exact .inl ⟨_, rfl, rfl⟩
      | _ + 4 => cases hx
    · have ht4 := y4 _ _ ht
      have hc4 := y4 _ _ hc
      have c4 := y4 _ _ c2
      have q4 : ∀ H', Ext H1 H' → Q (.bl true) H' := fun H' x => q H' ⟨fun j o h => x.st j o (x1.st j o h), fun p h => x.fr p (x1.fr p h)⟩
      simp only [t__law_shows_r0, Bool.not_true, dSeq2, dIfS, dRet, dRetN, dVar, dC, dOp, dUn, dCons, dNil, dTup, dAsg, bindT, bindTs, itemsD, dIsi, isD, dAndV, dOrV, dNotV, dAnd, dOr, dNot, dTest, tru, dBl, dCall, dCB, dLen, dChain, dLe, dLt, dGe, dGt, dI2, dI2C, dIx, dNext, dDrop, dSet, dSetF, dSub, dMul, dAdd, dMod, dFdiv, dPow, dNeg, dIf, dIntC, dEqN, dEq, dNe, dIsN, dNew, dLst, dTupF, dLenF, dTupleC, dPar, startD, List.length_cons, List.length_nil, List.map_cons, List.map_nil, List.cons_append, List.nil_append, List.getElem?_cons_zero, List.getElem?_cons_succ, List.set_cons_zero, List.set_cons_succ, List.replicate_succ, List.replicate_zero, Nat.reduceAdd, Nat.reduceSub, true_and, wipeD, subT_tt, subT_ii, subT_ib, subT_ll, subT_lt, subT_il, subT_it, subT_tl, subT_is, if_true, if_false, Bool.false_eq_true, Bool.not_true, Bool.not_false]
      generalize upd H2 (.tmp m4) (.lst [bagD b, bagD (row g.net g.deeds), .ref (.tmp m1), .int (g.deeds.length : Int)]) = H4 at x4 ht4 hc4 c4 ⊢
      simp only [dBM, isT, mAppend, ht4, hc4, dSeq2, dIfS, dRet, dRetN, dVar, dC, dOp, dUn, dCons, dNil, dTup, dAsg, bindT, bindTs, itemsD, dIsi, isD, dAndV, dOrV, dNotV, dAnd, dOr, dNot, dTest, tru, dBl, dCall, dCB, dLen, dChain, dLe, dLt, dGe, dGt, dI2, dI2C, dIx, dNext, dDrop, dSet, dSetF, dSub, dMul, dAdd, dMod, dFdiv, dPow, dNeg, dIf, dIntC, dEqN, dEq, dNe, dIsN, dNew, dLst, dTupF, dLenF, dTupleC, dPar, startD, List.length_cons, List.length_nil, List.map_cons, List.map_nil, List.cons_append, List.nil_append, List.getElem?_cons_zero, List.getElem?_cons_succ, List.set_cons_zero, List.set_cons_succ, List.replicate_succ, List.replicate_zero, Nat.reduceAdd, Nat.reduceSub, true_and, wipeD, subT_tt, subT_ii, subT_ib, subT_ll, subT_lt, subT_il, subT_it, subT_tl, subT_is, if_true, if_false, Bool.false_eq_true, Bool.not_true, Bool.not_false]
      have a2 : L2.atI [bagD b, bagD (row g.net g.deeds), D.ref (.tmp mc), D.int (g.deeds.length : Int)] 2 = some (.ref (.tmp mc)) := rfl
      simp only [a2, hc4, subT_ll, dSeq2, dIfS, dRet, dRetN, dVar, dC, dOp, dUn, dCons, dNil, dTup, dAsg, bindT, bindTs, itemsD, dIsi, isD, dAndV, dOrV, dNotV, dAnd, dOr, dNot, dTest, tru, dBl, dCall, dCB, dLen, dChain, dLe, dLt, dGe, dGt, dI2, dI2C, dIx, dNext, dDrop, dSet, dSetF, dSub, dMul, dAdd, dMod, dFdiv, dPow, dNeg, dIf, dIntC, dEqN, dEq, dNe, dIsN, dNew, dLst, dTupF, dLenF, dTupleC, dPar, startD, List.length_cons, List.length_nil, List.map_cons, List.map_nil, List.cons_append, List.nil_append, List.getElem?_cons_zero, List.getElem?_cons_succ, List.set_cons_zero, List.set_cons_succ, List.replicate_succ, List.replicate_zero, Nat.reduceAdd, Nat.reduceSub, true_and, wipeD, subT_tt, subT_ii, subT_ib, subT_ll, subT_lt, subT_il, subT_it, subT_tl, subT_is, if_true, if_false, Bool.false_eq_true, Bool.not_true, Bool.not_false]
      refine ⟨by simp, ⟨by simp only [natsD, sizeLine, List.length_map]; omega, ?_⟩⟩
      have x5 : Ext H1 (upd H4 (.tmp mc) (.lst (natsD (can g.net b) ++ [.int 0]))) := x4.setT hn
      have c5 : upd H4 (.tmp mc) (.lst (natsD (can g.net b) ++ [.int 0])) (.tmp m1) = some (.lst (natsD (can g.net b))) := by rw [upd_ne (by simpa using fun z => mne z.symm)]; exact c4
      generalize upd H4 (.tmp mc) (.lst (natsD (can g.net b) ++ [.int 0])) = H5 at x5 c5 ⊢
      refine rd_can (G1.ext x5) eb (fun Q h => h) ok hb fun m6 hm6 => ?_
      refine ⟨_, _, rfl, same_nats upd_same (((Ext.refl H5).newT hm6).st _ _ c5) (by omega) 1, q4 _ (x5.newT hm6)⟩
  have ne0 : ∀ {m m' : Nat} {o : DO} {H' : DH}, H' (.tmp m) = some o → H' (.tmp m') = none → m ≠ m' := fun h1 h2 z => by rw [z, h2] at h1; cases h1
  by_cases h0 : a = 0
  · simp only [decide_eq_true h0, Bool.false_xor, dSeq2, dIfS, dRet, dRetN, dVar, dC, dOp, dUn, dCons, dNil, dTup, dAsg, bindT, bindTs, itemsD, dIsi, isD, dAndV, dOrV, dNotV, dAnd, dOr, dNot, dTest, tru, dBl, dCall, dCB, dLen, dChain, dLe, dLt, dGe, dGt, dI2, dI2C, dIx, dNext, dDrop, dSet, dSetF, dSub, dMul, dAdd, dMod, dFdiv, dPow, dNeg, dIf, dIntC, dEqN, dEq, dNe, dIsN, dNew, dLst, dTupF, dLenF, dTupleC, dPar, startD, List.length_cons, List.length_nil, List.map_cons, List.map_nil, List.cons_append, List.nil_append, List.getElem?_cons_zero, List.getElem?_cons_succ, List.set_cons_zero, List.set_cons_succ, List.replicate_succ, List.replicate_zero, Nat.reduceAdd, Nat.reduceSub, true_and, wipeD, subT_tt, subT_ii, subT_ib, subT_ll, subT_lt, subT_il, subT_it, subT_tl, subT_is, if_true, if_false, Bool.false_eq_true, Bool.not_true, Bool.not_false]
    refine rd_bag G1 eb (fun Q h => h) (rd_row G1 (fun Q h => h) ok (rd_can G1 eb (fun Q h => h) ok hb fun mc hmc => ?_))
    have y1 := (Ext.refl H1).newT (o := .lst (natsD (can g.net b))) hmc
    refine rd_len (G1.ext y1) (fun Q h => h) ok ⟨by simp [sizeLine], .inr fun mt hmt => ?_⟩
    refine rest _ mt mc _ _ _ (y1.newT hmt) upd_same ?_ hmc
    rw [upd_ne (by have := ne0 (H' := upd H1 (.tmp mc) (.lst (natsD (can g.net b)))) upd_same hmt; simpa using this), upd_same]
  · simp only [decide_eq_false h0, Bool.false_xor, dSeq2, dIfS, dRet, dRetN, dVar, dC, dOp, dUn, dCons, dNil, dTup, dAsg, bindT, bindTs, itemsD, dIsi, isD, dAndV, dOrV, dNotV, dAnd, dOr, dNot, dTest, tru, dBl, dCall, dCB, dLen, dChain, dLe, dLt, dGe, dGt, dI2, dI2C, dIx, dNext, dDrop, dSet, dSetF, dSub, dMul, dAdd, dMod, dFdiv, dPow, dNeg, dIf, dIntC, dEqN, dEq, dNe, dIsN, dNew, dLst, dTupF, dLenF, dTupleC, dPar, startD, List.length_cons, List.length_nil, List.map_cons, List.map_nil, List.cons_append, List.nil_append, List.getElem?_cons_zero, List.getElem?_cons_succ, List.set_cons_zero, List.set_cons_succ, List.replicate_succ, List.replicate_zero, Nat.reduceAdd, Nat.reduceSub, true_and, wipeD, subT_tt, subT_ii, subT_ib, subT_ll, subT_lt, subT_il, subT_it, subT_tl, subT_is, if_true, if_false, Bool.false_eq_true, Bool.not_true, Bool.not_false]
    by_cases h1 : a = 1
    · simp only [decide_eq_true h1, Bool.false_xor, dSeq2, dIfS, dRet, dRetN, dVar, dC, dOp, dUn, dCons, dNil, dTup, dAsg, bindT, bindTs, itemsD, dIsi, isD, dAndV, dOrV, dNotV, dAnd, dOr, dNot, dTest, tru, dBl, dCall, dCB, dLen, dChain, dLe, dLt, dGe, dGt, dI2, dI2C, dIx, dNext, dDrop, dSet, dSetF, dSub, dMul, dAdd, dMod, dFdiv, dPow, dNeg, dIf, dIntC, dEqN, dEq, dNe, dIsN, dNew, dLst, dTupF, dLenF, dTupleC, dPar, startD, List.length_cons, List.length_nil, List.map_cons, List.map_nil, List.cons_append, List.nil_append, List.getElem?_cons_zero, List.getElem?_cons_succ, List.set_cons_zero, List.set_cons_succ, List.replicate_succ, List.replicate_zero, Nat.reduceAdd, Nat.reduceSub, true_and, wipeD, subT_tt, subT_ii, subT_ib, subT_ll, subT_lt, subT_il, subT_it, subT_tl, subT_is, if_true, if_false, Bool.false_eq_true, Bool.not_true, Bool.not_false]
      refine rd_len G1 (fun Q h => h) ok (rd_can G1 eb (fun Q h => h) ok hb fun mc hmc => ?_)
      have y1 := (Ext.refl H1).newT (o := .lst (natsD (can g.net b))) hmc
      refine rd_row (G1.ext y1) (fun Q h => h) ok ?_
      refine rd_bag (G1.ext y1) eb (fun Q h => h) ⟨by simp [sizeLine], .inr fun mt hmt => ?_⟩
      refine rest _ mt mc _ _ _ (y1.newT hmt) upd_same ?_ hmc
      rw [upd_ne (by have := ne0 (H' := upd H1 (.tmp mc) (.lst (natsD (can g.net b)))) upd_same hmt; simpa using this), upd_same]
    · simp only [decide_eq_false h1, Bool.false_xor, dSeq2, dIfS, dRet, dRetN, dVar, dC, dOp, dUn, dCons, dNil, dTup, dAsg, bindT, bindTs, itemsD, dIsi, isD, dAndV, dOrV, dNotV, dAnd, dOr, dNot, dTest, tru, dBl, dCall, dCB, dLen, dChain, dLe, dLt, dGe, dGt, dI2, dI2C, dIx, dNext, dDrop, dSet, dSetF, dSub, dMul, dAdd, dMod, dFdiv, dPow, dNeg, dIf, dIntC, dEqN, dEq, dNe, dIsN, dNew, dLst, dTupF, dLenF, dTupleC, dPar, startD, List.length_cons, List.length_nil, List.map_cons, List.map_nil, List.cons_append, List.nil_append, List.getElem?_cons_zero, List.getElem?_cons_succ, List.set_cons_zero, List.set_cons_succ, List.replicate_succ, List.replicate_zero, Nat.reduceAdd, Nat.reduceSub, true_and, wipeD, subT_tt, subT_ii, subT_ib, subT_ll, subT_lt, subT_il, subT_it, subT_tl, subT_is, if_true, if_false, Bool.false_eq_true, Bool.not_true, Bool.not_false]
      refine rd_row G1 (fun Q h => h) ok ?_
      refine rd_bag G1 eb (fun Q h => h) (rd_can G1 eb (fun Q h => h) ok hb fun mc hmc => ?_)
      have y1 := (Ext.refl H1).newT (o := .lst (natsD (can g.net b))) hmc
      refine rd_len (G1.ext y1) (fun Q h => h) ok ⟨by simp [sizeLine], .inr fun mt hmt => ?_⟩
      refine rest _ mt mc _ _ _ (y1.newT hmt) upd_same ?_ hmc
      rw [upd_ne (by have := ne0 (H' := upd H1 (.tmp mc) (.lst (natsD (can g.net b)))) upd_same hmt; simpa using this), upd_same]
end K57

namespace K57
open PySem PySem.Spec
open PyProof.Rows DL
theorem pd_nats (H : DH) : ∀ l : List Nat, P2 (PD H) (natsD l) (l.map fun (i : Nat) => PyData.int (i : Int))
  | [] => .nil
  | a :: r => .cons (.int _) (pd_nats H r)
theorem shaped_nats : ∀ l : List Nat, SeqAt.shaped (.list (l.map fun (i : Nat) => PyData.int (i : Int))) = true := by
  intro l
  have h1 : ∀ l : List Nat, PyData.canLayAll0 (l.map fun (i : Nat) => PyData.int (i : Int)) = true := by
    intro l
    induction l with
    | nil => rfl
    | cons a r ih => simp [PyData.canLayAll0, PyData.canLay0, ih]
  have h2 : ∀ l : List Nat, PyData.depthAll (l.map fun (i : Nat) => PyData.int (i : Int)) = 0 := by
    intro l
    induction l with
    | nil => rfl
    | cons a r ih => simp [PyData.depthAll, PyData.depth, ih]
  simp [SeqAt.shaped, PyData.canLay0, PyData.depth, h1, h2]
theorem cmp_nats {H : DH} {i : Oid} {l : List Nat} (h : H i = some (.lst (natsD l))) :
    ∃ p qs, PD H (.ref i) p ∧ P2 (PD H) [] qs ∧ SeqAt.shaped p = true ∧ SeqAt.shaped (.list qs) = true ∧ (true ^^ PyData.eqv p (.list qs)) = decide (l ≠ []) := by
  refine ⟨_, [], .lst h (pd_nats H l), .nil, shaped_nats l, rfl, ?_⟩
  cases l with
  | nil => rfl
  | cons a r => simp [PyData.eqv, PyData.eqvAll]
theorem Hist.back {n : Net} {bs : List (List Int)} {ds : List Nat} (h : Hist n bs ds) : ds = [] ∨ ∃ bs' b ds' d, bs = bs' ++ [b] ∧ ds = ds' ++ [d] ∧ Hist n bs' ds' := by
  cases h with
  | one => exact .inl rfl
  | more h h1 h2 => exact .inr ⟨_, _, _, _, rfl, rfl, h⟩
theorem can_at {n : Net} {b : List Int} {r : Nat} (h : r < (can n b).length) : ∃ d, (can n b)[r]? = some d ∧ d < n.deeds.length ∧ canB n b d = true := by
  refine ⟨(can n b)[r], List.getElem?_eq_getElem h, ?_⟩
  have := List.getElem_mem h
  unfold can at this ⊢
  obtain ⟨h1, h2⟩ := List.mem_filter.mp this
  exact ⟨List.mem_range.mp h1, h2⟩
theorem GamesAt.put {H H' : DH} {l : Oid} {gs : List Game} {k : Nat} {g : Game} (A : GamesAt H l gs) (hk : k < gs.length) (e : H' l = H l) (G : GameAt H' k g) (ok : GameOk g) (few : g.deeds.length ≤ 60) (fr : ∀ k' m, k' ≠ k → H' (.nm [k', m]) = H (.nm [k', m])) : GamesAt H' l (gs.set k g) := by
  refine ⟨by rw [List.length_set, e]; exact A.self, fun k' g' h => ?_, fun k' h m hm => ?_, by rw [List.length_set]; exact A.few⟩
  · by_cases z : k' = k
    · subst z
      rw [List.getElem?_set_self hk] at h
      cases h
      exact ⟨G, ok, few⟩
    · rw [List.getElem?_set_ne (Ne.symm z)] at h
      obtain ⟨a, b, c⟩ := A.each k' g' h
      exact ⟨a.frame fun m _ => fr k' m z, b, c⟩
  · rw [List.length_set] at h
    rw [fr k' m (by omega)]
    exact A.free k' h m hm
theorem GamesAt.frame {H H' : DH} {l : Oid} {gs : List Game} (A : GamesAt H l gs) (e : H' l = H l) (fr : ∀ k' m, H' (.nm [k', m]) = H (.nm [k', m])) : GamesAt H' l gs :=
  ⟨e.trans A.self, fun k' g' h => let ⟨a, b, c⟩ := A.each k' g' h; ⟨a.frame fun m _ => fr k' m, b, c⟩, fun k' h m hm => by rw [fr]; exact A.free k' h m hm, A.few⟩
theorem p__law_turned : Pok N__law_turned 4 S__law_turned t__law_turned := by
  rintro as H Q W - ⟨ic, gs, k, way, rfl, B, A, hk, hf, q⟩
  obtain ⟨g, hg⟩ : ∃ g, gs[k]? = some g := ⟨_, List.getElem?_eq_getElem hk⟩
  obtain ⟨G, ok, dl⟩ := A.each k g hg
  obtain ⟨cs, b, eb, hb⟩ := ok.hist.last ok.net
  have few := ok.net.few
  have hl := ok.hist.len
  have gf := A.few
  have cl := can_len g.net b
  simp only [t__law_turned, N__law_turned, G.self, dSeq2, dIfS, dRet, dRetN, dVar, dC, dOp, dUn, dCons, dNil, dTup, dAsg, bindT, bindTs, itemsD, dIsi, isD, dAndV, dOrV, dNotV, dAnd, dOr, dNot, dTest, tru, dBl, dCall, dCB, dLen, dChain, dLe, dLt, dGe, dGt, dI2, dI2C, dIx, dNext, dDrop, dSet, dSetF, dSub, dMul, dAdd, dMod, dFdiv, dPow, dNeg, dIf, dIntC, dEqN, dEq, dNe, dIsN, dNew, dLst, dTupF, dLenF, dTupleC, dPar, startD, List.length_cons, List.length_nil, List.map_cons, List.map_nil, List.cons_append, List.nil_append, List.getElem?_cons_zero, List.getElem?_cons_succ, List.set_cons_zero, List.set_cons_succ, List.replicate_succ, List.replicate_zero, Nat.reduceAdd, Nat.reduceSub, true_and, wipeD, subT_tt, subT_ii, subT_ib, subT_ll, subT_lt, subT_il, subT_it, subT_tl, subT_is, if_true, if_false, Bool.false_eq_true, Bool.not_true, Bool.not_false]
  simp only [netD, atI_two, List.length_map, dSeq2, dIfS, dRet, dRetN, dVar, dC, dOp, dUn, dCons, dNil, dTup, dAsg, bindT, bindTs, itemsD, dIsi, isD, dAndV, dOrV, dNotV, dAnd, dOr, dNot, dTest, tru, dBl, dCall, dCB, dLen, dChain, dLe, dLt, dGe, dGt, dI2, dI2C, dIx, dNext, dDrop, dSet, dSetF, dSub, dMul, dAdd, dMod, dFdiv, dPow, dNeg, dIf, dIntC, dEqN, dEq, dNe, dIsN, dNew, dLst, dTupF, dLenF, dTupleC, dPar, startD, List.length_cons, List.length_nil, List.map_cons, List.map_nil, List.cons_append, List.nil_append, List.getElem?_cons_zero, List.getElem?_cons_succ, List.set_cons_zero, List.set_cons_succ, List.replicate_succ, List.replicate_zero, Nat.reduceAdd, Nat.reduceSub, true_and, wipeD, subT_tt, subT_ii, subT_ib, subT_ll, subT_lt, subT_il, subT_it, subT_tl, subT_is, if_true, if_false, Bool.false_eq_true, Bool.not_true, Bool.not_false]
  refine lc_fil (xs := rangeD 0 g.net.deeds.length) (canB g.net b) (fun j => .int (j : Int)) (fun R h => ?_) (by rw [range_len]; omega) (fun j x hx => ?_) ?_
  · simp only [dRng1, atI_two, List.length_map, dSeq2, dIfS, dRet, dRetN, dVar, dC, dOp, dUn, dCons, dNil, dTup, dAsg, bindT, bindTs, itemsD, dIsi, isD, dAndV, dOrV, dNotV, dAnd, dOr, dNot, dTest, tru, dBl, dCall, dCB, dLen, dChain, dLe, dLt, dGe, dGt, dI2, dI2C, dIx, dNext, dDrop, dSet, dSetF, dSub, dMul, dAdd, dMod, dFdiv, dPow, dNeg, dIf, dIntC, dEqN, dEq, dNe, dIsN, dNew, dLst, dTupF, dLenF, dTupleC, dPar, startD, List.length_cons, List.length_nil, List.map_cons, List.map_nil, List.cons_append, List.nil_append, List.getElem?_cons_zero, List.getElem?_cons_succ, List.set_cons_zero, List.set_cons_succ, List.replicate_succ, List.replicate_zero, Nat.reduceAdd, Nat.reduceSub, true_and, wipeD, subT_tt, subT_ii, subT_ib, subT_ll, subT_lt, subT_il, subT_it, subT_tl, subT_is, if_true, if_false, Bool.false_eq_true, Bool.not_true, Bool.not_false]
    exact ⟨⟨by omega, by omega⟩, by simpa using h⟩
  · obtain ⟨hj, rfl⟩ := range_at hx
    obtain ⟨d, hd, e1, e2⟩ := fil_can (H := H) (cs := cs) ok.net hb hj
    refine ⟨_, rfl, fun R r => ?_, fun R _ r => ?_⟩
    · simp only [G.bags, eb, List.map_append, atI_last, Int.zero_add, deed_at hd, deedD, atI_two, bagD, e1, dSeq2, dIfS, dRet, dRetN, dVar, dC, dOp, dUn, dCons, dNil, dTup, dAsg, bindT, bindTs, itemsD, dIsi, isD, dAndV, dOrV, dNotV, dAnd, dOr, dNot, dTest, tru, dBl, dCall, dCB, dLen, dChain, dLe, dLt, dGe, dGt, dI2, dI2C, dIx, dNext, dDrop, dSet, dSetF, dSub, dMul, dAdd, dMod, dFdiv, dPow, dNeg, dIf, dIntC, dEqN, dEq, dNe, dIsN, dNew, dLst, dTupF, dLenF, dTupleC, dPar, startD, List.length_cons, List.length_nil, List.map_cons, List.map_nil, List.cons_append, List.nil_append, List.getElem?_cons_zero, List.getElem?_cons_succ, List.set_cons_zero, List.set_cons_succ, List.replicate_succ, List.replicate_zero, Nat.reduceAdd, Nat.reduceSub, true_and, wipeD, subT_tt, subT_ii, subT_ib, subT_ll, subT_lt, subT_il, subT_it, subT_tl, subT_is, if_true, if_false, Bool.false_eq_true, Bool.not_true, Bool.not_false]
      rw [← e2]; exact r
    · simp only [Int.zero_add, dSeq2, dIfS, dRet, dRetN, dVar, dC, dOp, dUn, dCons, dNil, dTup, dAsg, bindT, bindTs, itemsD, dIsi, isD, dAndV, dOrV, dNotV, dAnd, dOr, dNot, dTest, tru, dBl, dCall, dCB, dLen, dChain, dLe, dLt, dGe, dGt, dI2, dI2C, dIx, dNext, dDrop, dSet, dSetF, dSub, dMul, dAdd, dMod, dFdiv, dPow, dNeg, dIf, dIntC, dEqN, dEq, dNe, dIsN, dNew, dLst, dTupF, dLenF, dTupleC, dPar, startD, List.length_cons, List.length_nil, List.map_cons, List.map_nil, List.cons_append, List.nil_append, List.getElem?_cons_zero, List.getElem?_cons_succ, List.set_cons_zero, List.set_cons_succ, List.replicate_succ, List.replicate_zero, Nat.reduceAdd, Nat.reduceSub, true_and, wipeD, subT_tt, subT_ii, subT_ib, subT_ll, subT_lt, subT_il, subT_it, subT_tl, subT_is, if_true, if_false, Bool.false_eq_true, Bool.not_true, Bool.not_false]; exact r
  rw [range_len]
  refine .inr fun m1 hm1 => ?_
  have ecan : List.map (fun (j : Nat) => D.int (j : Int)) (List.filter (canB g.net b) (List.range g.net.deeds.length)) = natsD (can g.net b) := rfl
  rw [ecan]
  have c1 : upd H (.tmp m1) (.lst (natsD (can g.net b))) (.tmp m1) = some (.lst (natsD (can g.net b))) := upd_same
  have fr1 : ∀ p, upd H (.tmp m1) (.lst (natsD (can g.net b))) (.nm p) = H (.nm p) := fun p => upd_ne (by simp)
  generalize upd H (.tmp m1) (.lst (natsD (can g.net b))) = H1 at c1 fr1 ⊢
  have B1 : WellAt H1 (.nm [100]) (.nm [102]) := B.frame (fr1 _) (fr1 _)
  have A1 : GamesAt H1 (.nm [101]) gs := A.frame (fr1 _) fun _ _ => fr1 _
  have G1 : GameAt H1 k g := G.frame fun _ _ => fr1 _
  have hf1 : ∀ k m, 50 ≤ k → H1 (.nm [k, m]) = none := fun k m h => by rw [fr1]; exact hf k m h
  have fin : ∀ (a b c d e f g h i j : Option D) (H' : DH) (gs' : List Game), gs.length ≤ gs'.length → WellAt H' (.nm [100]) (.nm [102]) → GamesAt H' (.nm [101]) gs' → (∀ k m, 50 ≤ k → H' (.nm [k, m]) = none) → t__law_turned_r0 W { nx := fun _ H' => Q .non H', rt := Q } [a, b, c, d, e, some .non, f, g, h, i, j] H' := by
    intro a b c d e f g h i j H' gs' h0 h1 h2 h3
    simp only [t__law_turned_r0, dSeq2, dIfS, dRet, dRetN, dVar, dC, dOp, dUn, dCons, dNil, dTup, dAsg, bindT, bindTs, itemsD, dIsi, isD, dAndV, dOrV, dNotV, dAnd, dOr, dNot, dTest, tru, dBl, dCall, dCB, dLen, dChain, dLe, dLt, dGe, dGt, dI2, dI2C, dIx, dNext, dDrop, dSet, dSetF, dSub, dMul, dAdd, dMod, dFdiv, dPow, dNeg, dIf, dIntC, dEqN, dEq, dNe, dIsN, dNew, dLst, dTupF, dLenF, dTupleC, dPar, startD, List.length_cons, List.length_nil, List.map_cons, List.map_nil, List.cons_append, List.nil_append, List.getElem?_cons_zero, List.getElem?_cons_succ, List.set_cons_zero, List.set_cons_succ, List.replicate_succ, List.replicate_zero, Nat.reduceAdd, Nat.reduceSub, true_and, wipeD, subT_tt, subT_ii, subT_ib, subT_ll, subT_lt, subT_il, subT_it, subT_tl, subT_is, if_true, if_false, Bool.false_eq_true, Bool.not_true, Bool.not_false]
    exact q gs' H' h0 h1 h2 h3
  -- a new twin, or nothing
  have three : ∀ (Dd : DEnds), (∀ (H' : DH) (gs' : List Game), gs.length ≤ gs'.length → WellAt H' (.nm [100]) (.nm [102]) → GamesAt H' (.nm [101]) gs' → (∀ k m, 50 ≤ k → H' (.nm [k, m]) = none) → Dd.nx [some (.ref (.nm [100])), some (.ref (.nm [101])), some (.ref (.nm [k, 0])), some (.int way), some (.ref (.tmp m1)), some .non, some (.ref (.nm [k, 1])), some (.tup [.int (g.net.places : Int), .tup (g.net.deeds.map deedD)]), some (.ref (.nm [k, 4])), some (.ref (.nm [k, 5])), none] H') →
      dIfS (dBl (dOp dLt (dCB dLen (dCons (dVar 1) dNil)) (dC (.int 6)))) (dDrop (dBM "list" mAppend (dVar 1) (dCons (dNew (dLst (dCons (dMeth 0 1 S_Board_twin W (dVar 6) dNil) (dCons (dVar 7) (dCons (dNew (dListOf (dVar 8))) (dCons (dNew (dListOf (dVar 9))) dNil)))))) dNil))) dNext Dd
    [some (.ref (.nm [100])), some (.ref (.nm [101])), some (.ref (.nm [k, 0])), some (.int way), some (.ref (.tmp m1)), some .non, some (.ref (.nm [k, 1])), some (.tup [.int (g.net.places : Int), .tup (g.net.deeds.map deedD)]), some (.ref (.nm [k, 4])), some (.ref (.nm [k, 5])), none] H1 := by
    intro Dd z
    simp only [A1.self, dSeq2, dIfS, dRet, dRetN, dVar, dC, dOp, dUn, dCons, dNil, dTup, dAsg, bindT, bindTs, itemsD, dIsi, isD, dAndV, dOrV, dNotV, dAnd, dOr, dNot, dTest, tru, dBl, dCall, dCB, dLen, dChain, dLe, dLt, dGe, dGt, dI2, dI2C, dIx, dNext, dDrop, dSet, dSetF, dSub, dMul, dAdd, dMod, dFdiv, dPow, dNeg, dIf, dIntC, dEqN, dEq, dNe, dIsN, dNew, dLst, dTupF, dLenF, dTupleC, dPar, startD, List.length_cons, List.length_nil, List.map_cons, List.map_nil, List.cons_append, List.nil_append, List.getElem?_cons_zero, List.getElem?_cons_succ, List.set_cons_zero, List.set_cons_succ, List.replicate_succ, List.replicate_zero, Nat.reduceAdd, Nat.reduceSub, true_and, wipeD, subT_tt, subT_ii, subT_ib, subT_ll, subT_lt, subT_il, subT_it, subT_tl, subT_is, if_true, if_false, Bool.false_eq_true, Bool.not_true, Bool.not_false]
    by_cases h6 : gs.length < 6
    · have e6 : decide (((List.map (fun k => D.ref (Oid.nm [k, 0])) (List.range gs.length)).length : Int) < 6) = true := decide_eq_true (by rw [List.length_map, List.length_range]; omega)
      simp only [e6, dBM, isT, A1.self, subT_ll, dMeth, dListOf, dSeq2, dIfS, dRet, dRetN, dVar, dC, dOp, dUn, dCons, dNil, dTup, dAsg, bindT, bindTs, itemsD, dIsi, isD, dAndV, dOrV, dNotV, dAnd, dOr, dNot, dTest, tru, dBl, dCall, dCB, dLen, dChain, dLe, dLt, dGe, dGt, dI2, dI2C, dIx, dNext, dDrop, dSet, dSetF, dSub, dMul, dAdd, dMod, dFdiv, dPow, dNeg, dIf, dIntC, dEqN, dEq, dNe, dIsN, dNew, dLst, dTupF, dLenF, dTupleC, dPar, startD, List.length_cons, List.length_nil, List.map_cons, List.map_nil, List.cons_append, List.nil_append, List.getElem?_cons_zero, List.getElem?_cons_succ, List.set_cons_zero, List.set_cons_succ, List.replicate_succ, List.replicate_zero, Nat.reduceAdd, Nat.reduceSub, true_and, wipeD, subT_tt, subT_ii, subT_ib, subT_ll, subT_lt, subT_il, subT_it, subT_tl, subT_is, if_true, if_false, Bool.false_eq_true, Bool.not_true, Bool.not_false]
      have nf := fun m => A1.free gs.length (Nat.le_refl _) m (by omega)
      generalize hk2 : gs.length = k2 at *
      refine ⟨by decide, G1.board.insn, _, _, _, _, _, _, rfl, G1.board, ok.net, ok.hist, ok.few, [k2, 1], [k2, 2], [k2, 3], nf 1, nf 2, nf 3, by simp, by simp, by simp, fun H2 C2 fr2 => ?_⟩
      have s2 : ∀ k' m, k' ≠ k2 → H2 (.nm [k', m]) = H1 (.nm [k', m]) := fun k' m h => fr2 _ (by simp [h]) (by simp [h]) (by simp [h])
      have f2 : ∀ m, 3 < m ∨ m = 0 → H2 (.nm [k2, m]) = none := fun m h => by
        rw [fr2 _ (by simp; omega) (by simp; omega) (by simp; omega)]; exact nf m
      have G2 : GameAt H2 k g := G1.frame fun m _ => s2 k m (by omega)
      simp only [G2.bags, G2.deeds, dSeq2, dIfS, dRet, dRetN, dVar, dC, dOp, dUn, dCons, dNil, dTup, dAsg, bindT, bindTs, itemsD, dIsi, isD, dAndV, dOrV, dNotV, dAnd, dOr, dNot, dTest, tru, dBl, dCall, dCB, dLen, dChain, dLe, dLt, dGe, dGt, dI2, dI2C, dIx, dNext, dDrop, dSet, dSetF, dSub, dMul, dAdd, dMod, dFdiv, dPow, dNeg, dIf, dIntC, dEqN, dEq, dNe, dIsN, dNew, dLst, dTupF, dLenF, dTupleC, dPar, startD, List.length_cons, List.length_nil, List.map_cons, List.map_nil, List.cons_append, List.nil_append, List.getElem?_cons_zero, List.getElem?_cons_succ, List.set_cons_zero, List.set_cons_succ, List.replicate_succ, List.replicate_zero, Nat.reduceAdd, Nat.reduceSub, true_and, wipeD, subT_tt, subT_ii, subT_ib, subT_ll, subT_lt, subT_il, subT_it, subT_tl, subT_is, if_true, if_false, Bool.false_eq_true, Bool.not_true, Bool.not_false]
      refine .inl ⟨[k2, 4], f2 4 (by omega), ?_⟩
      have e5 : upd H2 (.nm [k2, 4]) (.lst (g.bags.map bagD)) (.nm [k, 5]) = some (.lst (natsD g.deeds)) := by rw [upd_ne (by simp)]; exact G2.deeds
      simp only [e5, dSeq2, dIfS, dRet, dRetN, dVar, dC, dOp, dUn, dCons, dNil, dTup, dAsg, bindT, bindTs, itemsD, dIsi, isD, dAndV, dOrV, dNotV, dAnd, dOr, dNot, dTest, tru, dBl, dCall, dCB, dLen, dChain, dLe, dLt, dGe, dGt, dI2, dI2C, dIx, dNext, dDrop, dSet, dSetF, dSub, dMul, dAdd, dMod, dFdiv, dPow, dNeg, dIf, dIntC, dEqN, dEq, dNe, dIsN, dNew, dLst, dTupF, dLenF, dTupleC, dPar, startD, List.length_cons, List.length_nil, List.map_cons, List.map_nil, List.cons_append, List.nil_append, List.getElem?_cons_zero, List.getElem?_cons_succ, List.set_cons_zero, List.set_cons_succ, List.replicate_succ, List.replicate_zero, Nat.reduceAdd, Nat.reduceSub, true_and, wipeD, subT_tt, subT_ii, subT_ib, subT_ll, subT_lt, subT_il, subT_it, subT_tl, subT_is, if_true, if_false, Bool.false_eq_true, Bool.not_true, Bool.not_false]
      refine .inl ⟨[k2, 5], by rw [upd_ne (by simp)]; exact f2 5 (by omega), ⟨by simp [sizeLine], .inl ⟨[k2, 0], by rw [upd_ne (by simp), upd_ne (by simp)]; exact f2 0 (by omega), ?_⟩⟩⟩
      have e101 : upd (upd (upd H2 (.nm [k2, 4]) (.lst (g.bags.map bagD))) (.nm [k2, 5]) (.lst (natsD g.deeds))) (.nm [k2, 0]) (.lst [.ref (.nm [k2, 1]), .tup [.int (g.net.places : Int), .tup (g.net.deeds.map deedD)], .ref (.nm [k2, 4]), .ref (.nm [k2, 5])]) (.nm [101]) = some (.lst ((List.range gs.length).map fun k => .ref (.nm [k, 0]))) := by
        rw [upd_ne (by simp), upd_ne (by simp), upd_ne (by simp), fr2 _ (by simp) (by simp) (by simp)]; exact A1.self
      simp only [mAppend, e101]
      refine ⟨by rw [List.length_map, List.length_range, hk2]; simp [sizeLine]; omega, z _ (gs ++ [g]) (by rw [List.length_append]; omega) ?_ ⟨?_, fun k' g' h => ?_, fun k' h m hm => ?_, by rw [List.length_append, List.length_singleton]; omega⟩ fun k' m h => ?_⟩
      · refine B1.frame ?_ ?_ <;> rw [upd_ne (by simp), upd_ne (by simp), upd_ne (by simp), upd_ne (by simp), fr2 _ (by simp) (by simp) (by simp)]
      · rw [upd_same, List.length_append, List.length_singleton, List.range_succ, List.map_append, hk2]; rfl
      · by_cases hkk : k' < gs.length
        · rw [List.getElem?_append_left hkk] at h
          obtain ⟨a, b', c⟩ := A1.each k' g' h
          have hne : k' ≠ k2 := by omega
          refine ⟨a.frame fun m _ => ?_, b', c⟩
          rw [upd_ne (by simp), upd_ne (by simp [hne]), upd_ne (by simp [hne]), upd_ne (by simp [hne]), s2 k' m hne]
        · have hl2 : k' = gs.length := by
            have := (List.getElem?_eq_some_iff.mp h).1
            rw [List.length_append, List.length_singleton] at this; omega
          subst hl2
          have h : g = g' := by simpa using h
          subst h
          rw [hk2]
          refine ⟨⟨?_, C2.frame ?_ ?_ ?_, ?_, ?_⟩, ok, dl⟩
          · rw [upd_ne (by simp), upd_same]; rfl
          · rw [upd_ne (by simp), upd_ne (by simp), upd_ne (by simp), upd_ne (by simp)]
          · rw [upd_ne (by simp), upd_ne (by simp), upd_ne (by simp), upd_ne (by simp)]
          · rw [upd_ne (by simp), upd_ne (by simp), upd_ne (by simp), upd_ne (by simp)]
          · rw [upd_ne (by simp), upd_ne (by simp), upd_ne (by simp), upd_same]
          · rw [upd_ne (by simp), upd_ne (by simp), upd_same]
      · rw [List.length_append, List.length_singleton, hk2] at h
        have hne : k' ≠ k2 := by omega
        rw [upd_ne (by simp), upd_ne (by simp [hne]), upd_ne (by simp [hne]), upd_ne (by simp [hne]), s2 k' m hne]
        exact A1.free k' (by omega) m hm
      · have hne : k' ≠ k2 := by omega
        rw [upd_ne (by simp), upd_ne (by simp [hne]), upd_ne (by simp [hne]), upd_ne (by simp [hne]), s2 k' m hne]
        exact hf1 k' m h
    · have e6 : decide (((List.map (fun k => D.ref (Oid.nm [k, 0])) (List.range gs.length)).length : Int) < 6) = false := decide_eq_false (by rw [List.length_map, List.length_range]; omega)
      simp only [e6, dSeq2, dIfS, dRet, dRetN, dVar, dC, dOp, dUn, dCons, dNil, dTup, dAsg, bindT, bindTs, itemsD, dIsi, isD, dAndV, dOrV, dNotV, dAnd, dOr, dNot, dTest, tru, dBl, dCall, dCB, dLen, dChain, dLe, dLt, dGe, dGt, dI2, dI2C, dIx, dNext, dDrop, dSet, dSetF, dSub, dMul, dAdd, dMod, dFdiv, dPow, dNeg, dIf, dIntC, dEqN, dEq, dNe, dIsN, dNew, dLst, dTupF, dLenF, dTupleC, dPar, startD, List.length_cons, List.length_nil, List.map_cons, List.map_nil, List.cons_append, List.nil_append, List.getElem?_cons_zero, List.getElem?_cons_succ, List.set_cons_zero, List.set_cons_succ, List.replicate_succ, List.replicate_zero, Nat.reduceAdd, Nat.reduceSub, true_and, wipeD, subT_tt, subT_ii, subT_ib, subT_ll, subT_lt, subT_il, subT_it, subT_tl, subT_is, if_true, if_false, Bool.false_eq_true, Bool.not_true, Bool.not_false]
      exact z H1 gs (Nat.le_refl _) B1 A1 hf1
  have two : ∀ u : DTS, u { nx := fun σ H => t__law_turned_r0 W { nx := fun _ H' => Q .non H', rt := Q } σ H, rt := Q } [some (.ref (.nm [100])), some (.ref (.nm [101])), some (.ref (.nm [k, 0])), some (.int way), some (.ref (.tmp m1)), some .non, some (.ref (.nm [k, 1])), some (.tup [.int (g.net.places : Int), .tup (g.net.deeds.map deedD)]), some (.ref (.nm [k, 4])), some (.ref (.nm [k, 5])), none] H1 → dIfS (dAnd (dBl (dOp dLt (dVar 3) (dC (.int 8)))) (dCmpFT true (dVar 9) (dLst dNil))) (dSeq2 (dSet 5 (dMeth 0 1 S_Board_undo W (dVar 6) dNil)) (dSeq2 (dDrop (dBM0 "list" mPop (dVar 8))) (dDrop (dBM0 "list" mPop (dVar 9))))) u { nx := fun σ H => t__law_turned_r0 W { nx := fun _ H' => Q .non H', rt := Q } σ H, rt := Q } [some (.ref (.nm [100])), some (.ref (.nm [101])), some (.ref (.nm [k, 0])), some (.int way), some (.ref (.tmp m1)), some .non, some (.ref (.nm [k, 1])), some (.tup [.int (g.net.places : Int), .tup (g.net.deeds.map deedD)]), some (.ref (.nm [k, 4])), some (.ref (.nm [k, 5])), none] H1 := by
    intro u hu
    simp only [dCmpFT, dSeq2, dIfS, dRet, dRetN, dVar, dC, dOp, dUn, dCons, dNil, dTup, dAsg, bindT, bindTs, itemsD, dIsi, isD, dAndV, dOrV, dNotV, dAnd, dOr, dNot, dTest, tru, dBl, dCall, dCB, dLen, dChain, dLe, dLt, dGe, dGt, dI2, dI2C, dIx, dNext, dDrop, dSet, dSetF, dSub, dMul, dAdd, dMod, dFdiv, dPow, dNeg, dIf, dIntC, dEqN, dEq, dNe, dIsN, dNew, dLst, dTupF, dLenF, dTupleC, dPar, startD, List.length_cons, List.length_nil, List.map_cons, List.map_nil, List.cons_append, List.nil_append, List.getElem?_cons_zero, List.getElem?_cons_succ, List.set_cons_zero, List.set_cons_succ, List.replicate_succ, List.replicate_zero, Nat.reduceAdd, Nat.reduceSub, true_and, wipeD, subT_tt, subT_ii, subT_ib, subT_ll, subT_lt, subT_il, subT_it, subT_tl, subT_is, if_true, if_false, Bool.false_eq_true, Bool.not_true, Bool.not_false]
    by_cases h8 : way < 8
    · simp only [decide_eq_true h8, dSeq2, dIfS, dRet, dRetN, dVar, dC, dOp, dUn, dCons, dNil, dTup, dAsg, bindT, bindTs, itemsD, dIsi, isD, dAndV, dOrV, dNotV, dAnd, dOr, dNot, dTest, tru, dBl, dCall, dCB, dLen, dChain, dLe, dLt, dGe, dGt, dI2, dI2C, dIx, dNext, dDrop, dSet, dSetF, dSub, dMul, dAdd, dMod, dFdiv, dPow, dNeg, dIf, dIntC, dEqN, dEq, dNe, dIsN, dNew, dLst, dTupF, dLenF, dTupleC, dPar, startD, List.length_cons, List.length_nil, List.map_cons, List.map_nil, List.cons_append, List.nil_append, List.getElem?_cons_zero, List.getElem?_cons_succ, List.set_cons_zero, List.set_cons_succ, List.replicate_succ, List.replicate_zero, Nat.reduceAdd, Nat.reduceSub, true_and, wipeD, subT_tt, subT_ii, subT_ib, subT_ll, subT_lt, subT_il, subT_it, subT_tl, subT_is, if_true, if_false, Bool.false_eq_true, Bool.not_true, Bool.not_false]
      obtain ⟨p, qs, a1, a2, a3, a4, a5⟩ := cmp_nats G1.deeds
      refine ⟨by simp [sizeLine], p, qs, a1, a2, a3, a4, ?_⟩
      rw [a5]
      rcases ok.hist.back with h | ⟨bs', b', ds', d', e1, e2, hh⟩
      · have e0 : decide (g.deeds ≠ []) = false := decide_eq_false (by simp [h])
        simp only [e0, dSeq2, dIfS, dRet, dRetN, dVar, dC, dOp, dUn, dCons, dNil, dTup, dAsg, bindT, bindTs, itemsD, dIsi, isD, dAndV, dOrV, dNotV, dAnd, dOr, dNot, dTest, tru, dBl, dCall, dCB, dLen, dChain, dLe, dLt, dGe, dGt, dI2, dI2C, dIx, dNext, dDrop, dSet, dSetF, dSub, dMul, dAdd, dMod, dFdiv, dPow, dNeg, dIf, dIntC, dEqN, dEq, dNe, dIsN, dNew, dLst, dTupF, dLenF, dTupleC, dPar, startD, List.length_cons, List.length_nil, List.map_cons, List.map_nil, List.cons_append, List.nil_append, List.getElem?_cons_zero, List.getElem?_cons_succ, List.set_cons_zero, List.set_cons_succ, List.replicate_succ, List.replicate_zero, Nat.reduceAdd, Nat.reduceSub, true_and, wipeD, subT_tt, subT_ii, subT_ib, subT_ll, subT_lt, subT_il, subT_it, subT_tl, subT_is, if_true, if_false, Bool.false_eq_true, Bool.not_true, Bool.not_false]
        exact hu
      · have e0 : decide (g.deeds ≠ []) = true := decide_eq_true (by simp [e2])
        have Bd := G1.board
        rw [e1, e2] at Bd
        have Gb := G1.bags
        have Gd := G1.deeds
        rw [e1] at Gb
        rw [e2] at Gd
        simp only [e0, dMeth, dBM0, dSeq2, dIfS, dRet, dRetN, dVar, dC, dOp, dUn, dCons, dNil, dTup, dAsg, bindT, bindTs, itemsD, dIsi, isD, dAndV, dOrV, dNotV, dAnd, dOr, dNot, dTest, tru, dBl, dCall, dCB, dLen, dChain, dLe, dLt, dGe, dGt, dI2, dI2C, dIx, dNext, dDrop, dSet, dSetF, dSub, dMul, dAdd, dMod, dFdiv, dPow, dNeg, dIf, dIntC, dEqN, dEq, dNe, dIsN, dNew, dLst, dTupF, dLenF, dTupleC, dPar, startD, List.length_cons, List.length_nil, List.map_cons, List.map_nil, List.cons_append, List.nil_append, List.getElem?_cons_zero, List.getElem?_cons_succ, List.set_cons_zero, List.set_cons_succ, List.replicate_succ, List.replicate_zero, Nat.reduceAdd, Nat.reduceSub, true_and, wipeD, subT_tt, subT_ii, subT_ib, subT_ll, subT_lt, subT_il, subT_it, subT_tl, subT_is, if_true, if_false, Bool.false_eq_true, Bool.not_true, Bool.not_false]
        refine ⟨Bd.insn, _, _, _, g.net, bs', b', ds', d', rfl, Bd, fun H2 C2 fr2 => ?_⟩
        have b2 : H2 (.nm [k, 4]) = some (.lst ((bs' ++ [b']).map bagD)) := by rw [fr2 _ (by simp) (by simp)]; exact Gb
        have d2 : H2 (.nm [k, 5]) = some (.lst (natsD (ds' ++ [d']))) := by rw [fr2 _ (by simp) (by simp)]; exact Gd
        have p1 : ((bs' ++ [b']).map bagD)[((bs' ++ [b']).map bagD).length - 1]? = some (bagD b') := by simp
        have p2 : ((bs' ++ [b']).map bagD).dropLast = bs'.map bagD := by simp
        have p3 : (natsD (ds' ++ [d']))[(natsD (ds' ++ [d'])).length - 1]? = some (.int (d' : Int)) := by simp [natsD]
        have p4 : (natsD (ds' ++ [d'])).dropLast = natsD ds' := by simp [natsD]
        simp only [isT, mPop, b2, p1, p2, dSeq2, dIfS, dRet, dRetN, dVar, dC, dOp, dUn, dCons, dNil, dTup, dAsg, bindT, bindTs, itemsD, dIsi, isD, dAndV, dOrV, dNotV, dAnd, dOr, dNot, dTest, tru, dBl, dCall, dCB, dLen, dChain, dLe, dLt, dGe, dGt, dI2, dI2C, dIx, dNext, dDrop, dSet, dSetF, dSub, dMul, dAdd, dMod, dFdiv, dPow, dNeg, dIf, dIntC, dEqN, dEq, dNe, dIsN, dNew, dLst, dTupF, dLenF, dTupleC, dPar, startD, List.length_cons, List.length_nil, List.map_cons, List.map_nil, List.cons_append, List.nil_append, List.getElem?_cons_zero, List.getElem?_cons_succ, List.set_cons_zero, List.set_cons_succ, List.replicate_succ, List.replicate_zero, Nat.reduceAdd, Nat.reduceSub, true_and, wipeD, subT_tt, subT_ii, subT_ib, subT_ll, subT_lt, subT_il, subT_it, subT_tl, subT_is, if_true, if_false, Bool.false_eq_true, Bool.not_true, Bool.not_false]
        have d3 : upd H2 (.nm [k, 4]) (.lst (bs'.map bagD)) (.nm [k, 5]) = some (.lst (natsD (ds' ++ [d']))) := by rw [upd_ne (by simp)]; exact d2
        simp only [d3, p3, p4, dSeq2, dIfS, dRet, dRetN, dVar, dC, dOp, dUn, dCons, dNil, dTup, dAsg, bindT, bindTs, itemsD, dIsi, isD, dAndV, dOrV, dNotV, dAnd, dOr, dNot, dTest, tru, dBl, dCall, dCB, dLen, dChain, dLe, dLt, dGe, dGt, dI2, dI2C, dIx, dNext, dDrop, dSet, dSetF, dSub, dMul, dAdd, dMod, dFdiv, dPow, dNeg, dIf, dIntC, dEqN, dEq, dNe, dIsN, dNew, dLst, dTupF, dLenF, dTupleC, dPar, startD, List.length_cons, List.length_nil, List.map_cons, List.map_nil, List.cons_append, List.nil_append, List.getElem?_cons_zero, List.getElem?_cons_succ, List.set_cons_zero, List.set_cons_succ, List.replicate_succ, List.replicate_zero, Nat.reduceAdd, Nat.reduceSub, true_and, wipeD, subT_tt, subT_ii, subT_ib, subT_ll, subT_lt, subT_il, subT_it, subT_tl, subT_is, if_true, if_false, Bool.false_eq_true, Bool.not_true, Bool.not_false]
        refine ⟨by decide, by decide, fin _ _ _ _ _ _ _ _ _ _ _ (gs.set k ⟨g.net, bs', ds'⟩) (by rw [List.length_set]; exact Nat.le_refl _) ?_ (A1.put hk ?_ ⟨?_, C2.frame ?_ ?_ ?_, ?_, ?_⟩ ⟨ok.net, hh, ?_⟩ ?_ fun k' m h => ?_) fun k' m h => ?_⟩
        · refine B1.frame ?_ ?_ <;> rw [upd_ne (by simp), upd_ne (by simp), fr2 _ (by simp) (by simp)]
        · rw [upd_ne (by simp), upd_ne (by simp), fr2 _ (by simp) (by simp)]
        · rw [upd_ne (by simp), upd_ne (by simp), fr2 _ (by simp) (by simp)]; exact G1.self
        · rw [upd_ne (by simp), upd_ne (by simp)]
        · rw [upd_ne (by simp), upd_ne (by simp)]
        · rw [upd_ne (by simp), upd_ne (by simp)]
        · rw [upd_ne (by simp), upd_same]
        · rw [upd_same]
        · show ds'.length ≤ 500
          rw [e2, List.length_append, List.length_singleton] at dl; omega
        · show ds'.length ≤ 60
          rw [e2, List.length_append, List.length_singleton] at dl; omega
        · rw [upd_ne (by simp [h]), upd_ne (by simp [h]), fr2 _ (by simp [h]) (by simp [h])]
        · have h' : k' ≠ k := by omega
          rw [upd_ne (by simp [h']), upd_ne (by simp [h']), fr2 _ (by simp [h']) (by simp [h'])]; exact hf1 k' m h
    · simp only [decide_eq_false h8, dSeq2, dIfS, dRet, dRetN, dVar, dC, dOp, dUn, dCons, dNil, dTup, dAsg, bindT, bindTs, itemsD, dIsi, isD, dAndV, dOrV, dNotV, dAnd, dOr, dNot, dTest, tru, dBl, dCall, dCB, dLen, dChain, dLe, dLt, dGe, dGt, dI2, dI2C, dIx, dNext, dDrop, dSet, dSetF, dSub, dMul, dAdd, dMod, dFdiv, dPow, dNeg, dIf, dIntC, dEqN, dEq, dNe, dIsN, dNew, dLst, dTupF, dLenF, dTupleC, dPar, startD, List.length_cons, List.length_nil, List.map_cons, List.map_nil, List.cons_append, List.nil_append, List.getElem?_cons_zero, List.getElem?_cons_succ, List.set_cons_zero, List.set_cons_succ, List.replicate_succ, List.replicate_zero, Nat.reduceAdd, Nat.reduceSub, true_and, wipeD, subT_tt, subT_ii, subT_ib, subT_ll, subT_lt, subT_il, subT_it, subT_tl, subT_is, if_true, if_false, Bool.false_eq_true, Bool.not_true, Bool.not_false]
      exact hu
  have other := two _ (three { nx := fun σ H => t__law_turned_r0 W { nx := fun _ H' => Q .non H', rt := Q } σ H, rt := Q } fun H' gs' h0 h1 h2 h3 => fin (some (.ref (.nm [100]))) (some (.ref (.nm [101]))) (some (.ref (.nm [k, 0]))) (some (.int way)) (some (.ref (.tmp m1))) (some (.ref (.nm [k, 1]))) (some (.tup [.int (g.net.places : Int), .tup (g.net.deeds.map deedD)])) (some (.ref (.nm [k, 4]))) (some (.ref (.nm [k, 5]))) none H' gs' h0 h1 h2 h3)
  by_cases h5 : way < 5
  · simp only [decide_eq_true h5, dCmpFT, dSeq2, dIfS, dRet, dRetN, dVar, dC, dOp, dUn, dCons, dNil, dTup, dAsg, bindT, bindTs, itemsD, dIsi, isD, dAndV, dOrV, dNotV, dAnd, dOr, dNot, dTest, tru, dBl, dCall, dCB, dLen, dChain, dLe, dLt, dGe, dGt, dI2, dI2C, dIx, dNext, dDrop, dSet, dSetF, dSub, dMul, dAdd, dMod, dFdiv, dPow, dNeg, dIf, dIntC, dEqN, dEq, dNe, dIsN, dNew, dLst, dTupF, dLenF, dTupleC, dPar, startD, List.length_cons, List.length_nil, List.map_cons, List.map_nil, List.cons_append, List.nil_append, List.getElem?_cons_zero, List.getElem?_cons_succ, List.set_cons_zero, List.set_cons_succ, List.replicate_succ, List.replicate_zero, Nat.reduceAdd, Nat.reduceSub, true_and, wipeD, subT_tt, subT_ii, subT_ib, subT_ll, subT_lt, subT_il, subT_it, subT_tl, subT_is, if_true, if_false, Bool.false_eq_true, Bool.not_true, Bool.not_false]
    obtain ⟨p, qs, a1, a2, a3, a4, a5⟩ := cmp_nats c1
    refine ⟨by simp [sizeLine], p, qs, a1, a2, a3, a4, ?_⟩
    rw [a5]
    by_cases hc : can g.net b = []
    · have e0 : decide (can g.net b ≠ []) = false := decide_eq_false (by simp [hc])
      simp only [e0, dSeq2, dIfS, dRet, dRetN, dVar, dC, dOp, dUn, dCons, dNil, dTup, dAsg, bindT, bindTs, itemsD, dIsi, isD, dAndV, dOrV, dNotV, dAnd, dOr, dNot, dTest, tru, dBl, dCall, dCB, dLen, dChain, dLe, dLt, dGe, dGt, dI2, dI2C, dIx, dNext, dDrop, dSet, dSetF, dSub, dMul, dAdd, dMod, dFdiv, dPow, dNeg, dIf, dIntC, dEqN, dEq, dNe, dIsN, dNew, dLst, dTupF, dLenF, dTupleC, dPar, startD, List.length_cons, List.length_nil, List.map_cons, List.map_nil, List.cons_append, List.nil_append, List.getElem?_cons_zero, List.getElem?_cons_succ, List.set_cons_zero, List.set_cons_succ, List.replicate_succ, List.replicate_zero, Nat.reduceAdd, Nat.reduceSub, true_and, wipeD, subT_tt, subT_ii, subT_ib, subT_ll, subT_lt, subT_il, subT_it, subT_tl, subT_is, if_true, if_false, Bool.false_eq_true, Bool.not_true, Bool.not_false]
      exact other
    · have e0 : decide (can g.net b ≠ []) = true := decide_eq_true hc
      simp only [e0, G1.deeds, dSeq2, dIfS, dRet, dRetN, dVar, dC, dOp, dUn, dCons, dNil, dTup, dAsg, bindT, bindTs, itemsD, dIsi, isD, dAndV, dOrV, dNotV, dAnd, dOr, dNot, dTest, tru, dBl, dCall, dCB, dLen, dChain, dLe, dLt, dGe, dGt, dI2, dI2C, dIx, dNext, dDrop, dSet, dSetF, dSub, dMul, dAdd, dMod, dFdiv, dPow, dNeg, dIf, dIntC, dEqN, dEq, dNe, dIsN, dNew, dLst, dTupF, dLenF, dTupleC, dPar, startD, List.length_cons, List.length_nil, List.map_cons, List.map_nil, List.cons_append, List.nil_append, List.getElem?_cons_zero, List.getElem?_cons_succ, List.set_cons_zero, List.set_cons_succ, List.replicate_succ, List.replicate_zero, Nat.reduceAdd, Nat.reduceSub, true_and, wipeD, subT_tt, subT_ii, subT_ib, subT_ll, subT_lt, subT_il, subT_it, subT_tl, subT_is, if_true, if_false, Bool.false_eq_true, Bool.not_true, Bool.not_false]
      have en : (natsD g.deeds).length = g.deeds.length := by simp [natsD]
      by_cases h60 : ((natsD g.deeds).length : Int) < 60
      · have h60' : g.deeds.length < 60 := by rw [en] at h60; omega
        simp only [decide_eq_true h60, c1, dSeq2, dIfS, dRet, dRetN, dVar, dC, dOp, dUn, dCons, dNil, dTup, dAsg, bindT, bindTs, itemsD, dIsi, isD, dAndV, dOrV, dNotV, dAnd, dOr, dNot, dTest, tru, dBl, dCall, dCB, dLen, dChain, dLe, dLt, dGe, dGt, dI2, dI2C, dIx, dNext, dDrop, dSet, dSetF, dSub, dMul, dAdd, dMod, dFdiv, dPow, dNeg, dIf, dIntC, dEqN, dEq, dNe, dIsN, dNew, dLst, dTupF, dLenF, dTupleC, dPar, startD, List.length_cons, List.length_nil, List.map_cons, List.map_nil, List.cons_append, List.nil_append, List.getElem?_cons_zero, List.getElem?_cons_succ, List.set_cons_zero, List.set_cons_succ, List.replicate_succ, List.replicate_zero, Nat.reduceAdd, Nat.reduceSub, true_and, wipeD, subT_tt, subT_ii, subT_ib, subT_ll, subT_lt, subT_il, subT_it, subT_tl, subT_is, if_true, if_false, Bool.false_eq_true, Bool.not_true, Bool.not_false]
        have hpos : 0 < (can g.net b).length := List.length_pos_iff.mpr hc
        refine ⟨_, _, (can g.net b).length, by simp [natsD], B1, hpos, by omega, fun r H2 hr B2 fr2 => ?_⟩
        obtain ⟨d, hd, hdl, hdc⟩ := can_at hr
        have c2 : H2 (.tmp m1) = some (.lst (natsD (can g.net b))) := by rw [fr2 _ (by simp)]; exact c1
        have ed : L2.atI (natsD (can g.net b)) (r : Int) = some (.int (d : Int)) := atI_nat' (by rw [natsD, List.getElem?_map, hd]; rfl)
        have G2 : GameAt H2 k g := G1.frame fun m _ => fr2 _ (by simp)
        have Bd := G2.board
        have Gb := G2.bags
        have hlc : cs.length + 1 = g.deeds.length + 1 := by rw [eb, List.length_append, List.length_singleton] at hl; exact hl
        rw [eb] at Bd Gb
        have dox : ∀ R : DVK, (∀ H', BoardAt H' (.nm [k, 1]) (.nm [k, 2]) (.nm [k, 3]) g.net (cs ++ [b] ++ [after g.net b d]) (g.deeds ++ [d]) → (∀ j, j ≠ .nm [k, 2] → j ≠ .nm [k, 3] → H' j = H2 j) → R .non H') → S_Board_do [.ref (.nm [k, 1]), .int (d : Int)] H2 R W :=
          fun R h => ⟨_, _, _, g.net, cs, b, g.deeds, d, rfl, Bd, ok.net, hb, hdl, hdc, by omega, by omega, h⟩
        simp only [c2, ed, dSeq2, dIfS, dRet, dRetN, dVar, dC, dOp, dUn, dCons, dNil, dTup, dAsg, bindT, bindTs, itemsD, dIsi, isD, dAndV, dOrV, dNotV, dAnd, dOr, dNot, dTest, tru, dBl, dCall, dCB, dLen, dChain, dLe, dLt, dGe, dGt, dI2, dI2C, dIx, dNext, dDrop, dSet, dSetF, dSub, dMul, dAdd, dMod, dFdiv, dPow, dNeg, dIf, dIntC, dEqN, dEq, dNe, dIsN, dNew, dLst, dTupF, dLenF, dTupleC, dPar, startD, List.length_cons, List.length_nil, List.map_cons, List.map_nil, List.cons_append, List.nil_append, List.getElem?_cons_zero, List.getElem?_cons_succ, List.set_cons_zero, List.set_cons_succ, List.replicate_succ, List.replicate_zero, Nat.reduceAdd, Nat.reduceSub, true_and, wipeD, subT_tt, subT_ii, subT_ib, subT_ll, subT_lt, subT_il, subT_it, subT_tl, subT_is, if_true, if_false, Bool.false_eq_true, Bool.not_true, Bool.not_false]
        have done : ∀ H3, BoardAt H3 (.nm [k, 1]) (.nm [k, 2]) (.nm [k, 3]) g.net (cs ++ [b] ++ [after g.net b d]) (g.deeds ++ [d]) → (∀ j, j ≠ .nm [k, 2] → j ≠ .nm [k, 3] → H3 j = H2 j) →
            dSeq2 (dDrop (dBM "list" mAppend (dVar 8) (dCons (dCall 3 S__law_behind W (dCons (dVar 7) (dCons (dOp dIx (dVar 8) (dUn dNeg (dC (.int 1)))) (dCons (dVar 10) dNil)))) dNil))) (dDrop (dBM "list" mAppend (dVar 9) (dCons (dVar 10) dNil)))
              { nx := fun σ H => t__law_turned_r0 W { nx := fun _ H' => Q .non H', rt := Q } σ H, rt := Q } [some (.ref (.nm [100])), some (.ref (.nm [101])), some (.ref (.nm [k, 0])), some (.int way), some (.ref (.tmp m1)), some .non, some (.ref (.nm [k, 1])), some (.tup [.int (g.net.places : Int), .tup (g.net.deeds.map deedD)]), some (.ref (.nm [k, 4])), some (.ref (.nm [k, 5])), some (.int (d : Int))] H3 := by
          intro H3 C3 fr3
          have b3 : H3 (.nm [k, 4]) = some (.lst ((cs ++ [b]).map bagD)) := by rw [fr3 _ (by simp) (by simp)]; exact Gb
          have d3 : H3 (.nm [k, 5]) = some (.lst (natsD g.deeds)) := by rw [fr3 _ (by simp) (by simp)]; exact G2.deeds
          have la : L2.atI ((cs ++ [b]).map bagD) (-1) = some (bagD b) := by rw [List.map_append]; exact atI_last
          simp only [dBM, isT, mAppend, b3, la, dSeq2, dIfS, dRet, dRetN, dVar, dC, dOp, dUn, dCons, dNil, dTup, dAsg, bindT, bindTs, itemsD, dIsi, isD, dAndV, dOrV, dNotV, dAnd, dOr, dNot, dTest, tru, dBl, dCall, dCB, dLen, dChain, dLe, dLt, dGe, dGt, dI2, dI2C, dIx, dNext, dDrop, dSet, dSetF, dSub, dMul, dAdd, dMod, dFdiv, dPow, dNeg, dIf, dIntC, dEqN, dEq, dNe, dIsN, dNew, dLst, dTupF, dLenF, dTupleC, dPar, startD, List.length_cons, List.length_nil, List.map_cons, List.map_nil, List.cons_append, List.nil_append, List.getElem?_cons_zero, List.getElem?_cons_succ, List.set_cons_zero, List.set_cons_succ, List.replicate_succ, List.replicate_zero, Nat.reduceAdd, Nat.reduceSub, true_and, wipeD, subT_tt, subT_ii, subT_ib, subT_ll, subT_lt, subT_il, subT_it, subT_tl, subT_is, if_true, if_false, Bool.false_eq_true, Bool.not_true, Bool.not_false]
          refine ⟨by decide, g.net, b, d, rfl, ok.net, hb, hdl, ?_⟩
          simp only [b3]
          refine ⟨by rw [List.length_map, List.length_append, List.length_singleton]; simp only [sizeLine]; omega, ?_⟩
          have d4 : upd H3 (.nm [k, 4]) (.lst ((cs ++ [b]).map bagD ++ [bagD (after g.net b d)])) (.nm [k, 5]) = some (.lst (natsD g.deeds)) := by rw [upd_ne (by simp)]; exact d3
          simp only [d4]
          have hh : Hist g.net (cs ++ [b] ++ [after g.net b d]) (g.deeds ++ [d]) := .more (eb ▸ ok.hist) hdl hdc
          refine ⟨by decide, by rw [en]; simp only [sizeLine]; omega, fin _ _ _ _ _ _ _ _ _ _ _ (gs.set k ⟨g.net, cs ++ [b] ++ [after g.net b d], g.deeds ++ [d]⟩) (by rw [List.length_set]; exact Nat.le_refl _) ?_ (A1.put hk ?_ ⟨?_, C3.frame ?_ ?_ ?_, ?_, ?_⟩ ⟨ok.net, hh, ?_⟩ ?_ fun k' m h => ?_) fun k' m h => ?_⟩
          · refine B2.frame ?_ ?_ <;> rw [upd_ne (by simp), upd_ne (by simp), fr3 _ (by simp) (by simp)]
          · rw [upd_ne (by simp), upd_ne (by simp), fr3 _ (by simp) (by simp), fr2 _ (by simp)]
          · rw [upd_ne (by simp), upd_ne (by simp), fr3 _ (by simp) (by simp), fr2 _ (by simp)]; exact G1.self
          · rw [upd_ne (by simp), upd_ne (by simp)]
          · rw [upd_ne (by simp), upd_ne (by simp)]
          · rw [upd_ne (by simp), upd_ne (by simp)]
          · rw [upd_ne (by simp), upd_same]; simp
          · rw [upd_same]; simp [natsD]
          · show (g.deeds ++ [d]).length ≤ 500
            rw [List.length_append, List.length_singleton]; omega
          · show (g.deeds ++ [d]).length ≤ 60
            rw [List.length_append, List.length_singleton]; omega
          · rw [upd_ne (by simp [h]), upd_ne (by simp [h]), fr3 _ (by simp [h]) (by simp [h]), fr2 _ (by simp)]
          · have h' : k' ≠ k := by omega
            rw [upd_ne (by simp [h']), upd_ne (by simp [h']), fr3 _ (by simp [h']) (by simp [h']), fr2 _ (by simp)]; exact hf1 k' m h
        by_cases h3 : way < 3
        · simp only [decide_eq_true h3, dMeth, dSeq2, dIfS, dRet, dRetN, dVar, dC, dOp, dUn, dCons, dNil, dTup, dAsg, bindT, bindTs, itemsD, dIsi, isD, dAndV, dOrV, dNotV, dAnd, dOr, dNot, dTest, tru, dBl, dCall, dCB, dLen, dChain, dLe, dLt, dGe, dGt, dI2, dI2C, dIx, dNext, dDrop, dSet, dSetF, dSub, dMul, dAdd, dMod, dFdiv, dPow, dNeg, dIf, dIntC, dEqN, dEq, dNe, dIsN, dNew, dLst, dTupF, dLenF, dTupleC, dPar, startD, List.length_cons, List.length_nil, List.map_cons, List.map_nil, List.cons_append, List.nil_append, List.getElem?_cons_zero, List.getElem?_cons_succ, List.set_cons_zero, List.set_cons_succ, List.replicate_succ, List.replicate_zero, Nat.reduceAdd, Nat.reduceSub, true_and, wipeD, subT_tt, subT_ii, subT_ib, subT_ll, subT_lt, subT_il, subT_it, subT_tl, subT_is, if_true, if_false, Bool.false_eq_true, Bool.not_true, Bool.not_false]
          exact ⟨Bd.insn, dox _ fun H3 C3 fr3 => done H3 C3 fr3⟩
        · simp only [decide_eq_false h3, dMethK, g_Board_do_deed, dSeq2, dIfS, dRet, dRetN, dVar, dC, dOp, dUn, dCons, dNil, dTup, dAsg, bindT, bindTs, itemsD, dIsi, isD, dAndV, dOrV, dNotV, dAnd, dOr, dNot, dTest, tru, dBl, dCall, dCB, dLen, dChain, dLe, dLt, dGe, dGt, dI2, dI2C, dIx, dNext, dDrop, dSet, dSetF, dSub, dMul, dAdd, dMod, dFdiv, dPow, dNeg, dIf, dIntC, dEqN, dEq, dNe, dIsN, dNew, dLst, dTupF, dLenF, dTupleC, dPar, startD, List.length_cons, List.length_nil, List.map_cons, List.map_nil, List.cons_append, List.nil_append, List.getElem?_cons_zero, List.getElem?_cons_succ, List.set_cons_zero, List.set_cons_succ, List.replicate_succ, List.replicate_zero, Nat.reduceAdd, Nat.reduceSub, true_and, wipeD, subT_tt, subT_ii, subT_ib, subT_ll, subT_lt, subT_il, subT_it, subT_tl, subT_is, if_true, if_false, Bool.false_eq_true, Bool.not_true, Bool.not_false]
          exact ⟨Bd.insn, dox _ fun H3 C3 fr3 => done H3 C3 fr3⟩
      · simp only [decide_eq_false h60, dSeq2, dIfS, dRet, dRetN, dVar, dC, dOp, dUn, dCons, dNil, dTup, dAsg, bindT, bindTs, itemsD, dIsi, isD, dAndV, dOrV, dNotV, dAnd, dOr, dNot, dTest, tru, dBl, dCall, dCB, dLen, dChain, dLe, dLt, dGe, dGt, dI2, dI2C, dIx, dNext, dDrop, dSet, dSetF, dSub, dMul, dAdd, dMod, dFdiv, dPow, dNeg, dIf, dIntC, dEqN, dEq, dNe, dIsN, dNew, dLst, dTupF, dLenF, dTupleC, dPar, startD, List.length_cons, List.length_nil, List.map_cons, List.map_nil, List.cons_append, List.nil_append, List.getElem?_cons_zero, List.getElem?_cons_succ, List.set_cons_zero, List.set_cons_succ, List.replicate_succ, List.replicate_zero, Nat.reduceAdd, Nat.reduceSub, true_and, wipeD, subT_tt, subT_ii, subT_ib, subT_ll, subT_lt, subT_il, subT_it, subT_tl, subT_is, if_true, if_false, Bool.false_eq_true, Bool.not_true, Bool.not_false]
        exact other
  · simp only [decide_eq_false h5, dSeq2, dIfS, dRet, dRetN, dVar, dC, dOp, dUn, dCons, dNil, dTup, dAsg, bindT, bindTs, itemsD, dIsi, isD, dAndV, dOrV, dNotV, dAnd, dOr, dNot, dTest, tru, dBl, dCall, dCB, dLen, dChain, dLe, dLt, dGe, dGt, dI2, dI2C, dIx, dNext, dDrop, dSet, dSetF, dSub, dMul, dAdd, dMod, dFdiv, dPow, dNeg, dIf, dIntC, dEqN, dEq, dNe, dIsN, dNew, dLst, dTupF, dLenF, dTupleC, dPar, startD, List.length_cons, List.length_nil, List.map_cons, List.map_nil, List.cons_append, List.nil_append, List.getElem?_cons_zero, List.getElem?_cons_succ, List.set_cons_zero, List.set_cons_succ, List.replicate_succ, List.replicate_zero, Nat.reduceAdd, Nat.reduceSub, true_and, wipeD, subT_tt, subT_ii, subT_ib, subT_ll, subT_lt, subT_il, subT_it, subT_tl, subT_is, if_true, if_false, Bool.false_eq_true, Bool.not_true, Bool.not_false]
    exact other
end K57

namespace K57
open PySem PySem.Spec
open PyProof.Rows DL
/-! how long the repr is -/
theorem from_le : ∀ (ts : List Str) (k : Nat) (acc : Str), (textFrom k acc ts).length ≤ acc.length + piled ts
  | [], k, acc => Nat.le_add_right _ _
  | t :: r, k, acc => by
    have h := from_le r (k + 1) (acc ++ (if k > 0 then ", " else "" : String) ++ t)
    have e : (acc ++ (if k > 0 then ", " else "" : String) ++ t).length ≤ acc.length + 2 + t.length := by
      rw [strLen_append, strLen_append]
      split
      · exact Nat.le_refl _
      · have : (("" : String) : Str).length = 0 := rfl
        omega
    have e2 : piled (t :: r) = t.length + 2 + piled r := by simp [piled]
    have e3 : textFrom k acc (t :: r) = textFrom (k + 1) (acc ++ (if k > 0 then ", " else "" : String) ++ t) r := rfl
    rw [e2, e3]
    omega
theorem list_le (ts : List Str) : (listText ts).length ≤ piled ts + 3 := by
  have h := from_le ts 0 "["
  have e : (("[" : String) : Str).length = 1 := rfl
  have e2 : (("]" : String) : Str).length = 1 := rfl
  unfold listText
  rw [strLen_append]
  omega
theorem tuple_le (ts : List Str) : (tupleText ts).length ≤ piled ts + 3 := by
  have e : (("(" : String) : Str).length = 1 := rfl
  have e2 : ((if ts.length == 1 then ",)" else ")" : String) : Str).length ≤ 2 := by split <;> decide
  unfold tupleText
  rw [strLen_append, strLen_append]
  cases ts with
  | nil =>
    have : (Str.join ", " []).length = 0 := rfl
    omega
  | cons a r =>
    have := join_length_add (a :: r) (by simp)
    omega
mutual
def bnd : PyData → Nat
  | .int _ => 1
  | .tuple xs => bndAll xs + 3
  | .list xs => bndAll xs + 3
  | _ => 0
def bndAll : List PyData → Nat
  | [] => 0
  | x :: xs => bnd x + 2 + bndAll xs
end
mutual
def okI : PyData → Bool
  | .int i => decide (0 ≤ i ∧ i ≤ 8)
  | .tuple xs => okAll xs
  | .list xs => okAll xs
  | _ => false
def okAll : List PyData → Bool
  | [] => true
  | x :: xs => okI x && okAll xs
end
theorem int_shown {i : Int} (h : 0 ≤ i ∧ i ≤ 8) : (PyData.shown (.int i)).length ≤ 1 := by
  obtain ⟨h1, h2⟩ := h
  have : i = 0 ∨ i = 1 ∨ i = 2 ∨ i = 3 ∨ i = 4 ∨ i = 5 ∨ i = 6 ∨ i = 7 ∨ i = 8 := by omega
  rcases this with rfl | rfl | rfl | rfl | rfl | rfl | rfl | rfl | rfl <;> decide +kernel
mutual
theorem shown_le : ∀ d : PyData, okI d = true → d.shown.length ≤ bnd d
  | .int i, h => by
    have := int_shown (of_decide_eq_true (by simpa only [okI] using h))
    simpa only [bnd] using this
  | .tuple xs, h => by
    have h1 := shownAll_le xs (by simpa only [okI] using h)
    have h2 := tuple_le (PyData.shownAll xs)
    simp only [bnd, PyData.shown]
    omega
  | .list xs, h => by
    have h1 := shownAll_le xs (by simpa only [okI] using h)
    have h2 := list_le (PyData.shownAll xs)
    simp only [bnd, PyData.shown]
    omega
  | .none, h => by simp [okI] at h
  | .bool _, h => by simp [okI] at h
  | .str _, h => by simp [okI] at h
  | .dict _, h => by simp [okI] at h
theorem shownAll_le : ∀ ds : List PyData, okAll ds = true → piled (PyData.shownAll ds) ≤ bndAll ds
  | [], _ => by simp [PyData.shownAll, piled, bndAll]
  | x :: xs, h => by
    simp only [okAll, Bool.and_eq_true] at h
    have h1 := shown_le x h.1
    have h2 := shownAll_le xs h.2
    have e : piled (PyData.shownAll (x :: xs)) = x.shown.length + 2 + piled (PyData.shownAll xs) := by simp [PyData.shownAll, piled]
    rw [e]
    simp only [bndAll]
    omega
end
mutual
theorem okI_show : ∀ d : PyData, okI d = true → d.showable = true ∧ d.hasDict = false
  | .int i, h => by
    have := of_decide_eq_true (show decide (0 ≤ i ∧ i ≤ 8) = true by simpa only [okI] using h)
    refine ⟨?_, by simp [PyData.hasDict]⟩
    simp only [PyData.showable, decide_eq_true_eq]
    have : i.natAbs.log2 ≤ i.natAbs := Nat.log2_le_self _
    omega
  | .tuple xs, h => by have := okAll_show xs (by simpa only [okI] using h); simpa [PyData.showable, PyData.hasDict] using this
  | .list xs, h => by have := okAll_show xs (by simpa only [okI] using h); simpa [PyData.showable, PyData.hasDict] using this
  | .none, h => by simp [okI] at h
  | .bool _, h => by simp [okI] at h
  | .str _, h => by simp [okI] at h
  | .dict _, h => by simp [okI] at h
theorem okAll_show : ∀ ds : List PyData, okAll ds = true → PyData.showableAll ds = true ∧ PyData.hasDictAll ds = false
  | [], _ => by simp [PyData.showableAll, PyData.hasDictAll]
  | x :: xs, h => by
    simp only [okAll, Bool.and_eq_true] at h
    have h1 := okI_show x h.1
    have h2 := okAll_show xs h.2
    simp [PyData.showableAll, PyData.hasDictAll, h1, h2]
end
theorem ints_ok : ∀ b : List Int, (∀ x ∈ b, 0 ≤ x ∧ x ≤ 8) → okAll (pdvs (b.map D.int)) = true ∧ bndAll (pdvs (b.map D.int)) = 3 * b.length
  | [], _ => by simp [pdvs, okAll, bndAll]
  | a :: r, h => by
    obtain ⟨h1, h2⟩ := ints_ok r fun x hx => h x (List.mem_cons_of_mem _ hx)
    have h3 := h a (List.mem_cons_self ..)
    refine ⟨?_, ?_⟩
    · simp [pdvs, pdv, okAll, okI, h1, h3]
    · simp only [List.map_cons, pdvs, pdv, bndAll, bnd, h2, List.length_cons]; omega
theorem deeds_ok : ∀ l : List (Nat × List Int), (∀ d ∈ l, d.1 < 3 ∧ BagOk d.2.length d.2 ∧ d.2.length ≤ 3 ∧ SmallB d.2) → okAll (pdvs (l.map deedD)) = true ∧ bndAll (pdvs (l.map deedD)) ≤ 30 * l.length
  | [], _ => by simp [pdvs, okAll, bndAll]
  | d :: r, h => by
    obtain ⟨h1, h2⟩ := deeds_ok r fun x hx => h x (List.mem_cons_of_mem _ hx)
    obtain ⟨g1, g2, g3, g4⟩ := h d (List.mem_cons_self ..)
    obtain ⟨i1, i2⟩ := ints_ok d.2 fun x hx => ⟨g2.nn x hx, g4 x hx⟩
    refine ⟨?_, ?_⟩
    · simp [pdvs, pdv, deedD, bagD, okAll, okI, h1, i1]; omega
    · simp only [List.map_cons, pdvs, deedD, bagD, pdv, bndAll, bnd, i2, List.length_cons]
      have : bndAll (pdvs (r.map deedD)) ≤ 30 * r.length := h2
      omega
theorem net_ok {n : Net} {b : List Int} (ok : NetOk n) (sm : SmallN n) (hb : BagOk n.places b) (sb : SmallB b) : okI (pdv (netD n)) = true ∧ bnd (pdv (netD n)) ≤ 200 ∧ okI (pdv (bagD b)) = true ∧ bnd (pdv (bagD b)) ≤ 20 := by
  have l1 := ok.lo
  have l2 := ok.hi
  have l3 := ok.few
  obtain ⟨h1, h2⟩ := deeds_ok n.deeds fun d hd => by
    obtain ⟨g1, g2⟩ := ok.each d hd
    exact ⟨by omega, ⟨rfl, g2.nn⟩, by rw [g2.len]; exact l2, sm d hd⟩
  obtain ⟨i1, i2⟩ := ints_ok b fun x hx => ⟨hb.nn x hx, sb x hx⟩
  refine ⟨?_, ?_, ?_, ?_⟩
  · simp [netD, pdv, pdvs, okI, okAll, h1]; omega
  · simp only [netD, pdv, pdvs, bnd, bndAll]; omega
  · simp [bagD, pdv, okI, i1]
  · simp only [bagD, pdv, bnd, i2, hb.len]; omega
theorem pure_net (n : Net) : pureD (netD n) = true := by
  have : ∀ l : List (Nat × List Int), pureDs (l.map deedD) = true := by
    intro l
    induction l with
    | nil => rfl
    | cons a r ih => simp [pureDs, pure_deed, ih]
  simp [netD, pureD, pureDs, this]
theorem pure_bag (b : List Int) : pureD (bagD b) = true := by simp [bagD, pureD, pures_ints]
mutual
theorem ok_depth : ∀ d : PyData, okI d = true → d.depth ≤ bnd d
  | .int i, h => by simp [PyData.depth]
  | .tuple xs, h => by have := okAll_depth xs (by simpa only [okI] using h); simp only [PyData.depth, bnd]; omega
  | .list xs, h => by have := okAll_depth xs (by simpa only [okI] using h); simp only [PyData.depth, bnd]; omega
  | .none, h => by simp [okI] at h
  | .bool _, h => by simp [okI] at h
  | .str _, h => by simp [okI] at h
  | .dict _, h => by simp [okI] at h
theorem okAll_depth : ∀ ds : List PyData, okAll ds = true → PyData.depthAll ds ≤ bndAll ds
  | [], _ => by simp [PyData.depthAll]
  | x :: xs, h => by
    simp only [okAll, Bool.and_eq_true] at h
    have h1 := ok_depth x h.1
    have h2 := okAll_depth xs h.2
    simp only [PyData.depthAll, bndAll]
    omega
end
theorem ints_depth2 (b : List Int) : (pdv (bagD b)).depth ≤ 2 := by have := ints_depth b; simp only [bagD, pdv, PyData.depth]; omega
theorem net_depth (n : Net) : (pdv (netD n)).depth ≤ 5 := by
  have : ∀ l : List (Nat × List Int), PyData.depthAll (pdvs (l.map deedD)) ≤ 3 := by
    intro l
    induction l with
    | nil => simp [pdvs, PyData.depthAll]
    | cons a r ih =>
      have := ints_depth a.2
      simp only [List.map_cons, pdvs, deedD, bagD, pdv, PyData.depthAll, PyData.depth]
      omega
  have := this n.deeds
  simp only [netD, pdv, pdvs, PyData.depth, PyData.depthAll]
  omega
end K57

namespace K57
open PySem PySem.Spec
open PyProof.Rows DL
abbrev QL : DVK := fun d _ => d = .bl true
abbrev D0 : DEnds := { nx := fun _ H' => QL .non H', rt := QL }
theorem atI_four {α : Type} {a b c d : α} : L2.atI [a, b, c, d] 0 = some a ∧ L2.atI [a, b, c, d] 1 = some b ∧ L2.atI [a, b, c, d] 2 = some c ∧ L2.atI [a, b, c, d] 3 = some d := ⟨rfl, rfl, rfl, rfl⟩
theorem r2_ok (W : DXW) (H : DH) (gl gc : Game) (s0 s1 s2 s3 s4 s7 s8 s9 s10 s11 s12 s14 s15 : Option D) (many : Nat) (hm : many ≤ 400) (G5 : GameAt H 50 gl) (ok5 : GameOk gl) (G6 : GameAt H 51 gc) (ok6 : GameOk gc) (hd : gc.deeds.length = many) :
    t_law_r2 W D0 [s0, s1, s2, s3, s4, some (.ref (.nm [50, 0])), some (.ref (.nm [51, 0])), s7, s8, s9, s10, s11, s12, some (.int (many : Int)), s14, s15] H := by
  simp only [t_law_r2, dFor, dRng1, dSeq2, dIfS, dRet, dRetN, dVar, dC, dOp, dUn, dCons, dNil, dTup, dAsg, bindT, bindTs, itemsD, dIsi, isD, dAndV, dOrV, dNotV, dAnd, dOr, dNot, dTest, tru, dBl, dCall, dCB, dLen, dChain, dLe, dLt, dGe, dGt, dI2, dI2C, dIx, dNext, dDrop, dSet, dSetF, dSub, dMul, dAdd, dMod, dFdiv, dPow, dNeg, dIf, dIntC, dEqN, dEq, dNe, dIsN, dNew, dLst, dTupF, dLenF, dTupleC, dPar, startD, List.length_cons, List.length_nil, List.map_cons, List.map_nil, List.cons_append, List.nil_append, List.getElem?_cons_zero, List.getElem?_cons_succ, List.set_cons_zero, List.set_cons_succ, List.replicate_succ, List.replicate_zero, Nat.reduceAdd, Nat.reduceSub, true_and, wipeD, subT_tt, subT_ii, subT_ib, subT_ll, subT_lt, subT_il, subT_it, subT_tl, subT_is, if_true, if_false, Bool.false_eq_true, Bool.not_true, Bool.not_false]
  refine ⟨⟨by omega, by omega⟩, many, fun i σ H' => ∃ t g', σ = [s0, s1, s2, s3, t, some (.ref (.nm [50, 0])), some (.ref (.nm [51, 0])), s7, s8, s9, s10, s11, s12, some (.int (many : Int)), s14, s15] ∧ GameAt H' 50 gl ∧ GameAt H' 51 g' ∧ GameOk g' ∧ g'.deeds.length = many - i, ⟨_, gc, rfl, G5, G6, ok6, hd⟩, ?_, ?_⟩
  · rintro i σ H' hi ⟨t, g, rfl, G5, G6, ok6, hd⟩
    refine ⟨_, .int (0 + (i : Int)), _, rfl, by rw [range_len]; omega, by rw [rangeD, List.getElem?_map, List.getElem?_range (by omega)]; rfl, rfl, ?_⟩
    rcases ok6.hist.back with h | ⟨bs', b', ds', d', e1, e2, hh⟩
    · rw [h] at hd; simp at hd; omega
    have Bd := G6.board
    rw [e1, e2] at Bd
    have Gb := G6.bags
    have Gd := G6.deeds
    rw [e1] at Gb
    rw [e2] at Gd
    simp only [t_law_b1, dMeth, G6.self, atI_four, dSeq2, dIfS, dRet, dRetN, dVar, dC, dOp, dUn, dCons, dNil, dTup, dAsg, bindT, bindTs, itemsD, dIsi, isD, dAndV, dOrV, dNotV, dAnd, dOr, dNot, dTest, tru, dBl, dCall, dCB, dLen, dChain, dLe, dLt, dGe, dGt, dI2, dI2C, dIx, dNext, dDrop, dSet, dSetF, dSub, dMul, dAdd, dMod, dFdiv, dPow, dNeg, dIf, dIntC, dEqN, dEq, dNe, dIsN, dNew, dLst, dTupF, dLenF, dTupleC, dPar, startD, List.length_cons, List.length_nil, List.map_cons, List.map_nil, List.cons_append, List.nil_append, List.getElem?_cons_zero, List.getElem?_cons_succ, List.set_cons_zero, List.set_cons_succ, List.replicate_succ, List.replicate_zero, Nat.reduceAdd, Nat.reduceSub, true_and, wipeD, subT_tt, subT_ii, subT_ib, subT_ll, subT_lt, subT_il, subT_it, subT_tl, subT_is, if_true, if_false, Bool.false_eq_true, Bool.not_true, Bool.not_false]
    refine ⟨Bd.insn, _, _, _, g.net, bs', b', ds', d', rfl, Bd, fun H2 C2 fr2 => ?_⟩
    have g2 : H2 (.nm [51, 0]) = _ := (fr2 _ (by simp) (by simp)).trans G6.self
    have b2 : H2 (.nm [51, 4]) = some (.lst ((bs' ++ [b']).map bagD)) := by rw [fr2 _ (by simp) (by simp)]; exact Gb
    have d2 : H2 (.nm [51, 5]) = some (.lst (natsD (ds' ++ [d']))) := by rw [fr2 _ (by simp) (by simp)]; exact Gd
    have p1 : ((bs' ++ [b']).map bagD)[((bs' ++ [b']).map bagD).length - 1]? = some (bagD b') := by simp
    have p2 : ((bs' ++ [b']).map bagD).dropLast = bs'.map bagD := by simp
    have p3 : (natsD (ds' ++ [d']))[(natsD (ds' ++ [d'])).length - 1]? = some (.int (d' : Int)) := by simp [natsD]
    have p4 : (natsD (ds' ++ [d'])).dropLast = natsD ds' := by simp [natsD]
    simp only [dBM0, isT, mPop, g2, b2, p1, p2, atI_four, dSeq2, dIfS, dRet, dRetN, dVar, dC, dOp, dUn, dCons, dNil, dTup, dAsg, bindT, bindTs, itemsD, dIsi, isD, dAndV, dOrV, dNotV, dAnd, dOr, dNot, dTest, tru, dBl, dCall, dCB, dLen, dChain, dLe, dLt, dGe, dGt, dI2, dI2C, dIx, dNext, dDrop, dSet, dSetF, dSub, dMul, dAdd, dMod, dFdiv, dPow, dNeg, dIf, dIntC, dEqN, dEq, dNe, dIsN, dNew, dLst, dTupF, dLenF, dTupleC, dPar, startD, List.length_cons, List.length_nil, List.map_cons, List.map_nil, List.cons_append, List.nil_append, List.getElem?_cons_zero, List.getElem?_cons_succ, List.set_cons_zero, List.set_cons_succ, List.replicate_succ, List.replicate_zero, Nat.reduceAdd, Nat.reduceSub, true_and, wipeD, subT_tt, subT_ii, subT_ib, subT_ll, subT_lt, subT_il, subT_it, subT_tl, subT_is, if_true, if_false, Bool.false_eq_true, Bool.not_true, Bool.not_false]
    have g3 : upd H2 (.nm [51, 4]) (.lst (bs'.map bagD)) (.nm [51, 0]) = _ := (upd_ne (by simp)).trans g2
    have d3 : upd H2 (.nm [51, 4]) (.lst (bs'.map bagD)) (.nm [51, 5]) = some (.lst (natsD (ds' ++ [d']))) := by rw [upd_ne (by simp)]; exact d2
    simp only [g3, d3, p3, p4, atI_four, dSeq2, dIfS, dRet, dRetN, dVar, dC, dOp, dUn, dCons, dNil, dTup, dAsg, bindT, bindTs, itemsD, dIsi, isD, dAndV, dOrV, dNotV, dAnd, dOr, dNot, dTest, tru, dBl, dCall, dCB, dLen, dChain, dLe, dLt, dGe, dGt, dI2, dI2C, dIx, dNext, dDrop, dSet, dSetF, dSub, dMul, dAdd, dMod, dFdiv, dPow, dNeg, dIf, dIntC, dEqN, dEq, dNe, dIsN, dNew, dLst, dTupF, dLenF, dTupleC, dPar, startD, List.length_cons, List.length_nil, List.map_cons, List.map_nil, List.cons_append, List.nil_append, List.getElem?_cons_zero, List.getElem?_cons_succ, List.set_cons_zero, List.set_cons_succ, List.replicate_succ, List.replicate_zero, Nat.reduceAdd, Nat.reduceSub, true_and, wipeD, subT_tt, subT_ii, subT_ib, subT_ll, subT_lt, subT_il, subT_it, subT_tl, subT_is, if_true, if_false, Bool.false_eq_true, Bool.not_true, Bool.not_false]
    have G6' : GameAt (upd (upd H2 (.nm [51, 4]) (.lst (bs'.map bagD))) (.nm [51, 5]) (.lst (natsD ds'))) 51 ⟨g.net, bs', ds'⟩ := by
      refine ⟨?_, C2.frame ?_ ?_ ?_, ?_, ?_⟩
      · rw [upd_ne (by simp)]; exact g3
      · rw [upd_ne (by simp), upd_ne (by simp)]
      · rw [upd_ne (by simp), upd_ne (by simp)]
      · rw [upd_ne (by simp), upd_ne (by simp)]
      · rw [upd_ne (by simp), upd_same]
      · rw [upd_same]
    have G5' : GameAt (upd (upd H2 (.nm [51, 4]) (.lst (bs'.map bagD))) (.nm [51, 5]) (.lst (natsD ds'))) 50 gl := G5.frame fun m _ => by
      rw [upd_ne (by simp), upd_ne (by simp), fr2 _ (by simp) (by simp)]
    rw [e2, List.length_append, List.length_singleton] at hd
    have few := ok6.few
    rw [e2, List.length_append, List.length_singleton] at few
    have ok' : GameOk ⟨g.net, bs', ds'⟩ := ⟨ok6.net, hh, by show ds'.length ≤ 500; omega⟩
    generalize upd (upd H2 (.nm [51, 4]) (.lst (bs'.map bagD))) (.nm [51, 5]) (.lst (natsD ds')) = H4 at G5' G6' ⊢
    have hd' : ds'.length = many - (i + 1) := by omega
    refine ⟨by decide, by decide, by omega, ?_⟩
    by_cases h16 : (0 + (i : Int)) % 16 = 0
    · simp only [decide_eq_true h16, Bool.false_xor, dSeq2, dIfS, dRet, dRetN, dVar, dC, dOp, dUn, dCons, dNil, dTup, dAsg, bindT, bindTs, itemsD, dIsi, isD, dAndV, dOrV, dNotV, dAnd, dOr, dNot, dTest, tru, dBl, dCall, dCB, dLen, dChain, dLe, dLt, dGe, dGt, dI2, dI2C, dIx, dNext, dDrop, dSet, dSetF, dSub, dMul, dAdd, dMod, dFdiv, dPow, dNeg, dIf, dIntC, dEqN, dEq, dNe, dIsN, dNew, dLst, dTupF, dLenF, dTupleC, dPar, startD, List.length_cons, List.length_nil, List.map_cons, List.map_nil, List.cons_append, List.nil_append, List.getElem?_cons_zero, List.getElem?_cons_succ, List.set_cons_zero, List.set_cons_succ, List.replicate_succ, List.replicate_zero, Nat.reduceAdd, Nat.reduceSub, true_and, wipeD, subT_tt, subT_ii, subT_ib, subT_ll, subT_lt, subT_il, subT_it, subT_tl, subT_is, if_true, if_false, Bool.false_eq_true, Bool.not_true, Bool.not_false]
      refine ⟨51, _, 0, rfl, G6', ok', fun H5 x => ?_⟩
      simp only [dSeq2, dIfS, dRet, dRetN, dVar, dC, dOp, dUn, dCons, dNil, dTup, dAsg, bindT, bindTs, itemsD, dIsi, isD, dAndV, dOrV, dNotV, dAnd, dOr, dNot, dTest, tru, dBl, dCall, dCB, dLen, dChain, dLe, dLt, dGe, dGt, dI2, dI2C, dIx, dNext, dDrop, dSet, dSetF, dSub, dMul, dAdd, dMod, dFdiv, dPow, dNeg, dIf, dIntC, dEqN, dEq, dNe, dIsN, dNew, dLst, dTupF, dLenF, dTupleC, dPar, startD, List.length_cons, List.length_nil, List.map_cons, List.map_nil, List.cons_append, List.nil_append, List.getElem?_cons_zero, List.getElem?_cons_succ, List.set_cons_zero, List.set_cons_succ, List.replicate_succ, List.replicate_zero, Nat.reduceAdd, Nat.reduceSub, true_and, wipeD, subT_tt, subT_ii, subT_ib, subT_ll, subT_lt, subT_il, subT_it, subT_tl, subT_is, if_true, if_false, Bool.false_eq_true, Bool.not_true, Bool.not_false]
      exact ⟨_, _, rfl, G5'.ext x, G6'.ext x, ok', hd'⟩
    · simp only [decide_eq_false h16, Bool.false_xor, dSeq2, dIfS, dRet, dRetN, dVar, dC, dOp, dUn, dCons, dNil, dTup, dAsg, bindT, bindTs, itemsD, dIsi, isD, dAndV, dOrV, dNotV, dAnd, dOr, dNot, dTest, tru, dBl, dCall, dCB, dLen, dChain, dLe, dLt, dGe, dGt, dI2, dI2C, dIx, dNext, dDrop, dSet, dSetF, dSub, dMul, dAdd, dMod, dFdiv, dPow, dNeg, dIf, dIntC, dEqN, dEq, dNe, dIsN, dNew, dLst, dTupF, dLenF, dTupleC, dPar, startD, List.length_cons, List.length_nil, List.map_cons, List.map_nil, List.cons_append, List.nil_append, List.getElem?_cons_zero, List.getElem?_cons_succ, List.set_cons_zero, List.set_cons_succ, List.replicate_succ, List.replicate_zero, Nat.reduceAdd, Nat.reduceSub, true_and, wipeD, subT_tt, subT_ii, subT_ib, subT_ll, subT_lt, subT_il, subT_it, subT_tl, subT_is, if_true, if_false, Bool.false_eq_true, Bool.not_true, Bool.not_false]
      exact ⟨_, _, rfl, G5', G6', ok', hd'⟩
  · rintro σ H' ⟨t, g, rfl, G5, G6, ok6, hd⟩
    refine ⟨⟨_, rfl, by rw [range_len]; omega⟩, ?_⟩
    simp only [t_law_r0, dSeq2, dIfS, dRet, dRetN, dVar, dC, dOp, dUn, dCons, dNil, dTup, dAsg, bindT, bindTs, itemsD, dIsi, isD, dAndV, dOrV, dNotV, dAnd, dOr, dNot, dTest, tru, dBl, dCall, dCB, dLen, dChain, dLe, dLt, dGe, dGt, dI2, dI2C, dIx, dNext, dDrop, dSet, dSetF, dSub, dMul, dAdd, dMod, dFdiv, dPow, dNeg, dIf, dIntC, dEqN, dEq, dNe, dIsN, dNew, dLst, dTupF, dLenF, dTupleC, dPar, startD, List.length_cons, List.length_nil, List.map_cons, List.map_nil, List.cons_append, List.nil_append, List.getElem?_cons_zero, List.getElem?_cons_succ, List.set_cons_zero, List.set_cons_succ, List.replicate_succ, List.replicate_zero, Nat.reduceAdd, Nat.reduceSub, true_and, wipeD, subT_tt, subT_ii, subT_ib, subT_ll, subT_lt, subT_il, subT_it, subT_tl, subT_is, if_true, if_false, Bool.false_eq_true, Bool.not_true, Bool.not_false]
    refine ⟨51, g, 1, rfl, G6, ok6, fun H5 x => ?_⟩
    simp only [dSeq2, dIfS, dRet, dRetN, dVar, dC, dOp, dUn, dCons, dNil, dTup, dAsg, bindT, bindTs, itemsD, dIsi, isD, dAndV, dOrV, dNotV, dAnd, dOr, dNot, dTest, tru, dBl, dCall, dCB, dLen, dChain, dLe, dLt, dGe, dGt, dI2, dI2C, dIx, dNext, dDrop, dSet, dSetF, dSub, dMul, dAdd, dMod, dFdiv, dPow, dNeg, dIf, dIntC, dEqN, dEq, dNe, dIsN, dNew, dLst, dTupF, dLenF, dTupleC, dPar, startD, List.length_cons, List.length_nil, List.map_cons, List.map_nil, List.cons_append, List.nil_append, List.getElem?_cons_zero, List.getElem?_cons_succ, List.set_cons_zero, List.set_cons_succ, List.replicate_succ, List.replicate_zero, Nat.reduceAdd, Nat.reduceSub, true_and, wipeD, subT_tt, subT_ii, subT_ib, subT_ll, subT_lt, subT_il, subT_it, subT_tl, subT_is, if_true, if_false, Bool.false_eq_true, Bool.not_true, Bool.not_false]
    exact ⟨50, gl, 2, rfl, G5.ext x, ok5, fun H6 x2 => rfl⟩
theorem r3_ok (W : DXW) (H : DH) (gl : Game) (s0 s1 s2 s3 s4 s6 s7 s8 s9 s10 s11 s14 s15 : Option D) (many : Nat) (hm : many ≤ 400) (G5 : GameAt H 50 gl) (ok5 : GameOk gl) (hd : gl.deeds.length = many) (fr : ∀ m, H (.nm [51, m]) = none) :
    t_law_r3 W D0 [s0, s1, s2, s3, s4, some (.ref (.nm [50, 0])), s6, s7, s8, s9, s10, s11, some (netD gl.net), some (.int (many : Int)), s14, s15] H := by
  simp only [t_law_r3, dMeth, dListOf, G5.self, atI_four, dSeq2, dIfS, dRet, dRetN, dVar, dC, dOp, dUn, dCons, dNil, dTup, dAsg, bindT, bindTs, itemsD, dIsi, isD, dAndV, dOrV, dNotV, dAnd, dOr, dNot, dTest, tru, dBl, dCall, dCB, dLen, dChain, dLe, dLt, dGe, dGt, dI2, dI2C, dIx, dNext, dDrop, dSet, dSetF, dSub, dMul, dAdd, dMod, dFdiv, dPow, dNeg, dIf, dIntC, dEqN, dEq, dNe, dIsN, dNew, dLst, dTupF, dLenF, dTupleC, dPar, startD, List.length_cons, List.length_nil, List.map_cons, List.map_nil, List.cons_append, List.nil_append, List.getElem?_cons_zero, List.getElem?_cons_succ, List.set_cons_zero, List.set_cons_succ, List.replicate_succ, List.replicate_zero, Nat.reduceAdd, Nat.reduceSub, true_and, wipeD, subT_tt, subT_ii, subT_ib, subT_ll, subT_lt, subT_il, subT_it, subT_tl, subT_is, if_true, if_false, Bool.false_eq_true, Bool.not_true, Bool.not_false]
  refine ⟨G5.board.insn, _, _, _, _, _, _, rfl, G5.board, ok5.net, ok5.hist, ok5.few, [51, 1], [51, 2], [51, 3], fr 1, fr 2, fr 3, by simp, by simp, by simp, fun H2 C2 fr2 => ?_⟩
  have f2 : ∀ m, 3 < m ∨ m = 0 → H2 (.nm [51, m]) = none := fun m h => by
    rw [fr2 _ (by simp; omega) (by simp; omega) (by simp; omega)]; exact fr m
  have G2 : GameAt H2 50 gl := G5.frame fun m _ => fr2 _ (by simp) (by simp) (by simp)
  simp only [G2.self, G2.bags, atI_four, dSeq2, dIfS, dRet, dRetN, dVar, dC, dOp, dUn, dCons, dNil, dTup, dAsg, bindT, bindTs, itemsD, dIsi, isD, dAndV, dOrV, dNotV, dAnd, dOr, dNot, dTest, tru, dBl, dCall, dCB, dLen, dChain, dLe, dLt, dGe, dGt, dI2, dI2C, dIx, dNext, dDrop, dSet, dSetF, dSub, dMul, dAdd, dMod, dFdiv, dPow, dNeg, dIf, dIntC, dEqN, dEq, dNe, dIsN, dNew, dLst, dTupF, dLenF, dTupleC, dPar, startD, List.length_cons, List.length_nil, List.map_cons, List.map_nil, List.cons_append, List.nil_append, List.getElem?_cons_zero, List.getElem?_cons_succ, List.set_cons_zero, List.set_cons_succ, List.replicate_succ, List.replicate_zero, Nat.reduceAdd, Nat.reduceSub, true_and, wipeD, subT_tt, subT_ii, subT_ib, subT_ll, subT_lt, subT_il, subT_it, subT_tl, subT_is, if_true, if_false, Bool.false_eq_true, Bool.not_true, Bool.not_false]
  refine .inl ⟨[51, 4], f2 4 (by omega), ?_⟩
  have e0 : upd H2 (.nm [51, 4]) (.lst (gl.bags.map bagD)) (.nm [50, 0]) = _ := (upd_ne (by simp)).trans G2.self
  have e5 : upd H2 (.nm [51, 4]) (.lst (gl.bags.map bagD)) (.nm [50, 5]) = some (.lst (natsD gl.deeds)) := by rw [upd_ne (by simp)]; exact G2.deeds
  simp only [e0, e5, atI_four, dSeq2, dIfS, dRet, dRetN, dVar, dC, dOp, dUn, dCons, dNil, dTup, dAsg, bindT, bindTs, itemsD, dIsi, isD, dAndV, dOrV, dNotV, dAnd, dOr, dNot, dTest, tru, dBl, dCall, dCB, dLen, dChain, dLe, dLt, dGe, dGt, dI2, dI2C, dIx, dNext, dDrop, dSet, dSetF, dSub, dMul, dAdd, dMod, dFdiv, dPow, dNeg, dIf, dIntC, dEqN, dEq, dNe, dIsN, dNew, dLst, dTupF, dLenF, dTupleC, dPar, startD, List.length_cons, List.length_nil, List.map_cons, List.map_nil, List.cons_append, List.nil_append, List.getElem?_cons_zero, List.getElem?_cons_succ, List.set_cons_zero, List.set_cons_succ, List.replicate_succ, List.replicate_zero, Nat.reduceAdd, Nat.reduceSub, true_and, wipeD, subT_tt, subT_ii, subT_ib, subT_ll, subT_lt, subT_il, subT_it, subT_tl, subT_is, if_true, if_false, Bool.false_eq_true, Bool.not_true, Bool.not_false]
  refine .inl ⟨[51, 5], by rw [upd_ne (by simp)]; exact f2 5 (by omega), ⟨by simp [sizeLine], .inl ⟨[51, 0], by rw [upd_ne (by simp), upd_ne (by simp)]; exact f2 0 (by omega), ?_⟩⟩⟩
  have G6 : GameAt (upd (upd (upd H2 (.nm [51, 4]) (.lst (gl.bags.map bagD))) (.nm [51, 5]) (.lst (natsD gl.deeds))) (.nm [51, 0]) (.lst [.ref (.nm [51, 1]), netD gl.net, .ref (.nm [51, 4]), .ref (.nm [51, 5])])) 51 gl := by
    refine ⟨upd_same, C2.frame ?_ ?_ ?_, ?_, ?_⟩
    · rw [upd_ne (by simp), upd_ne (by simp), upd_ne (by simp)]
    · rw [upd_ne (by simp), upd_ne (by simp), upd_ne (by simp)]
    · rw [upd_ne (by simp), upd_ne (by simp), upd_ne (by simp)]
    · rw [upd_ne (by simp), upd_ne (by simp), upd_same]
    · rw [upd_ne (by simp), upd_same]
  have G5' : GameAt (upd (upd (upd H2 (.nm [51, 4]) (.lst (gl.bags.map bagD))) (.nm [51, 5]) (.lst (natsD gl.deeds))) (.nm [51, 0]) (.lst [.ref (.nm [51, 1]), netD gl.net, .ref (.nm [51, 4]), .ref (.nm [51, 5])])) 50 gl := G2.frame fun m _ => by
    rw [upd_ne (by simp), upd_ne (by simp), upd_ne (by simp)]
  generalize upd (upd (upd H2 (.nm [51, 4]) (.lst (gl.bags.map bagD))) (.nm [51, 5]) (.lst (natsD gl.deeds))) (.nm [51, 0]) (.lst [.ref (.nm [51, 1]), netD gl.net, .ref (.nm [51, 4]), .ref (.nm [51, 5])]) = H3 at G6 G5' ⊢
  refine ⟨50, gl, 0, rfl, G5', ok5, fun H5 x => ?_⟩
  simp only [dSeq2, dIfS, dRet, dRetN, dVar, dC, dOp, dUn, dCons, dNil, dTup, dAsg, bindT, bindTs, itemsD, dIsi, isD, dAndV, dOrV, dNotV, dAnd, dOr, dNot, dTest, tru, dBl, dCall, dCB, dLen, dChain, dLe, dLt, dGe, dGt, dI2, dI2C, dIx, dNext, dDrop, dSet, dSetF, dSub, dMul, dAdd, dMod, dFdiv, dPow, dNeg, dIf, dIntC, dEqN, dEq, dNe, dIsN, dNew, dLst, dTupF, dLenF, dTupleC, dPar, startD, List.length_cons, List.length_nil, List.map_cons, List.map_nil, List.cons_append, List.nil_append, List.getElem?_cons_zero, List.getElem?_cons_succ, List.set_cons_zero, List.set_cons_succ, List.replicate_succ, List.replicate_zero, Nat.reduceAdd, Nat.reduceSub, true_and, wipeD, subT_tt, subT_ii, subT_ib, subT_ll, subT_lt, subT_il, subT_it, subT_tl, subT_is, if_true, if_false, Bool.false_eq_true, Bool.not_true, Bool.not_false]
  exact r2_ok W H5 gl gl _ _ _ _ _ _ _ _ _ _ _ _ _ many hm (G5'.ext x) ok5 (G6.ext x) ok5 hd
end K57

namespace K57
open PySem PySem.Spec
open PyProof.Rows DL
def mill : Net := ⟨2, [(0, [0, 2]), (0, [1, 1]), (1, [1, 0])]⟩
theorem mill_ok : NetOk mill := by
  refine ⟨by decide, by decide, fun d hd => ?_, fun i x y hx hy => ?_, by decide⟩
  · simp only [mill, List.mem_cons, List.not_mem_nil, or_false] at hd
    rcases hd with rfl | rfl | rfl <;> exact ⟨by decide, by decide, by decide⟩
  · match i with
    | 0 => cases hx; cases hy; decide +kernel
    | 1 => cases hx; cases hy; decide +kernel
    | 2 => cases hy
    | _ + 3 => cases hx
/-- at least two marks -/
def Two (b : List Int) : Prop := ∃ x y : Int, b = [x, y] ∧ 0 ≤ x ∧ 0 ≤ y ∧ 2 ≤ x + y
theorem two_can {b : List Int} (h : Two b) : 0 < (can mill b).length := by
  obtain ⟨x, y, rfl, h1, h2, h3⟩ := h
  by_cases hx : 0 < x
  · exact List.length_pos_iff.mpr fun z => by
      have : 0 ∈ can mill [x, y] := List.mem_filter.mpr ⟨by decide, by show decide (0 < x) = true; exact decide_eq_true hx⟩
      rw [z] at this; cases this
  · exact List.length_pos_iff.mpr fun z => by
      have : 2 ∈ can mill [x, y] := List.mem_filter.mpr ⟨by decide, by show decide (0 < y) = true; exact decide_eq_true (by omega)⟩
      rw [z] at this; cases this
theorem two_after {b : List Int} (h : Two b) {d : Nat} (hd : d < 3) (hc : canB mill b d = true) : Two (after mill b d) := by
  obtain ⟨x, y, rfl, h1, h2, h3⟩ := h
  match d, hd with
  | 0, _ =>
    have hx : 0 < x := of_decide_eq_true hc
    exact ⟨x - 1 + 0, y - 0 + 2, rfl, by omega, by omega, by omega⟩
  | 1, _ =>
    have hx : 0 < x := of_decide_eq_true hc
    exact ⟨x - 1 + 1, y - 0 + 1, rfl, by omega, by omega, by omega⟩
  | 2, _ =>
    have hy : 0 < y := of_decide_eq_true hc
    exact ⟨x - 0 + 1, y - 1 + 0, rfl, by omega, by omega, by omega⟩
theorem two_ok {b : List Int} (h : Two b) : BagOk 2 b := by
  obtain ⟨x, y, rfl, h1, h2, h3⟩ := h
  exact ⟨rfl, fun z hz => by
    simp only [List.mem_cons, List.not_mem_nil, or_false] at hz
    rcases hz with rfl | rfl <;> assumption⟩
theorem mill_is : D.tup [.int 2, .tup [.tup [.int 0, .tup [.int 0, .int 2]], .tup [.int 0, .tup [.int 1, .int 1]], .tup [.int 1, .tup [.int 1, .int 0]]]] = netD mill := rfl
theorem b4_ok (W : DXW) (H : DH) (bs : List (List Int)) (b : List Int) (ds : List Nat) (s0 s2 s3 s4 s6 s7 s8 s9 s10 s11 s13 s14 s15 : Option D) (M : DSt → DH → Prop) (B : WellAt H (.nm [100]) (.nm [102])) (G : GameAt H 50 ⟨mill, bs ++ [b], ds⟩) (hh : Hist mill (bs ++ [b]) ds) (tw : Two b) (few : ds.length < 400)
    (z : ∀ (d : Nat) (x : Option D) (y : Option D) (H' : DH), d < 3 → canB mill b d = true → WellAt H' (.nm [100]) (.nm [102]) → GameAt H' 50 ⟨mill, bs ++ [b] ++ [after mill b d], ds ++ [d]⟩ → (∀ p, p ≠ [100] → (∀ m, p ≠ [50, m]) → H' (.nm p) = H (.nm p)) →
      M [s0, some (.ref (.nm [100])), s2, s3, s4, some (.ref (.nm [50, 0])), s6, s7, s8, s9, s10, s11, some (netD mill), s13, x, y] H') :
    t_law_b4 W { D0 with nx := M, ct := M, bk := fun _ _ => False } [s0, some (.ref (.nm [100])), s2, s3, s4, some (.ref (.nm [50, 0])), s6, s7, s8, s9, s10, s11, some (netD mill), s13, s14, s15] H := by
  have hb := two_ok tw
  have hl := hh.len
  rw [List.length_append, List.length_singleton] at hl
  have cl := can_len mill b
  have c3 : mill.deeds.length = 3 := rfl
  simp only [t_law_b4, dSeq2, dIfS, dRet, dRetN, dVar, dC, dOp, dUn, dCons, dNil, dTup, dAsg, bindT, bindTs, itemsD, dIsi, isD, dAndV, dOrV, dNotV, dAnd, dOr, dNot, dTest, tru, dBl, dCall, dCB, dLen, dChain, dLe, dLt, dGe, dGt, dI2, dI2C, dIx, dNext, dDrop, dSet, dSetF, dSub, dMul, dAdd, dMod, dFdiv, dPow, dNeg, dIf, dIntC, dEqN, dEq, dNe, dIsN, dNew, dLst, dTupF, dLenF, dTupleC, dPar, startD, List.length_cons, List.length_nil, List.map_cons, List.map_nil, List.cons_append, List.nil_append, List.getElem?_cons_zero, List.getElem?_cons_succ, List.set_cons_zero, List.set_cons_succ, List.replicate_succ, List.replicate_zero, Nat.reduceAdd, Nat.reduceSub, true_and, wipeD, subT_tt, subT_ii, subT_ib, subT_ll, subT_lt, subT_il, subT_it, subT_tl, subT_is, if_true, if_false, Bool.false_eq_true, Bool.not_true, Bool.not_false]
  refine lc_fil (xs := rangeD 0 3) (canB mill b) (fun j => .int (j : Int)) (fun R h => ?_) (by rw [range_len]; omega) (fun j x hx => ?_) ?_
  · simp only [dRng1, dSeq2, dIfS, dRet, dRetN, dVar, dC, dOp, dUn, dCons, dNil, dTup, dAsg, bindT, bindTs, itemsD, dIsi, isD, dAndV, dOrV, dNotV, dAnd, dOr, dNot, dTest, tru, dBl, dCall, dCB, dLen, dChain, dLe, dLt, dGe, dGt, dI2, dI2C, dIx, dNext, dDrop, dSet, dSetF, dSub, dMul, dAdd, dMod, dFdiv, dPow, dNeg, dIf, dIntC, dEqN, dEq, dNe, dIsN, dNew, dLst, dTupF, dLenF, dTupleC, dPar, startD, List.length_cons, List.length_nil, List.map_cons, List.map_nil, List.cons_append, List.nil_append, List.getElem?_cons_zero, List.getElem?_cons_succ, List.set_cons_zero, List.set_cons_succ, List.replicate_succ, List.replicate_zero, Nat.reduceAdd, Nat.reduceSub, true_and, wipeD, subT_tt, subT_ii, subT_ib, subT_ll, subT_lt, subT_il, subT_it, subT_tl, subT_is, if_true, if_false, Bool.false_eq_true, Bool.not_true, Bool.not_false]
    exact ⟨⟨by omega, by omega⟩, h⟩
  · obtain ⟨hj, rfl⟩ := range_at hx
    obtain ⟨d, hd, e1, e2⟩ := fil_can (H := H) (cs := bs) mill_ok hb hj
    refine ⟨_, rfl, fun R r => ?_, fun R _ r => ?_⟩
    · simp only [G.self, G.bags, netD, List.map_append, atI_last, atI_four, atI_two, Int.zero_add, deed_at hd, deedD, bagD, e1, dSeq2, dIfS, dRet, dRetN, dVar, dC, dOp, dUn, dCons, dNil, dTup, dAsg, bindT, bindTs, itemsD, dIsi, isD, dAndV, dOrV, dNotV, dAnd, dOr, dNot, dTest, tru, dBl, dCall, dCB, dLen, dChain, dLe, dLt, dGe, dGt, dI2, dI2C, dIx, dNext, dDrop, dSet, dSetF, dSub, dMul, dAdd, dMod, dFdiv, dPow, dNeg, dIf, dIntC, dEqN, dEq, dNe, dIsN, dNew, dLst, dTupF, dLenF, dTupleC, dPar, startD, List.length_cons, List.length_nil, List.map_cons, List.map_nil, List.cons_append, List.nil_append, List.getElem?_cons_zero, List.getElem?_cons_succ, List.set_cons_zero, List.set_cons_succ, List.replicate_succ, List.replicate_zero, Nat.reduceAdd, Nat.reduceSub, true_and, wipeD, subT_tt, subT_ii, subT_ib, subT_ll, subT_lt, subT_il, subT_it, subT_tl, subT_is, if_true, if_false, Bool.false_eq_true, Bool.not_true, Bool.not_false]
      rw [← e2]; exact r
    · simp only [Int.zero_add, dSeq2, dIfS, dRet, dRetN, dVar, dC, dOp, dUn, dCons, dNil, dTup, dAsg, bindT, bindTs, itemsD, dIsi, isD, dAndV, dOrV, dNotV, dAnd, dOr, dNot, dTest, tru, dBl, dCall, dCB, dLen, dChain, dLe, dLt, dGe, dGt, dI2, dI2C, dIx, dNext, dDrop, dSet, dSetF, dSub, dMul, dAdd, dMod, dFdiv, dPow, dNeg, dIf, dIntC, dEqN, dEq, dNe, dIsN, dNew, dLst, dTupF, dLenF, dTupleC, dPar, startD, List.length_cons, List.length_nil, List.map_cons, List.map_nil, List.cons_append, List.nil_append, List.getElem?_cons_zero, List.getElem?_cons_succ, List.set_cons_zero, List.set_cons_succ, List.replicate_succ, List.replicate_zero, Nat.reduceAdd, Nat.reduceSub, true_and, wipeD, subT_tt, subT_ii, subT_ib, subT_ll, subT_lt, subT_il, subT_it, subT_tl, subT_is, if_true, if_false, Bool.false_eq_true, Bool.not_true, Bool.not_false]; exact r
  rw [range_len]
  refine .inr fun m1 hm1 => ?_
  have ecan : List.map (fun (j : Nat) => D.int (j : Int)) (List.filter (canB mill b) (List.range 3)) = natsD (can mill b) := rfl
  rw [ecan]
  have c1 : upd H (.tmp m1) (.lst (natsD (can mill b))) (.tmp m1) = some (.lst (natsD (can mill b))) := upd_same
  have fr1 : ∀ p, upd H (.tmp m1) (.lst (natsD (can mill b))) (.nm p) = H (.nm p) := fun p => upd_ne (by simp)
  generalize upd H (.tmp m1) (.lst (natsD (can mill b))) = H1 at c1 fr1 ⊢
  have B1 : WellAt H1 (.nm [100]) (.nm [102]) := B.frame (fr1 _) (fr1 _)
  have G1 := G.frame (H' := H1) fun _ _ => fr1 _
  simp only [c1, dSeq2, dIfS, dRet, dRetN, dVar, dC, dOp, dUn, dCons, dNil, dTup, dAsg, bindT, bindTs, itemsD, dIsi, isD, dAndV, dOrV, dNotV, dAnd, dOr, dNot, dTest, tru, dBl, dCall, dCB, dLen, dChain, dLe, dLt, dGe, dGt, dI2, dI2C, dIx, dNext, dDrop, dSet, dSetF, dSub, dMul, dAdd, dMod, dFdiv, dPow, dNeg, dIf, dIntC, dEqN, dEq, dNe, dIsN, dNew, dLst, dTupF, dLenF, dTupleC, dPar, startD, List.length_cons, List.length_nil, List.map_cons, List.map_nil, List.cons_append, List.nil_append, List.getElem?_cons_zero, List.getElem?_cons_succ, List.set_cons_zero, List.set_cons_succ, List.replicate_succ, List.replicate_zero, Nat.reduceAdd, Nat.reduceSub, true_and, wipeD, subT_tt, subT_ii, subT_ib, subT_ll, subT_lt, subT_il, subT_it, subT_tl, subT_is, if_true, if_false, Bool.false_eq_true, Bool.not_true, Bool.not_false]
  refine ⟨_, _, (can mill b).length, by simp [natsD], B1, two_can tw, by omega, fun r H2 hr B2 fr2 => ?_⟩
  obtain ⟨d, hd, hdl, hdc⟩ := can_at hr
  have c2 : H2 (.tmp m1) = some (.lst (natsD (can mill b))) := by rw [fr2 _ (by simp)]; exact c1
  have ed : L2.atI (natsD (can mill b)) (r : Int) = some (.int (d : Int)) := atI_nat' (by rw [natsD, List.getElem?_map, hd]; rfl)
  have G2 := G1.frame (H' := H2) fun m _ => fr2 _ (by simp)
  simp only [c2, ed, dMeth, G2.self, atI_four, dSeq2, dIfS, dRet, dRetN, dVar, dC, dOp, dUn, dCons, dNil, dTup, dAsg, bindT, bindTs, itemsD, dIsi, isD, dAndV, dOrV, dNotV, dAnd, dOr, dNot, dTest, tru, dBl, dCall, dCB, dLen, dChain, dLe, dLt, dGe, dGt, dI2, dI2C, dIx, dNext, dDrop, dSet, dSetF, dSub, dMul, dAdd, dMod, dFdiv, dPow, dNeg, dIf, dIntC, dEqN, dEq, dNe, dIsN, dNew, dLst, dTupF, dLenF, dTupleC, dPar, startD, List.length_cons, List.length_nil, List.map_cons, List.map_nil, List.cons_append, List.nil_append, List.getElem?_cons_zero, List.getElem?_cons_succ, List.set_cons_zero, List.set_cons_succ, List.replicate_succ, List.replicate_zero, Nat.reduceAdd, Nat.reduceSub, true_and, wipeD, subT_tt, subT_ii, subT_ib, subT_ll, subT_lt, subT_il, subT_it, subT_tl, subT_is, if_true, if_false, Bool.false_eq_true, Bool.not_true, Bool.not_false]
  refine ⟨G2.board.insn, _, _, _, mill, bs, b, ds, d, rfl, G2.board, mill_ok, hb, hdl, hdc, by omega, by omega, fun H3 C3 fr3 => ?_⟩
  have g3 : H3 (.nm [50, 0]) = _ := (fr3 _ (by simp) (by simp)).trans G2.self
  have b3 : H3 (.nm [50, 4]) = some (.lst ((bs ++ [b]).map bagD)) := (fr3 _ (by simp) (by simp)).trans G2.bags
  have d3 : H3 (.nm [50, 5]) = some (.lst (natsD ds)) := (fr3 _ (by simp) (by simp)).trans G2.deeds
  have la : L2.atI ((bs ++ [b]).map bagD) (-1) = some (bagD b) := by rw [List.map_append]; exact atI_last
  simp only [dBM, isT, mAppend, g3, b3, la, atI_four, dSeq2, dIfS, dRet, dRetN, dVar, dC, dOp, dUn, dCons, dNil, dTup, dAsg, bindT, bindTs, itemsD, dIsi, isD, dAndV, dOrV, dNotV, dAnd, dOr, dNot, dTest, tru, dBl, dCall, dCB, dLen, dChain, dLe, dLt, dGe, dGt, dI2, dI2C, dIx, dNext, dDrop, dSet, dSetF, dSub, dMul, dAdd, dMod, dFdiv, dPow, dNeg, dIf, dIntC, dEqN, dEq, dNe, dIsN, dNew, dLst, dTupF, dLenF, dTupleC, dPar, startD, List.length_cons, List.length_nil, List.map_cons, List.map_nil, List.cons_append, List.nil_append, List.getElem?_cons_zero, List.getElem?_cons_succ, List.set_cons_zero, List.set_cons_succ, List.replicate_succ, List.replicate_zero, Nat.reduceAdd, Nat.reduceSub, true_and, wipeD, subT_tt, subT_ii, subT_ib, subT_ll, subT_lt, subT_il, subT_it, subT_tl, subT_is, if_true, if_false, Bool.false_eq_true, Bool.not_true, Bool.not_false]
  refine ⟨by decide, mill, b, d, rfl, mill_ok, hb, hdl, ?_⟩
  simp only [b3]
  refine ⟨by rw [List.length_map, List.length_append, List.length_singleton]; simp only [sizeLine]; omega, ?_⟩
  have g4 : upd H3 (.nm [50, 4]) (.lst ((bs ++ [b]).map bagD ++ [bagD (after mill b d)])) (.nm [50, 0]) = _ := (upd_ne (by simp)).trans g3
  have d4 : upd H3 (.nm [50, 4]) (.lst ((bs ++ [b]).map bagD ++ [bagD (after mill b d)])) (.nm [50, 5]) = some (.lst (natsD ds)) := by rw [upd_ne (by simp)]; exact d3
  simp only [g4, d4, atI_four, dSeq2, dIfS, dRet, dRetN, dVar, dC, dOp, dUn, dCons, dNil, dTup, dAsg, bindT, bindTs, itemsD, dIsi, isD, dAndV, dOrV, dNotV, dAnd, dOr, dNot, dTest, tru, dBl, dCall, dCB, dLen, dChain, dLe, dLt, dGe, dGt, dI2, dI2C, dIx, dNext, dDrop, dSet, dSetF, dSub, dMul, dAdd, dMod, dFdiv, dPow, dNeg, dIf, dIntC, dEqN, dEq, dNe, dIsN, dNew, dLst, dTupF, dLenF, dTupleC, dPar, startD, List.length_cons, List.length_nil, List.map_cons, List.map_nil, List.cons_append, List.nil_append, List.getElem?_cons_zero, List.getElem?_cons_succ, List.set_cons_zero, List.set_cons_succ, List.replicate_succ, List.replicate_zero, Nat.reduceAdd, Nat.reduceSub, true_and, wipeD, subT_tt, subT_ii, subT_ib, subT_ll, subT_lt, subT_il, subT_it, subT_tl, subT_is, if_true, if_false, Bool.false_eq_true, Bool.not_true, Bool.not_false]
  refine ⟨by decide, by simp only [natsD, List.length_map, sizeLine]; omega, z d _ _ _ hdl hdc ?_ ⟨?_, C3.frame ?_ ?_ ?_, ?_, ?_⟩ fun p h1 h2 => ?_⟩
  · refine B2.frame ?_ ?_ <;> rw [upd_ne (by simp), upd_ne (by simp), fr3 _ (by simp) (by simp)]
  · rw [upd_ne (by simp)]; exact g4
  · rw [upd_ne (by simp), upd_ne (by simp)]
  · rw [upd_ne (by simp), upd_ne (by simp)]
  · rw [upd_ne (by simp), upd_ne (by simp)]
  · rw [upd_ne (by simp), upd_same]; simp
  · rw [upd_same]; simp [natsD]
  · rw [upd_ne (by simp [h2]), upd_ne (by simp [h2]), fr3 _ (by simp [h2]) (by simp [h2]), fr2 _ (by simp [h1]), fr1]
theorem r5_ok (W : DXW) (H : DH) (s0 s2 s3 s4 s5 s6 s7 s8 s9 s10 s11 s12 s13 s14 s15 : Option D) (B : WellAt H (.nm [100]) (.nm [102])) (fr : ∀ k m, 50 ≤ k → H (.nm [k, m]) = none) :
    t_law_r5 W D0 [s0, some (.ref (.nm [100])), s2, s3, s4, s5, s6, s7, s8, s9, s10, s11, s12, s13, s14, s15] H := by
  simp only [t_law_r5, List.length_cons, dSeq2, dIfS, dRet, dRetN, dVar, dC, dOp, dUn, dCons, dNil, dTup, dAsg, bindT, bindTs, itemsD, dIsi, isD, dAndV, dOrV, dNotV, dAnd, dOr, dNot, dTest, tru, dBl, dCall, dCB, dLen, dChain, dLe, dLt, dGe, dGt, dI2, dI2C, dIx, dNext, dDrop, dSet, dSetF, dSub, dMul, dAdd, dMod, dFdiv, dPow, dNeg, dIf, dIntC, dEqN, dEq, dNe, dIsN, dNew, dLst, dTupF, dLenF, dTupleC, dPar, startD, List.length_cons, List.length_nil, List.map_cons, List.map_nil, List.cons_append, List.nil_append, List.getElem?_cons_zero, List.getElem?_cons_succ, List.set_cons_zero, List.set_cons_succ, List.replicate_succ, List.replicate_zero, Nat.reduceAdd, Nat.reduceSub, true_and, wipeD, subT_tt, subT_ii, subT_ib, subT_ll, subT_lt, subT_il, subT_it, subT_tl, subT_is, if_true, if_false, Bool.false_eq_true, Bool.not_true, Bool.not_false]
  refine ⟨by simp [sizeLine], by simp [sizeLine], by simp [sizeLine], by simp [sizeLine], by simp [sizeLine], by simp [sizeLine], by simp [sizeLine], by simp [sizeLine], _, _, 300, rfl, B, by omega, by omega, fun r H1 hr B1 fr1 => ⟨by simp [sizeLine], ?_⟩⟩
  have hB : BagOk mill.places [1, 1] := ⟨rfl, fun z hz => by
    simp only [List.mem_cons, List.not_mem_nil, or_false] at hz
    rcases hz with rfl | rfl <;> decide⟩
  have fr1' : ∀ k m, 50 ≤ k → H1 (.nm [k, m]) = none := fun k m h => by rw [fr1 _ (by simp)]; exact fr k m h
  refine ⟨by simp [sizeLine], mill, [1, 1], 50, rfl, mill_ok, hB, fun m => fr1' 50 m (by omega), fun H2 G2 fr2 => ?_⟩
  simp only [dFor, dRng1, dSeq2, dIfS, dRet, dRetN, dVar, dC, dOp, dUn, dCons, dNil, dTup, dAsg, bindT, bindTs, itemsD, dIsi, isD, dAndV, dOrV, dNotV, dAnd, dOr, dNot, dTest, tru, dBl, dCall, dCB, dLen, dChain, dLe, dLt, dGe, dGt, dI2, dI2C, dIx, dNext, dDrop, dSet, dSetF, dSub, dMul, dAdd, dMod, dFdiv, dPow, dNeg, dIf, dIntC, dEqN, dEq, dNe, dIsN, dNew, dLst, dTupF, dLenF, dTupleC, dPar, startD, List.length_cons, List.length_nil, List.map_cons, List.map_nil, List.cons_append, List.nil_append, List.getElem?_cons_zero, List.getElem?_cons_succ, List.set_cons_zero, List.set_cons_succ, List.replicate_succ, List.replicate_zero, Nat.reduceAdd, Nat.reduceSub, true_and, wipeD, subT_tt, subT_ii, subT_ib, subT_ll, subT_lt, subT_il, subT_it, subT_tl, subT_is, if_true, if_false, Bool.false_eq_true, Bool.not_true, Bool.not_false]
  refine ⟨⟨by omega, by omega⟩, 100 + r, fun i σ H' => ∃ t x y bs b ds, σ = [s0, some (.ref (.nm [100])), s2, s3, t, some (.ref (.nm [50, 0])), s6, s7, s8, s9, s10, s11, some (netD mill), some (.int (100 + (r : Int))), x, y] ∧ WellAt H' (.nm [100]) (.nm [102]) ∧ GameAt H' 50 ⟨mill, bs ++ [b], ds⟩ ∧ Hist mill (bs ++ [b]) ds ∧ Two b ∧ ds.length = i ∧ ∀ m, H' (.nm [51, m]) = none, ?_, ?_, ?_⟩
  · refine ⟨_, _, _, [], [1, 1], [], rfl, B1.frame (fr2 _ (by simp)) (fr2 _ (by simp)), G2, .one hB, ⟨1, 1, rfl, by omega, by omega, by omega⟩, rfl, fun m => by rw [fr2 _ (by simp)]; exact fr1' 51 m (by omega)⟩
  · rintro i σ H' hi ⟨t, x, y, bs, b, ds, rfl, B', G', hh, tw, hl, f51⟩
    refine ⟨_, .int (0 + (i : Int)), _, rfl, by rw [range_len]; omega, by rw [rangeD, List.getElem?_map, List.getElem?_range (by omega)]; rfl, rfl, ?_⟩
    have step := b4_ok W H' bs b ds s0 s2 s3 (some (.int (0 + (i : Int)))) s6 s7 s8 s9 s10 s11 (some (.int (100 + (r : Int)))) x y
      (fun σ H' => ∃ t x y bs b ds, σ = [s0, some (.ref (.nm [100])), s2, s3, t, some (.ref (.nm [50, 0])), s6, s7, s8, s9, s10, s11, some (netD mill), some (.int (100 + (r : Int))), x, y] ∧ WellAt H' (.nm [100]) (.nm [102]) ∧ GameAt H' 50 ⟨mill, bs ++ [b], ds⟩ ∧ Hist mill (bs ++ [b]) ds ∧ Two b ∧ ds.length = i + 1 ∧ ∀ m, H' (.nm [51, m]) = none) B' G' hh tw (by omega)
      fun d x y H3 hd hc B3 G3 fr3 => ⟨_, x, y, bs ++ [b], after mill b d, ds ++ [d], rfl, B3, G3, .more hh hd hc, two_after tw hd hc, by rw [List.length_append, List.length_singleton, hl], fun m => by rw [fr3 _ (by simp) (by simp)]; exact f51 m⟩
    exact step
  · rintro σ H' ⟨t, x, y, bs, b, ds, rfl, B', G', hh, tw, hl, f51⟩
    refine ⟨⟨_, rfl, by rw [range_len]; omega⟩, ?_⟩
    exact r3_ok W H' ⟨mill, bs ++ [b], ds⟩ _ _ _ _ _ _ _ _ _ _ _ _ _ (100 + r) (by omega) G' ⟨mill_ok, hh, by show ds.length ≤ 500; omega⟩ hl f51
end K57

namespace K57
open PySem PySem.Spec
open PyProof.Rows DL
theorem lc_inv {K : DIter} {wi : DTI} {t : Tgt} {te : DTE} {vs : List Nat} {σ : DSt} {H : DH} {Q : List D → DH → Prop} (n : Nat) (I : Nat → List D → DH → Prop) (hw : ∀ R : DIter → DH → Prop, R K H → wi σ H R) (hn : n ≤ sizeLine) (i0 : I 0 [] H)
    (step : ∀ i acc H, i < n → I i acc H → ∃ xs x σ2, K.at H = some xs ∧ xs.length = n ∧ xs[i]? = some x ∧ bindT t x H (wipeD σ vs) = some σ2 ∧ te σ2 H fun y H4 => I (i + 1) (acc ++ [y]) H4)
    (fin : ∀ acc H, I n acc H → (∃ xs, K.at H = some xs ∧ xs.length = n) ∧ Q acc H) : dLc wi t dYes te vs σ H Q :=
  hw _ ⟨n, I, hn, i0, fun i acc H hi h => by
    obtain ⟨xs, x, σ2, h1, h2, h3, h4, h5⟩ := step i acc H hi h
    refine ⟨xs, x, σ2, h1, h2, h3, h4, ?_⟩
    unfold dYes
    dsimp only
    rw [if_pos rfl]
    exact h5, fin⟩
structure LS (H : DH) (gs : List Game) : Prop where
  well : WellAt H (.nm [100]) (.nm [102])
  games : GamesAt H (.nm [101]) gs
  free : ∀ k m, 50 ≤ k → H (.nm [k, m]) = none
theorem WellAt.ext {H H' : DH} {i ic : Oid} (h : WellAt H i ic) (x : Ext H H') : WellAt H' i ic := by
  obtain ⟨cells, nx, dg, sd, ct, h1, h2, h3⟩ := h.ex
  exact ⟨cells, nx, dg, sd, ct, x.st _ _ h1, x.st _ _ h2, h3⟩
theorem LS.ext {H H' : DH} {gs : List Game} (L : LS H gs) (x : Ext H H') : LS H' gs :=
  ⟨L.well.ext x, ⟨x.st _ _ L.games.self, fun k g h => let ⟨a, b, c⟩ := L.games.each k g h; ⟨a.ext x, b, c⟩, fun k h m hm => x.fr _ (L.games.free k h m hm), L.games.few⟩, fun k m h => x.fr _ (L.free k m h)⟩
theorem LS.draw {H H' : DH} {gs : List Game} (L : LS H gs) (B : WellAt H' (.nm [100]) (.nm [102])) (fr : ∀ j, j ≠ .nm [100] → H' j = H j) : LS H' gs :=
  ⟨B, L.games.frame (fr _ (by simp)) fun _ _ => fr _ (by simp), fun k m h => by rw [fr _ (by simp)]; exact L.free k m h⟩
theorem game_at {gs : List Game} {r : Nat} (h : r < gs.length) : L2.atI ((List.range gs.length).map fun k => D.ref (.nm [k, 0])) (r : Int) = some (.ref (.nm [r, 0])) :=
  atI_nat' (by rw [List.getElem?_map, List.getElem?_range h]; rfl)
def keptS (n1 : Net) (b1 : List Int) (n2 : Net) (b2 : List Int) : Str := (PyData.list (pdvs [netD n1, bagD b1, netD n2, bagD b2])).shown
structure Nice (n : Net) (b : List Int) : Prop where
  ok : NetOk n
  sm : SmallN n
  ob : BagOk n.places b
  sb : SmallB b
theorem repr_ok {n1 n2 : Net} {b1 b2 : List Int} (h1 : Nice n1 b1) (h2 : Nice n2 b2) {σ : DSt} {H : DH} {Q : DVK} {T : DTA} (hT : ∀ R : List D → DH → Prop, R [netD n1, bagD b1, netD n2, bagD b2] H → T σ H R) (q : Q (.str (keptS n1 b1 n2 b2)) H) : dRepr T σ H Q := by
  obtain ⟨a1, a2, a3, a4⟩ := net_ok h1.ok h1.sm h1.ob h1.sb
  obtain ⟨c1, c2, c3, c4⟩ := net_ok h2.ok h2.sm h2.ob h2.sb
  have ok : okI (.list (pdvs [netD n1, bagD b1, netD n2, bagD b2])) = true := by simp [okI, pdvs, okAll, a1, a3, c1, c3]
  have bd : bnd (.list (pdvs [netD n1, bagD b1, netD n2, bagD b2])) ≤ 1000 := by simp only [bnd, pdvs, bndAll]; omega
  obtain ⟨s1, s2⟩ := okI_show _ ok
  have s3 := shown_le _ ok
  have p : pureDs [netD n1, bagD b1, netD n2, bagD b2] = true := by simp [pureDs, pure_net, pure_bag]
  refine hT _ ⟨pdvs [netD n1, bagD b1, netD n2, bagD b2], PD.of_pures _ _ p, s1, s2, ?_, by simp only [sizeLine]; omega, q⟩
  have d1 := net_depth n1
  have d2 := net_depth n2
  have d3 := ints_depth2 b1
  have d4 := ints_depth2 b2
  simp only [PyData.depth, pdvs, PyData.depthAll]
  omega
theorem r6_ok (W : DXW) (H : DH) (gs : List Game) (n1 n2 : Net) (b1 b2 : List Int) (h1 : Nice n1 b1) (h2 : Nice n2 b2) (s0 s4 s5 s6 s11 s12 s13 s14 s15 : Option D) (L : LS H gs) :
    t_law_r6 W D0 [s0, some (.ref (.nm [100])), some (.str (keptS n1 b1 n2 b2)), some (.ref (.nm [101])), s4, s5, s6, some (netD n1), some (bagD b1), some (netD n2), some (bagD b2), s11, s12, s13, s14, s15] H := by
  have gf := L.games.few
  have re : ∀ n, List.replicate n (D.bl true) ++ [D.bl true] = List.replicate (n + 1) (D.bl true) := fun n => by rw [List.replicate_succ']
  simp only [t_law_r6, dAllF, dSeq2, dIfS, dRet, dRetN, dVar, dC, dOp, dUn, dCons, dNil, dTup, dAsg, bindT, bindTs, itemsD, dIsi, isD, dAndV, dOrV, dNotV, dAnd, dOr, dNot, dTest, tru, dBl, dCall, dCB, dLen, dChain, dLe, dLt, dGe, dGt, dI2, dI2C, dIx, dNext, dDrop, dSet, dSetF, dSub, dMul, dAdd, dMod, dFdiv, dPow, dNeg, dIf, dIntC, dEqN, dEq, dNe, dIsN, dNew, dLst, dTupF, dLenF, dTupleC, dPar, startD, List.length_cons, List.length_nil, List.map_cons, List.map_nil, List.cons_append, List.nil_append, List.getElem?_cons_zero, List.getElem?_cons_succ, List.set_cons_zero, List.set_cons_succ, List.replicate_succ, List.replicate_zero, Nat.reduceAdd, Nat.reduceSub, true_and, wipeD, subT_tt, subT_ii, subT_ib, subT_ll, subT_lt, subT_il, subT_it, subT_tl, subT_is, if_true, if_false, Bool.false_eq_true, Bool.not_true, Bool.not_false]
  refine lc_inv (K := .ls (.nm [101])) gs.length (fun i acc H' => acc = List.replicate i (.bl true) ∧ LS H' gs) (fun R h => ⟨⟨_, L.games.self⟩, h⟩) (by simp only [sizeLine]; omega) ⟨rfl, L⟩ ?_ ?_
  · rintro i acc H' hi ⟨rfl, L⟩
    obtain ⟨g, hg⟩ : ∃ g, gs[i]? = some g := ⟨_, List.getElem?_eq_getElem hi⟩
    obtain ⟨a, b, c⟩ := L.games.each i g hg
    refine ⟨(List.range gs.length).map fun k => D.ref (.nm [k, 0]), .ref (.nm [i, 0]), _, by simp only [DIter.at, L.games.self], by simp, by rw [List.getElem?_map, List.getElem?_range hi]; rfl, rfl, ?_⟩
    simp only [dSeq2, dIfS, dRet, dRetN, dVar, dC, dOp, dUn, dCons, dNil, dTup, dAsg, bindT, bindTs, itemsD, dIsi, isD, dAndV, dOrV, dNotV, dAnd, dOr, dNot, dTest, tru, dBl, dCall, dCB, dLen, dChain, dLe, dLt, dGe, dGt, dI2, dI2C, dIx, dNext, dDrop, dSet, dSetF, dSub, dMul, dAdd, dMod, dFdiv, dPow, dNeg, dIf, dIntC, dEqN, dEq, dNe, dIsN, dNew, dLst, dTupF, dLenF, dTupleC, dPar, startD, List.length_cons, List.length_nil, List.map_cons, List.map_nil, List.cons_append, List.nil_append, List.getElem?_cons_zero, List.getElem?_cons_succ, List.set_cons_zero, List.set_cons_succ, List.replicate_succ, List.replicate_zero, Nat.reduceAdd, Nat.reduceSub, true_and, wipeD, subT_tt, subT_ii, subT_ib, subT_ll, subT_lt, subT_il, subT_it, subT_tl, subT_is, if_true, if_false, Bool.false_eq_true, Bool.not_true, Bool.not_false]
    exact ⟨i, g, 0, rfl, a, b, fun H2 x => ⟨re i, L.ext x⟩⟩
  · rintro acc H' ⟨rfl, L⟩
    refine ⟨⟨(List.range gs.length).map fun k => D.ref (.nm [k, 0]), by simp only [DIter.at, L.games.self], by simp⟩, List.replicate gs.length true, by rw [List.map_replicate], ?_⟩
    simp only [all_rep, dSeq2, dIfS, dRet, dRetN, dVar, dC, dOp, dUn, dCons, dNil, dTup, dAsg, bindT, bindTs, itemsD, dIsi, isD, dAndV, dOrV, dNotV, dAnd, dOr, dNot, dTest, tru, dBl, dCall, dCB, dLen, dChain, dLe, dLt, dGe, dGt, dI2, dI2C, dIx, dNext, dDrop, dSet, dSetF, dSub, dMul, dAdd, dMod, dFdiv, dPow, dNeg, dIf, dIntC, dEqN, dEq, dNe, dIsN, dNew, dLst, dTupF, dLenF, dTupleC, dPar, startD, List.length_cons, List.length_nil, List.map_cons, List.map_nil, List.cons_append, List.nil_append, List.getElem?_cons_zero, List.getElem?_cons_succ, List.set_cons_zero, List.set_cons_succ, List.replicate_succ, List.replicate_zero, Nat.reduceAdd, Nat.reduceSub, true_and, wipeD, subT_tt, subT_ii, subT_ib, subT_ll, subT_lt, subT_il, subT_it, subT_tl, subT_is, if_true, if_false, Bool.false_eq_true, Bool.not_true, Bool.not_false]
    refine repr_ok h1 h2 (fun R h => ⟨by simp [sizeLine], h⟩) ?_
    simp only [decide_true, Bool.true_xor, dSeq2, dIfS, dRet, dRetN, dVar, dC, dOp, dUn, dCons, dNil, dTup, dAsg, bindT, bindTs, itemsD, dIsi, isD, dAndV, dOrV, dNotV, dAnd, dOr, dNot, dTest, tru, dBl, dCall, dCB, dLen, dChain, dLe, dLt, dGe, dGt, dI2, dI2C, dIx, dNext, dDrop, dSet, dSetF, dSub, dMul, dAdd, dMod, dFdiv, dPow, dNeg, dIf, dIntC, dEqN, dEq, dNe, dIsN, dNew, dLst, dTupF, dLenF, dTupleC, dPar, startD, List.length_cons, List.length_nil, List.map_cons, List.map_nil, List.cons_append, List.nil_append, List.getElem?_cons_zero, List.getElem?_cons_succ, List.set_cons_zero, List.set_cons_succ, List.replicate_succ, List.replicate_zero, Nat.reduceAdd, Nat.reduceSub, true_and, wipeD, subT_tt, subT_ii, subT_ib, subT_ll, subT_lt, subT_il, subT_it, subT_tl, subT_is, if_true, if_false, Bool.false_eq_true, Bool.not_true, Bool.not_false]
    exact r5_ok W H' _ _ _ _ _ _ _ _ _ _ _ _ _ _ _ L.well L.free
theorem b8_ok (W : DXW) (H : DH) (gs : List Game) (s0 s2 s4 s5 s6 s7 s8 s9 s10 s11 s12 s13 s14 s15 : Option D) (M : DSt → DH → Prop) (L : LS H gs)
    (z : ∀ (x : Option D) (gs' : List Game) (H' : DH), LS H' gs' → M [s0, some (.ref (.nm [100])), s2, some (.ref (.nm [101])), s4, s5, s6, s7, s8, s9, s10, x, s12, s13, s14, s15] H') :
    t_law_b8 W { D0 with nx := M, ct := M, bk := fun σ H => t_law_r6 W D0 σ H } [s0, some (.ref (.nm [100])), s2, some (.ref (.nm [101])), s4, s5, s6, s7, s8, s9, s10, s11, s12, s13, s14, s15] H := by
  have gf := L.games.few
  simp only [t_law_b8, L.games.self, dSeq2, dIfS, dRet, dRetN, dVar, dC, dOp, dUn, dCons, dNil, dTup, dAsg, bindT, bindTs, itemsD, dIsi, isD, dAndV, dOrV, dNotV, dAnd, dOr, dNot, dTest, tru, dBl, dCall, dCB, dLen, dChain, dLe, dLt, dGe, dGt, dI2, dI2C, dIx, dNext, dDrop, dSet, dSetF, dSub, dMul, dAdd, dMod, dFdiv, dPow, dNeg, dIf, dIntC, dEqN, dEq, dNe, dIsN, dNew, dLst, dTupF, dLenF, dTupleC, dPar, startD, List.length_cons, List.length_nil, List.map_cons, List.map_nil, List.cons_append, List.nil_append, List.getElem?_cons_zero, List.getElem?_cons_succ, List.set_cons_zero, List.set_cons_succ, List.replicate_succ, List.replicate_zero, Nat.reduceAdd, Nat.reduceSub, true_and, wipeD, subT_tt, subT_ii, subT_ib, subT_ll, subT_lt, subT_il, subT_it, subT_tl, subT_is, if_true, if_false, Bool.false_eq_true, Bool.not_true, Bool.not_false]
  refine ⟨_, _, gs.length, by simp, L.well, by omega, by omega, fun r H1 hr B1 fr1 => ?_⟩
  have L1 := L.draw B1 fr1
  simp only [L1.games.self, game_at hr, dSeq2, dIfS, dRet, dRetN, dVar, dC, dOp, dUn, dCons, dNil, dTup, dAsg, bindT, bindTs, itemsD, dIsi, isD, dAndV, dOrV, dNotV, dAnd, dOr, dNot, dTest, tru, dBl, dCall, dCB, dLen, dChain, dLe, dLt, dGe, dGt, dI2, dI2C, dIx, dNext, dDrop, dSet, dSetF, dSub, dMul, dAdd, dMod, dFdiv, dPow, dNeg, dIf, dIntC, dEqN, dEq, dNe, dIsN, dNew, dLst, dTupF, dLenF, dTupleC, dPar, startD, List.length_cons, List.length_nil, List.map_cons, List.map_nil, List.cons_append, List.nil_append, List.getElem?_cons_zero, List.getElem?_cons_succ, List.set_cons_zero, List.set_cons_succ, List.replicate_succ, List.replicate_zero, Nat.reduceAdd, Nat.reduceSub, true_and, wipeD, subT_tt, subT_ii, subT_ib, subT_ll, subT_lt, subT_il, subT_it, subT_tl, subT_is, if_true, if_false, Bool.false_eq_true, Bool.not_true, Bool.not_false]
  refine ⟨_, _, 9, rfl, L1.well, by omega, by omega, fun way H2 _ B2 fr2 => ?_⟩
  have L2' := L1.draw B2 fr2
  refine ⟨.nm [102], gs, r, (way : Int), rfl, L2'.well, L2'.games, hr, L2'.free, fun gs' H3 hle w3 g3 f3 => ?_⟩
  have L3 : LS H3 gs' := ⟨w3, g3, f3⟩
  have gf3 := L3.games.few
  simp only [dSeq2, dIfS, dRet, dRetN, dVar, dC, dOp, dUn, dCons, dNil, dTup, dAsg, bindT, bindTs, itemsD, dIsi, isD, dAndV, dOrV, dNotV, dAnd, dOr, dNot, dTest, tru, dBl, dCall, dCB, dLen, dChain, dLe, dLt, dGe, dGt, dI2, dI2C, dIx, dNext, dDrop, dSet, dSetF, dSub, dMul, dAdd, dMod, dFdiv, dPow, dNeg, dIf, dIntC, dEqN, dEq, dNe, dIsN, dNew, dLst, dTupF, dLenF, dTupleC, dPar, startD, List.length_cons, List.length_nil, List.map_cons, List.map_nil, List.cons_append, List.nil_append, List.getElem?_cons_zero, List.getElem?_cons_succ, List.set_cons_zero, List.set_cons_succ, List.replicate_succ, List.replicate_zero, Nat.reduceAdd, Nat.reduceSub, true_and, wipeD, subT_tt, subT_ii, subT_ib, subT_ll, subT_lt, subT_il, subT_it, subT_tl, subT_is, if_true, if_false, Bool.false_eq_true, Bool.not_true, Bool.not_false]
  refine ⟨_, _, 3, rfl, L3.well, by omega, by omega, fun a H4 _ B4 fr4 => ?_⟩
  have L4 := L3.draw B4 fr4
  have hr' : r < gs'.length := by omega
  obtain ⟨g, hg⟩ : ∃ g, gs'[r]? = some g := ⟨_, List.getElem?_eq_getElem hr'⟩
  obtain ⟨a4, b4, c4⟩ := L4.games.each r g hg
  refine ⟨r, g, (a : Int), rfl, a4, b4, fun H5 x5 => ?_⟩
  have L5 := L4.ext x5
  simp only [t_law_r7, L5.games.self, dSeq2, dIfS, dRet, dRetN, dVar, dC, dOp, dUn, dCons, dNil, dTup, dAsg, bindT, bindTs, itemsD, dIsi, isD, dAndV, dOrV, dNotV, dAnd, dOr, dNot, dTest, tru, dBl, dCall, dCB, dLen, dChain, dLe, dLt, dGe, dGt, dI2, dI2C, dIx, dNext, dDrop, dSet, dSetF, dSub, dMul, dAdd, dMod, dFdiv, dPow, dNeg, dIf, dIntC, dEqN, dEq, dNe, dIsN, dNew, dLst, dTupF, dLenF, dTupleC, dPar, startD, List.length_cons, List.length_nil, List.map_cons, List.map_nil, List.cons_append, List.nil_append, List.getElem?_cons_zero, List.getElem?_cons_succ, List.set_cons_zero, List.set_cons_succ, List.replicate_succ, List.replicate_zero, Nat.reduceAdd, Nat.reduceSub, true_and, wipeD, subT_tt, subT_ii, subT_ib, subT_ll, subT_lt, subT_il, subT_it, subT_tl, subT_is, if_true, if_false, Bool.false_eq_true, Bool.not_true, Bool.not_false]
  refine ⟨_, _, gs'.length, by simp, L5.well, by omega, by omega, fun r2 H6 hr2 B6 fr6 => ?_⟩
  have L6 := L5.draw B6 fr6
  simp only [L6.games.self, game_at hr2, dSeq2, dIfS, dRet, dRetN, dVar, dC, dOp, dUn, dCons, dNil, dTup, dAsg, bindT, bindTs, itemsD, dIsi, isD, dAndV, dOrV, dNotV, dAnd, dOr, dNot, dTest, tru, dBl, dCall, dCB, dLen, dChain, dLe, dLt, dGe, dGt, dI2, dI2C, dIx, dNext, dDrop, dSet, dSetF, dSub, dMul, dAdd, dMod, dFdiv, dPow, dNeg, dIf, dIntC, dEqN, dEq, dNe, dIsN, dNew, dLst, dTupF, dLenF, dTupleC, dPar, startD, List.length_cons, List.length_nil, List.map_cons, List.map_nil, List.cons_append, List.nil_append, List.getElem?_cons_zero, List.getElem?_cons_succ, List.set_cons_zero, List.set_cons_succ, List.replicate_succ, List.replicate_zero, Nat.reduceAdd, Nat.reduceSub, true_and, wipeD, subT_tt, subT_ii, subT_ib, subT_ll, subT_lt, subT_il, subT_it, subT_tl, subT_is, if_true, if_false, Bool.false_eq_true, Bool.not_true, Bool.not_false]
  refine ⟨_, _, 3, rfl, L6.well, by omega, by omega, fun a2 H7 _ B7 fr7 => ?_⟩
  have L7 := L6.draw B7 fr7
  obtain ⟨g7, hg7⟩ : ∃ g, gs'[r2]? = some g := ⟨_, List.getElem?_eq_getElem hr2⟩
  obtain ⟨a7, b7, c7⟩ := L7.games.each r2 g7 hg7
  refine ⟨r2, g7, (a2 : Int), rfl, a7, b7, fun H8 x8 => ?_⟩
  simp only [dSeq2, dIfS, dRet, dRetN, dVar, dC, dOp, dUn, dCons, dNil, dTup, dAsg, bindT, bindTs, itemsD, dIsi, isD, dAndV, dOrV, dNotV, dAnd, dOr, dNot, dTest, tru, dBl, dCall, dCB, dLen, dChain, dLe, dLt, dGe, dGt, dI2, dI2C, dIx, dNext, dDrop, dSet, dSetF, dSub, dMul, dAdd, dMod, dFdiv, dPow, dNeg, dIf, dIntC, dEqN, dEq, dNe, dIsN, dNew, dLst, dTupF, dLenF, dTupleC, dPar, startD, List.length_cons, List.length_nil, List.map_cons, List.map_nil, List.cons_append, List.nil_append, List.getElem?_cons_zero, List.getElem?_cons_succ, List.set_cons_zero, List.set_cons_succ, List.replicate_succ, List.replicate_zero, Nat.reduceAdd, Nat.reduceSub, true_and, wipeD, subT_tt, subT_ii, subT_ib, subT_ll, subT_lt, subT_il, subT_it, subT_tl, subT_is, if_true, if_false, Bool.false_eq_true, Bool.not_true, Bool.not_false]
  exact z _ gs' H8 (L7.ext x8)
theorem law_ok (W : DXW) (ns : List Int) (hl : ns.length ≤ 63) : t_law W D0 (startD N_law [.rol (ns.map D.int)]) (fun _ => none) := by
  simp only [t_law, N_law, dSeq2, dIfS, dRet, dRetN, dVar, dC, dOp, dUn, dCons, dNil, dTup, dAsg, bindT, bindTs, itemsD, dIsi, isD, dAndV, dOrV, dNotV, dAnd, dOr, dNot, dTest, tru, dBl, dCall, dCB, dLen, dChain, dLe, dLt, dGe, dGt, dI2, dI2C, dIx, dNext, dDrop, dSet, dSetF, dSub, dMul, dAdd, dMod, dFdiv, dPow, dNeg, dIf, dIntC, dEqN, dEq, dNe, dIsN, dNew, dLst, dTupF, dLenF, dTupleC, dPar, startD, List.length_cons, List.length_nil, List.map_cons, List.map_nil, List.cons_append, List.nil_append, List.getElem?_cons_zero, List.getElem?_cons_succ, List.set_cons_zero, List.set_cons_succ, List.replicate_succ, List.replicate_zero, Nat.reduceAdd, Nat.reduceSub, true_and, wipeD, subT_tt, subT_ii, subT_ib, subT_ll, subT_lt, subT_il, subT_it, subT_tl, subT_is, if_true, if_false, Bool.false_eq_true, Bool.not_true, Bool.not_false]
  refine ⟨ns, [100], [102], rfl, hl, by simp, rfl, rfl, fun H1 B1 fr1 => ?_⟩
  refine ⟨_, _, rfl, B1, fun n1 b1 H2 ok1 sm1 ob1 sb1 B2 ex2 => ?_⟩
  simp only [dSeq2, dIfS, dRet, dRetN, dVar, dC, dOp, dUn, dCons, dNil, dTup, dAsg, bindT, bindTs, itemsD, dIsi, isD, dAndV, dOrV, dNotV, dAnd, dOr, dNot, dTest, tru, dBl, dCall, dCB, dLen, dChain, dLe, dLt, dGe, dGt, dI2, dI2C, dIx, dNext, dDrop, dSet, dSetF, dSub, dMul, dAdd, dMod, dFdiv, dPow, dNeg, dIf, dIntC, dEqN, dEq, dNe, dIsN, dNew, dLst, dTupF, dLenF, dTupleC, dPar, startD, List.length_cons, List.length_nil, List.map_cons, List.map_nil, List.cons_append, List.nil_append, List.getElem?_cons_zero, List.getElem?_cons_succ, List.set_cons_zero, List.set_cons_succ, List.replicate_succ, List.replicate_zero, Nat.reduceAdd, Nat.reduceSub, true_and, wipeD, subT_tt, subT_ii, subT_ib, subT_ll, subT_lt, subT_il, subT_it, subT_tl, subT_is, if_true, if_false, Bool.false_eq_true, Bool.not_true, Bool.not_false]
  refine ⟨_, _, rfl, B2, fun n2 b2 H3 ok2 sm2 ob2 sb2 B3 ex3 => ?_⟩
  simp only [dSeq2, dIfS, dRet, dRetN, dVar, dC, dOp, dUn, dCons, dNil, dTup, dAsg, bindT, bindTs, itemsD, dIsi, isD, dAndV, dOrV, dNotV, dAnd, dOr, dNot, dTest, tru, dBl, dCall, dCB, dLen, dChain, dLe, dLt, dGe, dGt, dI2, dI2C, dIx, dNext, dDrop, dSet, dSetF, dSub, dMul, dAdd, dMod, dFdiv, dPow, dNeg, dIf, dIntC, dEqN, dEq, dNe, dIsN, dNew, dLst, dTupF, dLenF, dTupleC, dPar, startD, List.length_cons, List.length_nil, List.map_cons, List.map_nil, List.cons_append, List.nil_append, List.getElem?_cons_zero, List.getElem?_cons_succ, List.set_cons_zero, List.set_cons_succ, List.replicate_succ, List.replicate_zero, Nat.reduceAdd, Nat.reduceSub, true_and, wipeD, subT_tt, subT_ii, subT_ib, subT_ll, subT_lt, subT_il, subT_it, subT_tl, subT_is, if_true, if_false, Bool.false_eq_true, Bool.not_true, Bool.not_false]
  have N1 : Nice n1 b1 := ⟨ok1, sm1, ob1, sb1⟩
  have N2 : Nice n2 b2 := ⟨ok2, sm2, ob2, sb2⟩
  refine repr_ok N1 N2 (fun R h => ⟨by simp [sizeLine], h⟩) ?_
  have f3 : ∀ p, p ≠ [100] → p ≠ [102] → H3 (.nm p) = none := fun p h1 h2 => ex3.fr _ (ex2.fr _ (by rw [fr1 _ (by simpa using h1) (by simpa using h2)]))
  refine ⟨n1, b1, 0, rfl, ok1, ob1, fun m => f3 _ (by simp) (by simp), fun H4 G4 fr4 => ?_⟩
  have f4 : ∀ p, p ≠ [100] → p ≠ [102] → (∀ m, m < 6 → p ≠ [0, m]) → H4 (.nm p) = none := fun p h1 h2 h3 => by
    rw [fr4 _ (fun m hm => by simpa using h3 m hm)]; exact f3 p h1 h2
  simp only [dMakeK, g_Board___init___bag_net, List.reverse_cons, List.reverse_nil, dSeq2, dIfS, dRet, dRetN, dVar, dC, dOp, dUn, dCons, dNil, dTup, dAsg, bindT, bindTs, itemsD, dIsi, isD, dAndV, dOrV, dNotV, dAnd, dOr, dNot, dTest, tru, dBl, dCall, dCB, dLen, dChain, dLe, dLt, dGe, dGt, dI2, dI2C, dIx, dNext, dDrop, dSet, dSetF, dSub, dMul, dAdd, dMod, dFdiv, dPow, dNeg, dIf, dIntC, dEqN, dEq, dNe, dIsN, dNew, dLst, dTupF, dLenF, dTupleC, dPar, startD, List.length_cons, List.length_nil, List.map_cons, List.map_nil, List.cons_append, List.nil_append, List.getElem?_cons_zero, List.getElem?_cons_succ, List.set_cons_zero, List.set_cons_succ, List.replicate_succ, List.replicate_zero, Nat.reduceAdd, Nat.reduceSub, true_and, wipeD, subT_tt, subT_ii, subT_ib, subT_ll, subT_lt, subT_il, subT_it, subT_tl, subT_is, if_true, if_false, Bool.false_eq_true, Bool.not_true, Bool.not_false]
  refine .inl ⟨[1, 1], f4 _ (by simp) (by simp) (by simp), ?_⟩
  refine ⟨_, n2, b2, rfl, upd_same, ok2, ob2, [1, 2], [1, 3], by rw [upd_ne (by simp)]; exact f4 _ (by simp) (by simp) (by simp), by rw [upd_ne (by simp)]; exact f4 _ (by simp) (by simp) (by simp), by simp, fun H5 C5 fr5 => ?_⟩
  have f5 : ∀ p, p ≠ [100] → p ≠ [102] → (∀ m, m < 6 → p ≠ [0, m]) → p ≠ [1, 1] → p ≠ [1, 2] → p ≠ [1, 3] → H5 (.nm p) = none := fun p h1 h2 h3 h4 h5 h6 => by
    rw [fr5 _ (by simpa using h4) (by simpa using h5) (by simpa using h6), upd_ne (by simpa using h4)]; exact f4 p h1 h2 h3
  simp only [dSeq2, dIfS, dRet, dRetN, dVar, dC, dOp, dUn, dCons, dNil, dTup, dAsg, bindT, bindTs, itemsD, dIsi, isD, dAndV, dOrV, dNotV, dAnd, dOr, dNot, dTest, tru, dBl, dCall, dCB, dLen, dChain, dLe, dLt, dGe, dGt, dI2, dI2C, dIx, dNext, dDrop, dSet, dSetF, dSub, dMul, dAdd, dMod, dFdiv, dPow, dNeg, dIf, dIntC, dEqN, dEq, dNe, dIsN, dNew, dLst, dTupF, dLenF, dTupleC, dPar, startD, List.length_cons, List.length_nil, List.map_cons, List.map_nil, List.cons_append, List.nil_append, List.getElem?_cons_zero, List.getElem?_cons_succ, List.set_cons_zero, List.set_cons_succ, List.replicate_succ, List.replicate_zero, Nat.reduceAdd, Nat.reduceSub, true_and, wipeD, subT_tt, subT_ii, subT_ib, subT_ll, subT_lt, subT_il, subT_it, subT_tl, subT_is, if_true, if_false, Bool.false_eq_true, Bool.not_true, Bool.not_false]
  refine ⟨by simp [sizeLine], .inl ⟨[1, 4], f5 _ (by simp) (by simp) (by simp) (by simp) (by simp) (by simp), ⟨by simp [sizeLine], .inl ⟨[1, 5], by rw [upd_ne (by simp)]; exact f5 _ (by simp) (by simp) (by simp) (by simp) (by simp) (by simp), ⟨by simp [sizeLine], .inl ⟨[1, 0], by rw [upd_ne (by simp), upd_ne (by simp)]; exact f5 _ (by simp) (by simp) (by simp) (by simp) (by simp) (by simp), ⟨by simp [sizeLine], .inl ⟨[101], by rw [upd_ne (by simp), upd_ne (by simp), upd_ne (by simp)]; exact f5 _ (by simp) (by simp) (by simp) (by simp) (by simp) (by simp), ?_⟩⟩⟩⟩⟩⟩⟩⟩
  have e5 : ∀ p, p ≠ [1, 1] → p ≠ [1, 2] → p ≠ [1, 3] → H5 (.nm p) = H4 (.nm p) := fun p h1 h2 h3 => by
    rw [fr5 _ (by simpa using h1) (by simpa using h2) (by simpa using h3), upd_ne (by simpa using h1)]
  have B4 : WellAt H4 (.nm [100]) (.nm [102]) := B3.frame (fr4 _ (by simp)) (fr4 _ (by simp))
  generalize hH6 : upd (upd (upd (upd H5 (.nm [1, 4]) (.lst [bagD b2])) (.nm [1, 5]) (.lst [])) (.nm [1, 0]) (.lst [.ref (.nm [1, 1]), netD n2, .ref (.nm [1, 4]), .ref (.nm [1, 5])])) (.nm [101]) (.lst [.ref (.nm [0, 0]), .ref (.nm [1, 0])]) = H6
  have o6 : ∀ p, p ≠ [1, 4] → p ≠ [1, 5] → p ≠ [1, 0] → p ≠ [101] → H6 (.nm p) = H5 (.nm p) := fun p h1 h2 h3 h4 => by
    rw [← hH6, upd_ne (by simpa using h4), upd_ne (by simpa using h3), upd_ne (by simpa using h2), upd_ne (by simpa using h1)]
  have L : LS H6 [⟨n1, [b1], []⟩, ⟨n2, [b2], []⟩] := by
    refine ⟨?_, ⟨?_, fun k g hg => ?_, fun k hk m hm => ?_, by simp⟩, fun k m hk => ?_⟩
    · exact B4.frame (by rw [o6 _ (by simp) (by simp) (by simp) (by simp), e5 _ (by simp) (by simp) (by simp)]) (by rw [o6 _ (by simp) (by simp) (by simp) (by simp), e5 _ (by simp) (by simp) (by simp)])
    · rw [← hH6, upd_same]; rfl
    · match k with
      | 0 =>
        cases hg
        exact ⟨G4.frame fun m _ => by rw [o6 _ (by simp) (by simp) (by simp) (by simp), e5 _ (by simp) (by simp) (by simp)], ⟨ok1, .one ob1, by simp⟩, by simp⟩
      | 1 =>
        cases hg
        refine ⟨⟨?_, C5.frame ?_ ?_ ?_, ?_, ?_⟩, ⟨ok2, .one ob2, by simp⟩, by simp⟩
        · rw [← hH6, upd_ne (by simp), upd_same]
        · exact o6 _ (by simp) (by simp) (by simp) (by simp)
        · exact o6 _ (by simp) (by simp) (by simp) (by simp)
        · exact o6 _ (by simp) (by simp) (by simp) (by simp)
        · rw [← hH6, upd_ne (by simp), upd_ne (by simp), upd_ne (by simp), upd_same]; rfl
        · rw [← hH6, upd_ne (by simp), upd_ne (by simp), upd_same]; rfl
      | _ + 2 => cases hg
    · have hk : 2 ≤ k := hk
      have k0 : k ≠ 0 := by omega
      have k1 : k ≠ 1 := by omega
      rw [o6 _ (by simp [k1]) (by simp [k1]) (by simp [k1]) (by simp), e5 _ (by simp [k1]) (by simp [k1]) (by simp [k1])]
      exact f4 _ (by simp) (by simp) (by simp [k0])
    · have k0 : k ≠ 0 := by omega
      have k1 : k ≠ 1 := by omega
      rw [o6 _ (by simp [k1]) (by simp [k1]) (by simp [k1]) (by simp), e5 _ (by simp [k1]) (by simp [k1]) (by simp [k1])]
      exact f4 _ (by simp) (by simp) (by simp [k0])
  simp only [dFor, dRng1, dSeq2, dIfS, dRet, dRetN, dVar, dC, dOp, dUn, dCons, dNil, dTup, dAsg, bindT, bindTs, itemsD, dIsi, isD, dAndV, dOrV, dNotV, dAnd, dOr, dNot, dTest, tru, dBl, dCall, dCB, dLen, dChain, dLe, dLt, dGe, dGt, dI2, dI2C, dIx, dNext, dDrop, dSet, dSetF, dSub, dMul, dAdd, dMod, dFdiv, dPow, dNeg, dIf, dIntC, dEqN, dEq, dNe, dIsN, dNew, dLst, dTupF, dLenF, dTupleC, dPar, startD, List.length_cons, List.length_nil, List.map_cons, List.map_nil, List.cons_append, List.nil_append, List.getElem?_cons_zero, List.getElem?_cons_succ, List.set_cons_zero, List.set_cons_succ, List.replicate_succ, List.replicate_zero, Nat.reduceAdd, Nat.reduceSub, true_and, wipeD, subT_tt, subT_ii, subT_ib, subT_ll, subT_lt, subT_il, subT_it, subT_tl, subT_is, if_true, if_false, Bool.false_eq_true, Bool.not_true, Bool.not_false]
  refine ⟨⟨by omega, by omega⟩, 60, fun i σ H' => ∃ s0 t x gs, σ = [s0, some (.ref (.nm [100])), some (.str (keptS n1 b1 n2 b2)), some (.ref (.nm [101])), t, none, none, some (netD n1), some (bagD b1), some (netD n2), some (bagD b2), x, none, none, none, none] ∧ LS H' gs, ⟨_, _, _, _, rfl, L⟩, ?_, ?_⟩
  · rintro i σ H' hi ⟨s0, t, x, gs, rfl, L⟩
    refine ⟨_, .int (0 + (i : Int)), _, rfl, by rw [range_len]; rfl, by rw [rangeD, List.getElem?_map, show Int.toNat 60 = 60 from rfl, List.getElem?_range (show i < 60 from hi)]; rfl, rfl, ?_⟩
    exact b8_ok W H' gs _ _ _ _ _ _ _ _ _ _ _ _ _ _ (fun σ H' => ∃ s0 t x gs, σ = [s0, some (.ref (.nm [100])), some (.str (keptS n1 b1 n2 b2)), some (.ref (.nm [101])), t, none, none, some (netD n1), some (bagD b1), some (netD n2), some (bagD b2), x, none, none, none, none] ∧ LS H' gs) L fun x gs' H3 L3 => ⟨_, _, _, gs', rfl, L3⟩
  · rintro σ H' ⟨s0, t, x, gs, rfl, L⟩
    refine ⟨⟨_, rfl, by rw [range_len]; rfl⟩, ?_⟩
    exact r6_ok W H' gs n1 n2 b1 b2 N1 N2 _ _ _ _ _ _ _ _ _ L
end K57

namespace K57
open PySem PySem.Spec
open PyProof.Rows L2
open DL
abbrev Fn_ (K : PySem.W.Frag) (x q : Str) (st : Stmt) (f : Addr) (fd : FuncData) : Prop := FunD K x q (defArgs st) (defBody st) (defScope st) [] [] f fd
def defs : List He5.DefA := [⟨fun K => (He.ga K "is_integer"), "is_integer", "is_integer", defArgs s_is_integer, defBody s_is_integer, defScope s_is_integer, [], []⟩, ⟨fun K => (He.ga K "is_between"), "is_between", "is_between", defArgs s_is_between, defBody s_is_between, defScope s_is_between, [], []⟩, ⟨fun K => (He.ga K "are_integers"), "are_integers", "are_integers", defArgs s_are_integers, defBody s_are_integers, defScope s_are_integers, [], []⟩, ⟨fun K => (He.ga K "are_naturals"), "are_naturals", "are_naturals", defArgs s_are_naturals, defBody s_are_naturals, defScope s_are_naturals, [], []⟩, ⟨fun K => (He.ga K "is_ascending"), "is_ascending", "is_ascending", defArgs s_is_ascending, defBody s_is_ascending, defScope s_is_ascending, [], []⟩, ⟨fun K => (He.ga K "is_deed"), "is_deed", "is_deed", defArgs s_is_deed, defBody s_is_deed, defScope s_is_deed, [], []⟩, ⟨fun K => (He.ga K "is_net"), "is_net", "is_net", defArgs s_is_net, defBody s_is_net, defScope s_is_net, [], []⟩, ⟨fun K => (He.ga K "check_net"), "check_net", "check_net", defArgs s_check_net, defBody s_check_net, defScope s_check_net, [], []⟩, ⟨fun K => (He.ga K "check_marks"), "check_marks", "check_marks", defArgs s_check_marks, defBody s_check_marks, defScope s_check_marks, [], []⟩, ⟨fun K => (He.ga K "can_be_done"), "can_be_done", "can_be_done", defArgs s_can_be_done, defBody s_can_be_done, defScope s_can_be_done, [], []⟩, ⟨fun K => (He.ga K "bag_after"), "bag_after", "bag_after", defArgs s_bag_after, defBody s_bag_after, defScope s_bag_after, [], []⟩, ⟨fun K => (He.ga K "check_deed"), "check_deed", "check_deed", defArgs s_check_deed, defBody s_check_deed, defScope s_check_deed, [], []⟩, ⟨fun K => (He.ma K (He.ga K "Board") "__init__"), "__init__", "Board.__init__", defArgs s_Board___init__, defBody s_Board___init__, defScope s_Board___init__, [], []⟩, ⟨fun K => (gAd K "Board" "bag"), "bag", "Board.bag", defArgs s_Board_bag, defBody s_Board_bag, defScope s_Board_bag, [], []⟩, ⟨fun K => (gAd K "Board" "row"), "row", "Board.row", defArgs s_Board_row, defBody s_Board_row, defScope s_Board_row, [], []⟩, ⟨fun K => (He.ma K (He.ga K "Board") "__len__"), "__len__", "Board.__len__", defArgs s_Board___len__, defBody s_Board___len__, defScope s_Board___len__, [], []⟩, ⟨fun K => (He.ma K (He.ga K "Board") "can"), "can", "Board.can", defArgs s_Board_can, defBody s_Board_can, defScope s_Board_can, [], []⟩, ⟨fun K => (He.ma K (He.ga K "Board") "do"), "do", "Board.do", defArgs s_Board_do, defBody s_Board_do, defScope s_Board_do, [], []⟩, ⟨fun K => (He.ma K (He.ga K "Board") "undo"), "undo", "Board.undo", defArgs s_Board_undo, defBody s_Board_undo, defScope s_Board_undo, [], []⟩, ⟨fun K => (He.ma K (He.ga K "Board") "twin"), "twin", "Board.twin", defArgs s_Board_twin, defBody s_Board_twin, defScope s_Board_twin, [], []⟩, ⟨fun K => (He.ga K "_law_well"), "_law_well", "_law_well", defArgs s__law_well, defBody s__law_well, defScope s__law_well, [], []⟩, ⟨fun K => (He.ga K "_law_draw"), "_law_draw", "_law_draw", defArgs s__law_draw, defBody s__law_draw, defScope s__law_draw, [], []⟩, ⟨fun K => (He.ga K "_law_like"), "_law_like", "_law_like", defArgs s__law_like, defBody s__law_like, defScope s__law_like, [], []⟩, ⟨fun K => (He.ga K "_law_sum"), "_law_sum", "_law_sum", defArgs s__law_sum, defBody s__law_sum, defScope s__law_sum, [], []⟩, ⟨fun K => (He.ga K "_law_unit"), "_law_unit", "_law_unit", defArgs s__law_unit, defBody s__law_unit, defScope s__law_unit, [], []⟩, ⟨fun K => (He.ga K "_law_tally"), "_law_tally", "_law_tally", defArgs s__law_tally, defBody s__law_tally, defScope s__law_tally, [], []⟩, ⟨fun K => (He.ga K "_law_net"), "_law_net", "_law_net", defArgs s__law_net, defBody s__law_net, defScope s__law_net, [], []⟩, ⟨fun K => (He.ga K "_law_behind"), "_law_behind", "_law_behind", defArgs s__law_behind, defBody s__law_behind, defScope s__law_behind, [], []⟩, ⟨fun K => (He.ga K "_law_begun"), "_law_begun", "_law_begun", defArgs s__law_begun, defBody s__law_begun, defScope s__law_begun, [], []⟩, ⟨fun K => (He.ga K "_law_shows"), "_law_shows", "_law_shows", defArgs s__law_shows, defBody s__law_shows, defScope s__law_shows, [], []⟩, ⟨fun K => (He.ga K "_law_turned"), "_law_turned", "_law_turned", defArgs s__law_turned, defBody s__law_turned, defScope s__law_turned, [], []⟩, ⟨fun K => (He.ga K "law"), "law", "law", defArgs s_law, defBody s_law, defScope s_law, [], []⟩]
section
variable {P : Program} {w : World} {K : PySem.W.Frag} {mg : Str → Option Value} {base : Heap} {fd : FuncData}
theorem ok_is_integer (C : KCtx K mg base) (F : Fn_ K "is_integer" "is_integer" s_is_integer (He.ga K "is_integer") fd) : GFn P w K mg base (cfg K) (He.ga K "is_integer") 1 1 S_is_integer :=
  ⟨fd, ["value"], rfl, def_ok F rfl sc_is_integer rfl (w_is_integer C) p_is_integer, F.bindsN fun _ _ _ _ _ _ us hl => match us, hl with | [_], _ => rfl⟩
theorem ok_is_between (C : KCtx K mg base) (F_is_integer : GFn P w K mg base (cfg K) (He.ga K "is_integer") 1 1 S_is_integer) (F : Fn_ K "is_between" "is_between" s_is_between (He.ga K "is_between") fd) : GFn P w K mg base (cfg K) (He.ga K "is_between") 2 3 S_is_between :=
  ⟨fd, ["value", "low", "high"], rfl, def_ok F rfl sc_is_between rfl (w_is_between C F_is_integer) p_is_between, F.bindsN fun _ _ _ _ _ _ us hl => match us, hl with | [_, _, _], _ => rfl⟩
theorem ok_are_integers (C : KCtx K mg base) (F_is_integer : GFn P w K mg base (cfg K) (He.ga K "is_integer") 1 1 S_is_integer) (F : Fn_ K "are_integers" "are_integers" s_are_integers (He.ga K "are_integers") fd) : GFn P w K mg base (cfg K) (He.ga K "are_integers") 3 2 S_are_integers :=
  ⟨fd, ["value", "size"], rfl, def_ok F rfl sc_are_integers rfl (w_are_integers C F_is_integer) p_are_integers, F.bindsN fun _ _ _ _ _ _ us hl => match us, hl with | [_, _], _ => rfl⟩
theorem ok_are_naturals (C : KCtx K mg base) (F_are_integers : GFn P w K mg base (cfg K) (He.ga K "are_integers") 3 2 S_are_integers) (F : Fn_ K "are_naturals" "are_naturals" s_are_naturals (He.ga K "are_naturals") fd) : GFn P w K mg base (cfg K) (He.ga K "are_naturals") 4 2 S_are_naturals :=
  ⟨fd, ["value", "size"], rfl, def_ok F rfl sc_are_naturals rfl (w_are_naturals C F_are_integers) p_are_naturals, F.bindsN fun _ _ _ _ _ _ us hl => match us, hl with | [_, _], _ => rfl⟩
theorem ok_is_ascending (C : KCtx K mg base) (F : Fn_ K "is_ascending" "is_ascending" s_is_ascending (He.ga K "is_ascending") fd) : GFn P w K mg base (cfg K) (He.ga K "is_ascending") 2 1 S_is_ascending :=
  ⟨fd, ["items"], rfl, def_ok F rfl sc_is_ascending rfl (w_is_ascending C) p_is_ascending, F.bindsN fun _ _ _ _ _ _ us hl => match us, hl with | [_], _ => rfl⟩
theorem ok_is_deed (C : KCtx K mg base) (F_is_between : GFn P w K mg base (cfg K) (He.ga K "is_between") 2 3 S_is_between) (F_are_naturals : GFn P w K mg base (cfg K) (He.ga K "are_naturals") 4 2 S_are_naturals) (F : Fn_ K "is_deed" "is_deed" s_is_deed (He.ga K "is_deed") fd) : GFn P w K mg base (cfg K) (He.ga K "is_deed") 5 2 S_is_deed :=
  ⟨fd, ["places", "value"], rfl, def_ok F rfl sc_is_deed rfl (w_is_deed C F_is_between F_are_naturals) p_is_deed, F.bindsN fun _ _ _ _ _ _ us hl => match us, hl with | [_, _], _ => rfl⟩
theorem ok_is_net (C : KCtx K mg base) (F_is_between : GFn P w K mg base (cfg K) (He.ga K "is_between") 2 3 S_is_between) (F_is_deed : GFn P w K mg base (cfg K) (He.ga K "is_deed") 5 2 S_is_deed) (F_is_ascending : GFn P w K mg base (cfg K) (He.ga K "is_ascending") 2 1 S_is_ascending) (F : Fn_ K "is_net" "is_net" s_is_net (He.ga K "is_net") fd) : GFn P w K mg base (cfg K) (He.ga K "is_net") 7 1 S_is_net :=
  ⟨fd, ["value"], rfl, def_ok F rfl sc_is_net rfl (w_is_net C F_is_between F_is_deed F_is_ascending) p_is_net, F.bindsN fun _ _ _ _ _ _ us hl => match us, hl with | [_], _ => rfl⟩
theorem ok_check_net (C : KCtx K mg base) (F_is_net : GFn P w K mg base (cfg K) (He.ga K "is_net") 7 1 S_is_net) (F : Fn_ K "check_net" "check_net" s_check_net (He.ga K "check_net") fd) : GFn P w K mg base (cfg K) (He.ga K "check_net") 8 1 S_check_net :=
  ⟨fd, ["net"], rfl, def_ok F rfl sc_check_net rfl (w_check_net C F_is_net) p_check_net, F.bindsN fun _ _ _ _ _ _ us hl => match us, hl with | [_], _ => rfl⟩
theorem ok_check_marks (C : KCtx K mg base) (F_are_naturals : GFn P w K mg base (cfg K) (He.ga K "are_naturals") 4 2 S_are_naturals) (F : Fn_ K "check_marks" "check_marks" s_check_marks (He.ga K "check_marks") fd) : GFn P w K mg base (cfg K) (He.ga K "check_marks") 5 2 S_check_marks :=
  ⟨fd, ["net", "bag"], rfl, def_ok F rfl sc_check_marks rfl (w_check_marks C F_are_naturals) p_check_marks, F.bindsN fun _ _ _ _ _ _ us hl => match us, hl with | [_, _], _ => rfl⟩
theorem ok_can_be_done (C : KCtx K mg base) (F : Fn_ K "can_be_done" "can_be_done" s_can_be_done (He.ga K "can_be_done") fd) : GFn P w K mg base (cfg K) (He.ga K "can_be_done") 1 3 S_can_be_done :=
  ⟨fd, ["net", "bag", "deed"], rfl, def_ok F rfl sc_can_be_done rfl (w_can_be_done C) p_can_be_done, F.bindsN fun _ _ _ _ _ _ us hl => match us, hl with | [_, _, _], _ => rfl⟩
theorem ok_bag_after (C : KCtx K mg base) (F : Fn_ K "bag_after" "bag_after" s_bag_after (He.ga K "bag_after") fd) : GFn P w K mg base (cfg K) (He.ga K "bag_after") 1 3 S_bag_after :=
  ⟨fd, ["net", "bag", "deed"], rfl, def_ok F rfl sc_bag_after rfl (w_bag_after C) p_bag_after, F.bindsN fun _ _ _ _ _ _ us hl => match us, hl with | [_, _, _], _ => rfl⟩
theorem ok_check_deed (C : KCtx K mg base) (F_is_between : GFn P w K mg base (cfg K) (He.ga K "is_between") 2 3 S_is_between) (F_can_be_done : GFn P w K mg base (cfg K) (He.ga K "can_be_done") 1 3 S_can_be_done) (F : Fn_ K "check_deed" "check_deed" s_check_deed (He.ga K "check_deed") fd) : GFn P w K mg base (cfg K) (He.ga K "check_deed") 3 3 S_check_deed :=
  ⟨fd, ["net", "bag", "deed"], rfl, def_ok F rfl sc_check_deed rfl (w_check_deed C F_is_between F_can_be_done) p_check_deed, F.bindsN fun _ _ _ _ _ _ us hl => match us, hl with | [_, _, _], _ => rfl⟩
theorem ok_Board___init__ (C : KCtx K mg base) (F_check_net : GFn P w K mg base (cfg K) (He.ga K "check_net") 8 1 S_check_net) (F_check_marks : GFn P w K mg base (cfg K) (He.ga K "check_marks") 5 2 S_check_marks) (F : Fn_ K "__init__" "Board.__init__" s_Board___init__ (He.ma K (He.ga K "Board") "__init__") fd) : GFn P w K mg base (cfg K) (He.ma K (He.ga K "Board") "__init__") 9 3 S_Board___init__ :=
  ⟨fd, ["self", "net", "bag"], rfl, def_ok F rfl sc_Board___init__ rfl (w_Board___init__ C F_check_net F_check_marks) p_Board___init__, F.bindsN fun _ _ _ _ _ _ us hl => match us, hl with | [_, _, _], _ => rfl⟩
theorem ok_Board_bag (C : KCtx K mg base) (F : Fn_ K "bag" "Board.bag" s_Board_bag (gAd K "Board" "bag") fd) : GFn P w K mg base (cfg K) (gAd K "Board" "bag") 1 1 S_Board_bag :=
  ⟨fd, ["self"], rfl, def_ok F rfl sc_Board_bag rfl (w_Board_bag C) p_Board_bag, F.bindsN fun _ _ _ _ _ _ us hl => match us, hl with | [_], _ => rfl⟩
theorem ok_Board_row (C : KCtx K mg base) (F : Fn_ K "row" "Board.row" s_Board_row (gAd K "Board" "row") fd) : GFn P w K mg base (cfg K) (gAd K "Board" "row") 1 1 S_Board_row :=
  ⟨fd, ["self"], rfl, def_ok F rfl sc_Board_row rfl (w_Board_row C) p_Board_row, F.bindsN fun _ _ _ _ _ _ us hl => match us, hl with | [_], _ => rfl⟩
theorem ok_Board___len__ (C : KCtx K mg base) (F : Fn_ K "__len__" "Board.__len__" s_Board___len__ (He.ma K (He.ga K "Board") "__len__") fd) : GFn P w K mg base (cfg K) (He.ma K (He.ga K "Board") "__len__") 1 1 S_Board___len__ :=
  ⟨fd, ["self"], rfl, def_ok F rfl sc_Board___len__ rfl (w_Board___len__ C) p_Board___len__, F.bindsN fun _ _ _ _ _ _ us hl => match us, hl with | [_], _ => rfl⟩
theorem ok_Board_can (C : KCtx K mg base) (F_can_be_done : GFn P w K mg base (cfg K) (He.ga K "can_be_done") 1 3 S_can_be_done) (F : Fn_ K "can" "Board.can" s_Board_can (He.ma K (He.ga K "Board") "can") fd) : GFn P w K mg base (cfg K) (He.ma K (He.ga K "Board") "can") 2 1 S_Board_can :=
  ⟨fd, ["self"], rfl, def_ok F rfl sc_Board_can rfl (w_Board_can C F_can_be_done) p_Board_can, F.bindsN fun _ _ _ _ _ _ us hl => match us, hl with | [_], _ => rfl⟩
theorem ok_Board_do (C : KCtx K mg base) (F_check_deed : GFn P w K mg base (cfg K) (He.ga K "check_deed") 3 3 S_check_deed) (F_bag_after : GFn P w K mg base (cfg K) (He.ga K "bag_after") 1 3 S_bag_after) (F : Fn_ K "do" "Board.do" s_Board_do (He.ma K (He.ga K "Board") "do") fd) : GFn P w K mg base (cfg K) (He.ma K (He.ga K "Board") "do") 4 2 S_Board_do :=
  ⟨fd, ["self", "deed"], rfl, def_ok F rfl sc_Board_do rfl (w_Board_do C F_check_deed F_bag_after) p_Board_do, F.bindsN fun _ _ _ _ _ _ us hl => match us, hl with | [_, _], _ => rfl⟩
theorem ok_Board_undo (C : KCtx K mg base) (F : Fn_ K "undo" "Board.undo" s_Board_undo (He.ma K (He.ga K "Board") "undo") fd) : GFn P w K mg base (cfg K) (He.ma K (He.ga K "Board") "undo") 1 1 S_Board_undo :=
  ⟨fd, ["self"], rfl, def_ok F rfl sc_Board_undo rfl (w_Board_undo C) p_Board_undo, F.bindsN fun _ _ _ _ _ _ us hl => match us, hl with | [_], _ => rfl⟩
theorem ok_Board_twin (C : KCtx K mg base) (F_Board_do : GFn P w K mg base (cfg K) (He.ma K (He.ga K "Board") "do") 4 2 S_Board_do) (F_Board___init__ : GFn P w K mg base (cfg K) (He.ma K (He.ga K "Board") "__init__") 9 3 S_Board___init__) (F : Fn_ K "twin" "Board.twin" s_Board_twin (He.ma K (He.ga K "Board") "twin") fd) : GFn P w K mg base (cfg K) (He.ma K (He.ga K "Board") "twin") 11 1 S_Board_twin :=
  ⟨fd, ["self"], rfl, def_ok F rfl sc_Board_twin rfl (w_Board_twin C F_Board_do F_Board___init__) p_Board_twin, F.bindsN fun _ _ _ _ _ _ us hl => match us, hl with | [_], _ => rfl⟩
theorem ok__law_well (C : KCtx K mg base) (F : Fn_ K "_law_well" "_law_well" s__law_well (He.ga K "_law_well") fd) : GFn P w K mg base (cfg K) (He.ga K "_law_well") 1 1 S__law_well :=
  ⟨fd, ["script"], rfl, def_ok F rfl sc__law_well rfl (w__law_well C) p__law_well, F.bindsN fun _ _ _ _ _ _ us hl => match us, hl with | [_], _ => rfl⟩
theorem ok__law_draw (C : KCtx K mg base) (F : Fn_ K "_law_draw" "_law_draw" s__law_draw (He.ga K "_law_draw") fd) : GFn P w K mg base (cfg K) (He.ga K "_law_draw") 1 2 S__law_draw :=
  ⟨fd, ["well", "many"], rfl, def_ok F rfl sc__law_draw rfl (w__law_draw C) p__law_draw, F.bindsN fun _ _ _ _ _ _ us hl => match us, hl with | [_, _], _ => rfl⟩
theorem ok__law_like (C : KCtx K mg base) (F : Fn_ K "_law_like" "_law_like" s__law_like (He.ga K "_law_like") fd) : ∀ d, GFn P w K mg base (cfg K) (He.ga K "_law_like") d 2 (S__law_like d)
  | 0 => ⟨fd, ["told", "due"], rfl, ⟨fun vs H Q E h => h.1, fun A outer s H args us vs Q E _ _ _ _ h => by obtain ⟨_, _, _, _, _, _, _, _, z, _⟩ := h; exact z.elim⟩, F.bindsN fun _ _ _ _ _ _ us hl => match us, hl with | [_, _], _ => rfl⟩
  | d + 1 => ⟨fd, ["told", "due"], rfl, def_ok F rfl sc__law_like rfl (w__law_like C (ok__law_like C F d)) (p__law_like d), F.bindsN fun _ _ _ _ _ _ us hl => match us, hl with | [_, _], _ => rfl⟩
theorem ok__law_sum (C : KCtx K mg base) (F : Fn_ K "_law_sum" "_law_sum" s__law_sum (He.ga K "_law_sum") fd) : GFn P w K mg base (cfg K) (He.ga K "_law_sum") 1 3 S__law_sum :=
  ⟨fd, ["one", "other", "many"], rfl, def_ok F rfl sc__law_sum rfl (w__law_sum C) p__law_sum, F.bindsN fun _ _ _ _ _ _ us hl => match us, hl with | [_, _, _], _ => rfl⟩
theorem ok__law_unit (C : KCtx K mg base) (F : Fn_ K "_law_unit" "_law_unit" s__law_unit (He.ga K "_law_unit") fd) : GFn P w K mg base (cfg K) (He.ga K "_law_unit") 1 2 S__law_unit :=
  ⟨fd, ["size", "place"], rfl, def_ok F rfl sc__law_unit rfl (w__law_unit C) p__law_unit, F.bindsN fun _ _ _ _ _ _ us hl => match us, hl with | [_, _], _ => rfl⟩
theorem ok__law_tally (C : KCtx K mg base) (F__law_draw : GFn P w K mg base (cfg K) (He.ga K "_law_draw") 1 2 S__law_draw) (F : Fn_ K "_law_tally" "_law_tally" s__law_tally (He.ga K "_law_tally") fd) : GFn P w K mg base (cfg K) (He.ga K "_law_tally") 2 3 S__law_tally :=
  ⟨fd, ["well", "size", "total"], rfl, def_ok F rfl sc__law_tally rfl (w__law_tally C F__law_draw) p__law_tally, F.bindsN fun _ _ _ _ _ _ us hl => match us, hl with | [_, _, _], _ => rfl⟩
theorem ok__law_net (C : KCtx K mg base) (F__law_tally : GFn P w K mg base (cfg K) (He.ga K "_law_tally") 2 3 S__law_tally) (F__law_draw : GFn P w K mg base (cfg K) (He.ga K "_law_draw") 1 2 S__law_draw) (F : Fn_ K "_law_net" "_law_net" s__law_net (He.ga K "_law_net") fd) : GFn P w K mg base (cfg K) (He.ga K "_law_net") 3 2 S__law_net :=
  ⟨fd, ["well", "most"], rfl, def_ok F rfl sc__law_net rfl (w__law_net C F__law_tally F__law_draw) p__law_net, F.bindsN fun _ _ _ _ _ _ us hl => match us, hl with | [_, _], _ => rfl⟩
theorem ok__law_behind (C : KCtx K mg base) (F__law_sum : GFn P w K mg base (cfg K) (He.ga K "_law_sum") 1 3 S__law_sum) (F__law_unit : GFn P w K mg base (cfg K) (He.ga K "_law_unit") 1 2 S__law_unit) (F : Fn_ K "_law_behind" "_law_behind" s__law_behind (He.ga K "_law_behind") fd) : GFn P w K mg base (cfg K) (He.ga K "_law_behind") 2 3 S__law_behind :=
  ⟨fd, ["net", "bag", "deed"], rfl, def_ok F rfl sc__law_behind rfl (w__law_behind C F__law_sum F__law_unit) p__law_behind, F.bindsN fun _ _ _ _ _ _ us hl => match us, hl with | [_, _, _], _ => rfl⟩
theorem ok__law_begun (C : KCtx K mg base) (F_Board___init__ : GFn P w K mg base (cfg K) (He.ma K (He.ga K "Board") "__init__") 9 3 S_Board___init__) (F : Fn_ K "_law_begun" "_law_begun" s__law_begun (He.ga K "_law_begun") fd) : GFn P w K mg base (cfg K) (He.ga K "_law_begun") 11 2 S__law_begun :=
  ⟨fd, ["net", "bag"], rfl, def_ok F rfl sc__law_begun rfl (w__law_begun C F_Board___init__) p__law_begun, F.bindsN fun _ _ _ _ _ _ us hl => match us, hl with | [_, _], _ => rfl⟩
theorem ok__law_shows (C : KCtx K mg base) (F__law_like : GFn P w K mg base (cfg K) (He.ga K "_law_like") 3 2 (S__law_like 3)) (F_Board_can : GFn P w K mg base (cfg K) (He.ma K (He.ga K "Board") "can") 2 1 S_Board_can) (F_Board___len__ : GFn P w K mg base (cfg K) (He.ma K (He.ga K "Board") "__len__") 1 1 S_Board___len__) (F_Board_row : GFn P w K mg base (cfg K) (gAd K "Board" "row") 1 1 S_Board_row) (F_Board_bag : GFn P w K mg base (cfg K) (gAd K "Board" "bag") 1 1 S_Board_bag) (F : Fn_ K "_law_shows" "_law_shows" s__law_shows (He.ga K "_law_shows") fd) : GFn P w K mg base (cfg K) (He.ga K "_law_shows") 4 2 S__law_shows :=
  ⟨fd, ["game", "asks"], rfl, def_ok F rfl sc__law_shows rfl (w__law_shows C F__law_like F_Board_can F_Board___len__ F_Board_row F_Board_bag) p__law_shows, F.bindsN fun _ _ _ _ _ _ us hl => match us, hl with | [_, _], _ => rfl⟩
theorem ok__law_turned (C : KCtx K mg base) (F__law_draw : GFn P w K mg base (cfg K) (He.ga K "_law_draw") 1 2 S__law_draw) (F_Board_do : GFn P w K mg base (cfg K) (He.ma K (He.ga K "Board") "do") 4 2 S_Board_do) (F__law_behind : GFn P w K mg base (cfg K) (He.ga K "_law_behind") 2 3 S__law_behind) (F_Board_undo : GFn P w K mg base (cfg K) (He.ma K (He.ga K "Board") "undo") 1 1 S_Board_undo) (F_Board_twin : GFn P w K mg base (cfg K) (He.ma K (He.ga K "Board") "twin") 11 1 S_Board_twin) (F_Board_do_deed : GFnK P w K mg base (cfg K) (He.ma K (He.ga K "Board") "do") 4 2 S_Board_do 1 ["deed"] @g_Board_do_deed) (F : Fn_ K "_law_turned" "_law_turned" s__law_turned (He.ga K "_law_turned") fd) : GFn P w K mg base (cfg K) (He.ga K "_law_turned") 12 4 S__law_turned :=
  ⟨fd, ["well", "games", "game", "way"], rfl, def_ok F rfl sc__law_turned rfl (w__law_turned C F__law_draw F_Board_do F__law_behind F_Board_undo F_Board_twin F_Board_do_deed) p__law_turned, F.bindsN fun _ _ _ _ _ _ us hl => match us, hl with | [_, _, _, _], _ => rfl⟩
theorem kp_do (F : Fn_ K "do" "Board.do" s_Board_do (He.ma K (He.ga K "Board") "do") fd) : KPerm K fd ["self", "deed"] 1 ["deed"] @g_Board_do_deed := by
  obtain ⟨oc, od, dV, kV, doc, pm, an, cdv, ct, osl, rfl, lk, hcd, hD, hK⟩ := F.ex
  rcases hD with ⟨_, rfl⟩ | ⟨e, _⟩
  · exact ⟨fun s us ws _ hu hw => match us, ws, hu, hw with | [_], [_], _, _ => .of_eq rfl, fun r1 r2 => r1.append r2, fun r1 r2 => r1.append r2⟩
  · exact absurd rfl e
theorem kp_init (F : Fn_ K "__init__" "Board.__init__" s_Board___init__ (He.ma K (He.ga K "Board") "__init__") fd) : KPerm K fd ["self", "net", "bag"] 1 ["bag", "net"] @g_Board___init___bag_net := by
  obtain ⟨oc, od, dV, kV, doc, pm, an, cdv, ct, osl, rfl, lk, hcd, hD, hK⟩ := F.ex
  have rv : ∀ {vs : List V} {us : List Value}, Vals vs us → Vals vs.reverse us.reverse := fun {vs us} h => by
    induction h with
    | nil => exact .nil
    | cons a b ih => rw [List.reverse_cons, List.reverse_cons]; exact ih.append (.cons a .nil)
  have rr : ∀ {G : Cfg} {μ : Mu} {H : Hp} {ds : List D} {vs : List V}, RDs G μ H ds vs → RDs G μ H ds.reverse vs.reverse := fun {G μ H ds} => by
    induction ds with
    | nil => intro vs h; cases h; exact .nil
    | cons d ds ih =>
      intro vs h
      cases h with
      | cons a b => rw [List.reverse_cons, List.reverse_cons]; exact (ih b).append (.cons a .nil)
  rcases hD with ⟨_, rfl⟩ | ⟨e, _⟩
  · exact ⟨fun s us ws _ hu hw => match us, ws, hu, hw with | [_], [_, _], _, _ => .of_eq rfl, fun r1 r2 => r1.append (rv r2), fun r1 r2 => r1.append (rr r2)⟩
  · exact absurd rfl e
theorem law_walk (C : KCtx K mg base) (hf : ∀ d ∈ defs, ∃ fd, FunD K d.name d.qual d.params d.body d.scope (d.dvs K) (d.kws K) (d.at_ K) fd) {A : Around} {outer : List Env} {s : Shared} {H : Hp} (hgd : A.guards = some []) (W : DXW) (E : XK) (μ : Mu)
    (tk : Takes (dcx P w K mg base N_law "law" (defScope s_law) (He.ga K "law") (.ref (codeA K (He.ga K "law"))) A outer s H E) (wxOf P w (cfg K) μ H W)) (hr : Room 12 (A.deeper (envOfC "law" (defScope s_law) s.heap.objs.size (He.ga K "law") (.ref (codeA K (He.ga K "law")))))) :
    DSs ⟨dcx P w K mg base N_law "law" (defScope s_law) (He.ga K "law") (.ref (codeA K (He.ga K "law"))) A outer s H E, cfg K, μ, H, W, rfl, tk⟩ (defBody s_law) (t_law W) := by
  obtain ⟨fd_is_integer, D_is_integer⟩ := hf _ (List.mem_of_getElem? (i := 0) rfl)
  have F_is_integer := ok_is_integer (P := P) (w := w) C D_is_integer
  obtain ⟨fd_is_between, D_is_between⟩ := hf _ (List.mem_of_getElem? (i := 1) rfl)
  have F_is_between := ok_is_between (P := P) (w := w) C F_is_integer D_is_between
  obtain ⟨fd_are_integers, D_are_integers⟩ := hf _ (List.mem_of_getElem? (i := 2) rfl)
  have F_are_integers := ok_are_integers (P := P) (w := w) C F_is_integer D_are_integers
  obtain ⟨fd_are_naturals, D_are_naturals⟩ := hf _ (List.mem_of_getElem? (i := 3) rfl)
  have F_are_naturals := ok_are_naturals (P := P) (w := w) C F_are_integers D_are_naturals
  obtain ⟨fd_is_ascending, D_is_ascending⟩ := hf _ (List.mem_of_getElem? (i := 4) rfl)
  have F_is_ascending := ok_is_ascending (P := P) (w := w) C D_is_ascending
  obtain ⟨fd_is_deed, D_is_deed⟩ := hf _ (List.mem_of_getElem? (i := 5) rfl)
  have F_is_deed := ok_is_deed (P := P) (w := w) C F_is_between F_are_naturals D_is_deed
  obtain ⟨fd_is_net, D_is_net⟩ := hf _ (List.mem_of_getElem? (i := 6) rfl)
  have F_is_net := ok_is_net (P := P) (w := w) C F_is_between F_is_deed F_is_ascending D_is_net
  obtain ⟨fd_check_net, D_check_net⟩ := hf _ (List.mem_of_getElem? (i := 7) rfl)
  have F_check_net := ok_check_net (P := P) (w := w) C F_is_net D_check_net
  obtain ⟨fd_check_marks, D_check_marks⟩ := hf _ (List.mem_of_getElem? (i := 8) rfl)
  have F_check_marks := ok_check_marks (P := P) (w := w) C F_are_naturals D_check_marks
  obtain ⟨fd_can_be_done, D_can_be_done⟩ := hf _ (List.mem_of_getElem? (i := 9) rfl)
  have F_can_be_done := ok_can_be_done (P := P) (w := w) C D_can_be_done
  obtain ⟨fd_bag_after, D_bag_after⟩ := hf _ (List.mem_of_getElem? (i := 10) rfl)
  have F_bag_after := ok_bag_after (P := P) (w := w) C D_bag_after
  obtain ⟨fd_check_deed, D_check_deed⟩ := hf _ (List.mem_of_getElem? (i := 11) rfl)
  have F_check_deed := ok_check_deed (P := P) (w := w) C F_is_between F_can_be_done D_check_deed
  obtain ⟨fd_Board___init__, D_Board___init__⟩ := hf _ (List.mem_of_getElem? (i := 12) rfl)
  have F_Board___init__ := ok_Board___init__ (P := P) (w := w) C F_check_net F_check_marks D_Board___init__
  obtain ⟨fd_Board_bag, D_Board_bag⟩ := hf _ (List.mem_of_getElem? (i := 13) rfl)
  have F_Board_bag := ok_Board_bag (P := P) (w := w) C D_Board_bag
  obtain ⟨fd_Board_row, D_Board_row⟩ := hf _ (List.mem_of_getElem? (i := 14) rfl)
  have F_Board_row := ok_Board_row (P := P) (w := w) C D_Board_row
  obtain ⟨fd_Board___len__, D_Board___len__⟩ := hf _ (List.mem_of_getElem? (i := 15) rfl)
  have F_Board___len__ := ok_Board___len__ (P := P) (w := w) C D_Board___len__
  obtain ⟨fd_Board_can, D_Board_can⟩ := hf _ (List.mem_of_getElem? (i := 16) rfl)
  have F_Board_can := ok_Board_can (P := P) (w := w) C F_can_be_done D_Board_can
  obtain ⟨fd_Board_do, D_Board_do⟩ := hf _ (List.mem_of_getElem? (i := 17) rfl)
  have F_Board_do := ok_Board_do (P := P) (w := w) C F_check_deed F_bag_after D_Board_do
  obtain ⟨fd_Board_undo, D_Board_undo⟩ := hf _ (List.mem_of_getElem? (i := 18) rfl)
  have F_Board_undo := ok_Board_undo (P := P) (w := w) C D_Board_undo
  obtain ⟨fd_Board_twin, D_Board_twin⟩ := hf _ (List.mem_of_getElem? (i := 19) rfl)
  have F_Board_twin := ok_Board_twin (P := P) (w := w) C F_Board_do F_Board___init__ D_Board_twin
  obtain ⟨fd__law_well, D__law_well⟩ := hf _ (List.mem_of_getElem? (i := 20) rfl)
  have F__law_well := ok__law_well (P := P) (w := w) C D__law_well
  obtain ⟨fd__law_draw, D__law_draw⟩ := hf _ (List.mem_of_getElem? (i := 21) rfl)
  have F__law_draw := ok__law_draw (P := P) (w := w) C D__law_draw
  obtain ⟨fd__law_like, D__law_like⟩ := hf _ (List.mem_of_getElem? (i := 22) rfl)
  have F__law_like := ok__law_like (P := P) (w := w) C D__law_like 3
  obtain ⟨fd__law_sum, D__law_sum⟩ := hf _ (List.mem_of_getElem? (i := 23) rfl)
  have F__law_sum := ok__law_sum (P := P) (w := w) C D__law_sum
  obtain ⟨fd__law_unit, D__law_unit⟩ := hf _ (List.mem_of_getElem? (i := 24) rfl)
  have F__law_unit := ok__law_unit (P := P) (w := w) C D__law_unit
  obtain ⟨fd__law_tally, D__law_tally⟩ := hf _ (List.mem_of_getElem? (i := 25) rfl)
  have F__law_tally := ok__law_tally (P := P) (w := w) C F__law_draw D__law_tally
  obtain ⟨fd__law_net, D__law_net⟩ := hf _ (List.mem_of_getElem? (i := 26) rfl)
  have F__law_net := ok__law_net (P := P) (w := w) C F__law_tally F__law_draw D__law_net
  obtain ⟨fd__law_behind, D__law_behind⟩ := hf _ (List.mem_of_getElem? (i := 27) rfl)
  have F__law_behind := ok__law_behind (P := P) (w := w) C F__law_sum F__law_unit D__law_behind
  obtain ⟨fd__law_begun, D__law_begun⟩ := hf _ (List.mem_of_getElem? (i := 28) rfl)
  have F__law_begun := ok__law_begun (P := P) (w := w) C F_Board___init__ D__law_begun
  obtain ⟨fd__law_shows, D__law_shows⟩ := hf _ (List.mem_of_getElem? (i := 29) rfl)
  have F__law_shows := ok__law_shows (P := P) (w := w) C F__law_like F_Board_can F_Board___len__ F_Board_row F_Board_bag D__law_shows
  obtain ⟨fd__law_turned, D__law_turned⟩ := hf _ (List.mem_of_getElem? (i := 30) rfl)
  have F_Board_do_deed : GFnK P w K mg base (cfg K) (He.ma K (He.ga K "Board") "do") 4 2 S_Board_do 1 ["deed"] @g_Board_do_deed := ⟨fd_Board_do, _, rfl, def_ok D_Board_do rfl sc_Board_do rfl (w_Board_do C F_check_deed F_bag_after) p_Board_do, kp_do D_Board_do⟩
  have F__law_turned := ok__law_turned (P := P) (w := w) C F__law_draw F_Board_do F__law_behind F_Board_undo F_Board_twin F_Board_do_deed D__law_turned
  have F_Board___init___bag_net : GFnK P w K mg base (cfg K) (He.ma K (He.ga K "Board") "__init__") 9 3 S_Board___init__ 1 ["bag", "net"] @g_Board___init___bag_net := ⟨fd_Board___init__, _, rfl, def_ok D_Board___init__ rfl sc_Board___init__ rfl (w_Board___init__ C F_check_net F_check_marks) p_Board___init__, kp_init D_Board___init__⟩
  exact w_law C F__law_shows F_Board_undo F_Board_twin F__law_draw F_Board_do F__law_behind F__law_begun F__law_turned F__law_net F__law_well F_Board___init___bag_net A outer s H E μ W tk hgd hr
end
end K57

namespace K57
open PySem PySem.Spec
open PyProof.Rows L2
open DL
abbrev RW : PySem.W.OpenLaw := PySem.Challenge.rw_wholecounts_k57_whole_boards_in_historie
abbrev R : PySem.W.OpenRow := PySem.W.OpenLaw.row RW
abbrev hk : PySem.W.Hook := hookL 6 facts defs props tabs
def ob (s : PySem.W.SharedT) : AlL := obsL 6 facts defs props tabs (HandSHeadRun.getT s)
theorem ob_eq (s : PySem.W.SharedT) : ob s = hk.obs s.abs := obsL_eq (HandSHeadRun.getT_eq s)
def others : List Str := ["_wall", "CountError", "InvalidBag", "InvalidNet", "InvalidDeed", "NothingToUndo", "is_integer", "is_between", "are_integers", "are_naturals", "is_ascending", "is_deed", "is_net", "check_net", "check_marks", "can_be_done", "bag_after", "check_deed", "Board", "_law_well", "_law_draw", "_law_like", "_law_sum", "_law_unit", "_law_tally", "_law_net", "_law_behind", "_law_begun", "_law_shows", "_law_turned", "__name__"]
theorem run (w : World) : HandSHeadRun.RunEq R (PySem.W.view R.prog [35]) hk ob 4000 others w := by
  intro os
  kernel_rfl
end K57

namespace K57
open PySem PySem.Spec
open PyProof.Rows L2
open DL
/-- the law, called by its caller -/
theorem law_at {w : World} {K : PySem.W.Frag} {mg mb : Str → Option Value} {a : Addr} {s1 : Shared} {vs : List Value} {ns : List Int} (KX : K.In s1.heap) (c : SaysL facts defs props tabs s1.heap K)
    (gN : s1.heap.Ns mainGlobals mg) (bN : s1.heap.Ns builtinsNs mb) (bb : ∀ x : Str, x ≠ "__name__" → mb x = bootBuiltins x) (nl : s1.heap.NoLimit) (gens0 : s1.gens = #[])
    (bm : ∃ (c : Addr) (ob : Obj), mg "__builtins__" = some (.ref c) ∧ c ≠ builtinsNs ∧ s1.heap.get? c = some ob ∧ ob.cls = .type "module" ∧ ob.dict = some builtinsNs ∧ ob.data = .plain)
    (lA : s1.heap.get? a = some { cls := .type "list", data := .seq vs.toArray }) (hI : IntsAre vs ns) (len : ns.length ≤ 63) :
    codeAny (model RW.prog w) callerA (.call (.ref (He.ga K "law")) ⟨[.ref a], []⟩) (fun r s' => r = .ok (.ret (.bool true)) ∧ OldK s1.heap s'.heap ∧ s'.os = s1.os ∧ AllBare s'.gens) s1 := by
  have tE : ∀ p ∈ tabs.map (cTA K), s1.heap.get? p.2 = some { cls := .none, data := .fields #[] } := fun p hp => by
    obtain ⟨q, hq, rfl⟩ := List.mem_map.mp hp
    exact c.empty q hq
  have tN : ∀ p ∈ tabs.map (cTA K), K.lookup p.2 = none := fun p hp => by
    obtain ⟨q, hq, rfl⟩ := List.mem_map.mp hp
    exact c.out q hq
  have cH : ∀ p ∈ tabs.map (cTA K), PySem.W.CodeHd s1.heap p.1 p.2 := fun p hp => by
    obtain ⟨q, hq, rfl⟩ := List.mem_map.mp hp
    exact PySem.W.codeHd_of_K KX (c.hd q hq)
  have L := law_entry (P := RW.prog) (w := w) KX gN bN bb nl gens0 tE tN cH bm lA hI (Nat.le_trans len (by decide))
  generalize hH : lawH K (tabs.map (cTA K)) a { cls := .type "list", data := .seq vs.toArray } ns = H at L
  generalize hidT s1.heap H = base at L
  have cf := c.fa_
  have C : KCtx K mg base := ⟨L.kin, L.glob, fun f hf => by
    obtain ⟨i, hi, e⟩ := List.mem_iff_getElem.mp hf
    exact He5.SaysA.fact cf i (f := f) (by rw [List.getElem?_eq_getElem hi, e]), c.pr_, fun p hp => by
    have t := L.tb _ (List.mem_map.mpr ⟨p, hp, rfl⟩)
    exact ⟨t.code, t.bm, t.gP⟩⟩
  have hf : ∀ d ∈ defs, ∃ fd, FunD K d.name d.qual d.params d.body d.scope (d.dvs K) (d.kws K) (d.at_ K) fd := fun d hd => by
    obtain ⟨i, hi, e⟩ := List.mem_iff_getElem.mp hd
    exact He5.SaysA.def_ cf i (d := d) (by rw [List.getElem?_eq_getElem hi, e])
  obtain ⟨fdL, FL⟩ := hf _ (List.mem_of_getElem? (i := 31) rfl)
  have rh : RHp RW.prog w (cfg K) (fun _ => none) H (fun _ => none) := ⟨fun i o h => (by cases h), fun i j a h => (by cases h), fun p a h => (by cases h), ⟨0, fun _ _ => rfl⟩, fun p hp => ⟨#[], L.tab p hp, trivial⟩, fun i a h => (by cases h)⟩
  have rd : RDs (cfg K) (fun _ => none) H [.rol (ns.map D.int)] [.ref a] := .cons (.rol L.script (RDs.ints ns)) .nil
  refine codeAny_mono (def_at (G := cfg K) FL rfl sc_law (vs := [.ref a]) (us := [.ref a]) (Q := fun v _ => v = .bl true) (E := fun _ _ _ => False) (k := 12) ⟨rfl, by decide, by decide⟩ L.e0 (FunD.bindsA (ps := ["script"]) FL (fun _ _ _ _ _ _ us hl => match us, hl with | [_], _ => rfl) s1 [.ref a] rfl) (.cons rfl .nil) rfl fun hr => ?_) fun r s' hs => law_back hH.symm L tE cH hs
  have tk := takes_def (P := RW.prog) (w := w) (G := cfg K) (W := noW) (μ := fun _ => none) (H := H) (takes_of (X := dcx RW.prog w K mg base N_law "law" (defScope s_law) (He.ga K "law") (.ref (codeA K (He.ga K "law"))) callerA [] s1 H fun _ _ _ => False) rfl rfl rfl rfl) fun _ _ _ _ _ _ _ z => z.elim
  refine ⟨_, (law_walk C hf rfl noW (fun _ _ _ => False) (fun _ => none) tk hr).pss, body_start (Qd := QL) (Q := fun v _ => v = V.bl true) rh rd (law_ok noW ns len) fun d Hd' v H' μ' q _ _ r => ?_⟩
  have q : d = .bl true := q
  subst q
  cases r
  rfl
end K57
open PySem PySem.W
open PySem.Calls PyProof.Rows
theorem PySem.Challenge.cw_wholecounts_k57_whole_boards_in_historie_holds : PySem.Challenge.rw_wholecounts_k57_whole_boards_in_historie.Holds := by
  w_on; o_law
  refine HandSHeadRun.head_any (r := OpenLaw.row K57.RW) (q := view (OpenLaw.row K57.RW).prog [35]) (H := K57.hk) (ob := K57.ob) (M := 4000) (loose := K57.others) (d := HandSHeadRun.topDef (OpenLaw.row K57.RW).prog 35) (kwd := []) K57.ob_eq
    (by kernel_rfl) (fun s => by kernel_rfl) K57.run (by kernel_rfl) (by kernel_rfl) (by kernel_rfl) (by rfl) (by first | assumption | decide +kernel) (by decide +kernel) ⟨rfl, rfl, rfl, rfl, rfl, by decide +kernel⟩ ?hw ?hc
  case hw => w_witness2
  case hc =>
    refine Att.attach_callB (l := K57.RW) (n := 63) rfl (by kernel_rfl) ?_
    intro w s₀ s₁ mg mb fa o pm cd doc a vs ns G Y ho hd hcd hmg0 hobj hints hlen hbits hg
    obtain ⟨K, KX, c⟩ := Y
    have hmg : mg ("law" : PySem.Str) = some (.ref fa) := by
      have e : (HandSHeadRun.topDef (OpenLaw.row K57.RW).prog 35).name = ("law" : PySem.Str) := by kernel_rfl
      rw [← e]
      exact hmg0
    have hga := He.glo_ok KX G.T.g (He5.SaysA.fact c.fa_ (K57.facts.length - 1) (f := .glo "law") rfl)
    have e := hmg.symm.trans hga
    cases e
    exact K57.law_at KX c G.T.g G.T.b G.T.builtins G.T.nolimit hg G.T.bmain hobj hints hlen

