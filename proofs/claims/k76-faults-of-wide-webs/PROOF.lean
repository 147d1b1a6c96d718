import PyProof.Rows.All
import Wide.All
import OpenK.AllK
import Wide.FinOn
import HandS.ForMost
import HandS.ForExc
import HandS.Zip
import HandS.Lambda
import HandS.IsInst
import HandS.Flow
import HandS.TupAny
import HandS.Deep
import HandS.CallLocal
import HandS.Walk
import HandS.More
import HandS.Defaults
import HandS.Style
import HandS.HeadHook2
import KE.KExcSuper
import HandS.TryMany
import HandS.ExcInit
import KE.GoesZip
import KE.GoesEnum
import HandS.TupLe
import HandS.TupSets
import KE.KRevSl
import KE.SortData
import PySem.Challenge.RW_mostwebs_k76_faults_of_wide_webs
import KE.KStateDown
import HandS.Head0
import HandS.Head1
import HandS.Head2
import HandS.HeadEnd
import HandS.HeadHook1
import HandS.HeadHook3
import HandS.HeadHook4
import HandS.HeadWalk
set_option Elab.async false
set_option linter.all false
set_option maxRecDepth 100000
set_option maxHeartbeats 2000000
/-! A layer of data over HandS: what an expression gives is told by plain data (PyData), the heap is hidden. -/
set_option autoImplicit false
namespace Dl
open PySem PySem.Spec PyProof.Rows L2

/-! ### data in the heap; M: the lists that may be changed, none of the data leans on their content -/
mutual
inductive Dv (K : PySem.W.Frag) (M : List Addr) (H : Hp) : V → PyData → Prop
  | non : Dv K M H .non .none
  | bl (b : Bool) : Dv K M H (.bl b) (.bool b)
  | int (i : Int) : Dv K M H (.int i) (.int i)
  | str (x : Str) : Dv K M H (.str x) (.str x)
  | lst {a : Addr} {xs : List V} {ds : List PyData} : a ∉ M → H a = some (.lst xs) → DvAll K M H xs ds → Dv K M H (.ref a) (.list ds)
  | tup {a : Addr} {xs : List V} {ds : List PyData} : SqT K H a xs → DvAll K M H xs ds → Dv K M H (.ref a) (.tuple ds)
inductive DvAll (K : PySem.W.Frag) (M : List Addr) (H : Hp) : List V → List PyData → Prop
  | nil : DvAll K M H [] []
  | cons {v : V} {vs : List V} {d : PyData} {ds : List PyData} : Dv K M H v d → DvAll K M H vs ds → DvAll K M H (v :: vs) (d :: ds)
end
/-- all but the lists in M and the tables stays -/
def Stay (M : List Addr) (H H' : Hp) : Prop := ∀ a o, H a = some o → (a ∈ M → ∀ xs, o ≠ .lst xs) → (∀ ps, o ≠ .tbl ps) → H' a = some o
theorem Stay.refl {M : List Addr} (H : Hp) : Stay M H H := fun _ _ h _ _ => h
theorem Stay.trans {M : List Addr} {H H1 H2 : Hp} (a : Stay M H H1) (b : Stay M H1 H2) : Stay M H H2 := fun x o h n t => b x o (a x o h n t) n t
theorem Stay.more {M M' : List Addr} {H H' : Hp} (h : ∀ a ∈ M, a ∈ M') (s : Stay M H H') : Stay M' H H' := fun a o e n t => s a o e (fun q => n (h a q)) t
theorem Stay.rdT {M : List Addr} {H H' : Hp} (s : Stay M H H') {a : Addr} {xs : List V} (h : Rd H a (.tup xs)) : Rd H' a (.tup xs) := by
  rcases h with h | ⟨o, h⟩
  · exact .inl (s a _ h (fun _ _ z => by cases z) (fun _ z => by cases z))
  · exact .inr ⟨o, s a _ h (fun _ _ z => by cases z) (fun _ z => by cases z)⟩
theorem Stay.sqT {M : List Addr} {K : PySem.W.Frag} {H H' : Hp} (s : Stay M H H') {a : Addr} {xs : List V} (h : SqT K H a xs) : SqT K H' a xs := by
  rcases h with h | h
  · exact .inl (s.rdT h)
  · exact .inr h
theorem Stay.lst {M : List Addr} {H H' : Hp} (s : Stay M H H') {a : Addr} {xs : List V} (hn : a ∉ M) (h : H a = some (.lst xs)) : H' a = some (.lst xs) :=
  s a _ h (fun q => absurd q hn) (fun _ z => by cases z)
section
variable {K : PySem.W.Frag} {M M' : List Addr} {H H' : Hp}
mutual
theorem Dv.stay (s : Stay M H H') : ∀ (d : PyData) (v : V), Dv K M H v d → Dv K M H' v d
  | .none, _, h => by cases h; exact .non
  | .bool b, _, h => by cases h; exact .bl b
  | .int i, _, h => by cases h; exact .int i
  | .str x, _, h => by cases h; exact .str x
  | .list ds, _, h => by
    cases h with
    | lst h1 h2 h3 => exact .lst h1 (s.lst h1 h2) (DvAll.stay s ds _ h3)
  | .tuple ds, _, h => by
    cases h with
    | tup h1 h2 => exact .tup (s.sqT h1) (DvAll.stay s ds _ h2)
  | .dict _, _, h => by cases h
theorem DvAll.stay (s : Stay M H H') : ∀ (ds : List PyData) (vs : List V), DvAll K M H vs ds → DvAll K M H' vs ds
  | [], _, h => by cases h; exact .nil
  | d :: ds, _, h => by
    cases h with
    | cons h1 h2 => exact .cons (Dv.stay s d _ h1) (DvAll.stay s ds _ h2)
end
mutual
theorem Dv.less (s : ∀ a ∈ M', a ∈ M) : ∀ (d : PyData) (v : V), Dv K M H v d → Dv K M' H v d
  | .none, _, h => by cases h; exact .non
  | .bool b, _, h => by cases h; exact .bl b
  | .int i, _, h => by cases h; exact .int i
  | .str x, _, h => by cases h; exact .str x
  | .list ds, _, h => by
    cases h with
    | lst h1 h2 h3 => exact .lst (fun q => h1 (s _ q)) h2 (DvAll.less s ds _ h3)
  | .tuple ds, _, h => by
    cases h with
    | tup h1 h2 => exact .tup h1 (DvAll.less s ds _ h2)
  | .dict _, _, h => by cases h
theorem DvAll.less (s : ∀ a ∈ M', a ∈ M) : ∀ (ds : List PyData) (vs : List V), DvAll K M H vs ds → DvAll K M' H vs ds
  | [], _, h => by cases h; exact .nil
  | d :: ds, _, h => by
    cases h with
    | cons h1 h2 => exact .cons (Dv.less s d _ h1) (DvAll.less s ds _ h2)
end
mutual
/-- an address that H does not know may be added to M -/
theorem Dv.fresh {p : Addr} (hp : H p = none) : ∀ (d : PyData) (v : V), Dv K M H v d → Dv K (p :: M) H v d
  | .none, _, h => by cases h; exact .non
  | .bool b, _, h => by cases h; exact .bl b
  | .int i, _, h => by cases h; exact .int i
  | .str x, _, h => by cases h; exact .str x
  | .list ds, _, h => by
    cases h with
    | lst h1 h2 h3 => exact .lst (fun q => (List.mem_cons.mp q).elim (fun z => by rw [z, hp] at h2; cases h2) h1) h2 (DvAll.fresh hp ds _ h3)
  | .tuple ds, _, h => by
    cases h with
    | tup h1 h2 => exact .tup h1 (DvAll.fresh hp ds _ h2)
  | .dict _, _, h => by cases h
theorem DvAll.fresh {p : Addr} (hp : H p = none) : ∀ (ds : List PyData) (vs : List V), DvAll K M H vs ds → DvAll K (p :: M) H vs ds
  | [], _, h => by cases h; exact .nil
  | d :: ds, _, h => by
    cases h with
    | cons h1 h2 => exact .cons (Dv.fresh hp d _ h1) (DvAll.fresh hp ds _ h2)
end
mutual
theorem Dv.dp : ∀ (d : PyData) (v : V), Dv K M H v d → Dp K H v d
  | .none, _, h => by cases h; exact .non
  | .bool b, _, h => by cases h; exact .bl b
  | .int i, _, h => by cases h; exact .int i
  | .str x, _, h => by cases h; exact .str x
  | .list ds, _, h => by
    cases h with
    | lst h1 h2 h3 => exact .lst (.of h2) (DvAll.dp ds _ h3)
  | .tuple ds, _, h => by
    cases h with
    | tup h1 h2 => exact .tup h1 (DvAll.dp ds _ h2)
  | .dict _, _, h => by cases h
theorem DvAll.dp : ∀ (ds : List PyData) (vs : List V), DvAll K M H vs ds → DpAll K H vs ds
  | [], _, h => by cases h; exact .nil
  | d :: ds, _, h => by
    cases h with
    | cons h1 h2 => exact .cons (Dv.dp d _ h1) (DvAll.dp ds _ h2)
end
theorem DvAll.length : ∀ {ds : List PyData} {vs : List V}, DvAll K M H vs ds → vs.length = ds.length
  | [], _, h => by cases h; rfl
  | d :: ds, _, h => by
    cases h with
    | cons h1 h2 => rw [List.length_cons, List.length_cons, DvAll.length h2]
theorem DvAll.get : ∀ {ds : List PyData} {vs : List V} {i : Nat} {d : PyData}, DvAll K M H vs ds → ds[i]? = some d → ∃ v, vs[i]? = some v ∧ Dv K M H v d
  | [], _, _, _, _, e => by simp at e
  | d :: ds, _, 0, _, h, e => by
    cases h with
    | cons h1 h2 =>
      simp at e
      subst e
      exact ⟨_, rfl, h1⟩
  | d :: ds, _, i + 1, _, h, e => by
    cases h with
    | cons h1 h2 =>
      obtain ⟨v, q1, q2⟩ := DvAll.get h2 (by simpa using e)
      exact ⟨v, by simpa using q1, q2⟩
theorem DvAll.getV : ∀ {ds : List PyData} {vs : List V} {i : Nat} {v : V}, DvAll K M H vs ds → vs[i]? = some v → ∃ d, ds[i]? = some d ∧ Dv K M H v d
  | [], _, _, _, h, e => by cases h; simp at e
  | d :: ds, _, 0, _, h, e => by
    cases h with
    | cons h1 h2 =>
      simp at e
      subst e
      exact ⟨_, rfl, h1⟩
  | d :: ds, _, i + 1, _, h, e => by
    cases h with
    | cons h1 h2 =>
      obtain ⟨v, q1, q2⟩ := DvAll.getV h2 (by simpa using e)
      exact ⟨v, by simpa using q1, q2⟩
theorem DvAll.append : ∀ {ds es : List PyData} {vs ws : List V}, DvAll K M H vs ds → DvAll K M H ws es → DvAll K M H (vs ++ ws) (ds ++ es)
  | [], _, _, _, h, g => by cases h; exact g
  | d :: ds, _, _, _, h, g => by
    cases h with
    | cons h1 h2 => exact .cons h1 (DvAll.append h2 g)
theorem DvAll.take : ∀ (n : Nat) {ds : List PyData} {vs : List V}, DvAll K M H vs ds → DvAll K M H (vs.take n) (ds.take n)
  | 0, _, _, _ => .nil
  | _ + 1, [], _, h => by cases h; exact .nil
  | n + 1, d :: ds, _, h => by
    cases h with
    | cons h1 h2 => exact .cons h1 (DvAll.take n h2)
theorem DvAll.drop : ∀ (n : Nat) {ds : List PyData} {vs : List V}, DvAll K M H vs ds → DvAll K M H (vs.drop n) (ds.drop n)
  | 0, _, _, h => h
  | _ + 1, [], _, h => by cases h; exact .nil
  | n + 1, d :: ds, _, h => by
    cases h with
    | cons h1 h2 => exact DvAll.drop n h2
theorem DvAll.set {v : V} {d : PyData} (hv : Dv K M H v d) : ∀ (n : Nat) {ds : List PyData} {vs : List V}, DvAll K M H vs ds → DvAll K M H (vs.set n v) (ds.set n d)
  | _, [], _, h => by cases h; exact .nil
  | 0, d :: ds, _, h => by
    cases h with
    | cons h1 h2 => exact .cons hv h2
  | n + 1, d :: ds, _, h => by
    cases h with
    | cons h1 h2 => exact .cons h1 (DvAll.set hv n h2)
end

/-! ### the static context of a piece of code -/
structure Wd where
  K : PySem.W.Frag
  b : Addr
  q : Addr
  cs : List Int
  T : List (Addr × Str)
structure Gd where
  P : Program
  w : World
  W : Wd
  mg : Str → Option Value
  base : Heap
structure Th where
  g : Gd
  N : List Str
  sc : Scope
  k : Nat
  own : Option (Str × Value) := none
  full : Bool := true
  cl : Str → Bool := fun _ => false
abbrev Th.P (Θ : Th) : Program := Θ.g.P
abbrev Th.w (Θ : Th) : World := Θ.g.w
abbrev Th.W (Θ : Th) : Wd := Θ.g.W
abbrev Th.mg (Θ : Th) : Str → Option Value := Θ.g.mg
abbrev Th.base (Θ : Th) : Heap := Θ.g.base
structure Cpt (Θ : Th) (X : Cx) : Prop where
  prog : X.prog = Θ.P
  w : X.w = Θ.w
  K : X.K = Θ.W.K
  mg : X.mg = Θ.mg
  base : X.base = Θ.base
  N : X.N = Θ.N
  sc : X.env.scope = Θ.sc
  room : Room Θ.k X.A
  calm : X.calm = true
  nd : X.N.Nodup
  cel : Θ.full = true → ∀ x, X.fn x = true
  pas : PassesOwn (model X.prog X.w) X.A X.env X.xe
  own : ∀ q, Θ.own = some q → X.env.qual = q.1 ∧ X.env.code = q.2
  stk : Θ.full = true → X.stack = X.env :: X.outer ∧ X.env.frame = some X.env.locals
  clo : ∀ x, Θ.cl x = true → X.fn x = true

/-- the bag of drawn numbers; its cells stay -/
structure BagOk (Θ : Wd) (H : Hp) : Prop where
  at_ : ∃ x y z : Int, H Θ.b = some (.lst [.int x, .int y, .int z, .ref Θ.q]) ∧ 0 ≤ x ∧ 0 ≤ y ∧ 0 ≤ z
  cells : H Θ.q = some (.lst (Θ.cs.map V.int))
  ne : Θ.q ≠ Θ.b
  pos : ∀ c ∈ Θ.cs, 0 ≤ c
  few : Θ.cs.length ≤ 63
structure Good (Θ : Wd) (H : Hp) : Prop where
  bag : BagOk Θ H
  tabs : LamX.Tabs Θ.T H
/-- what a call may change: the bag, the tables -/
structure Evo (Θ : Wd) (H H' : Hp) : Prop where
  keep : ∀ a o, H a = some o → a ≠ Θ.b → (∀ ps, o ≠ .tbl ps) → H' a = some o
  good : Good Θ H → Good Θ H'
  has : ∀ a, H' a = none → H a = none
theorem Evo.refl {Θ : Wd} (H : Hp) : Evo Θ H H := ⟨fun _ _ h _ _ => h, fun g => g, fun _ h => h⟩
theorem Evo.trans {Θ : Wd} {H H1 H2 : Hp} (a : Evo Θ H H1) (b : Evo Θ H1 H2) : Evo Θ H H2 :=
  ⟨fun x o h n t => b.keep x o (a.keep x o h n t) n t, fun g => b.good (a.good g), fun x h => a.has x (b.has x h)⟩
theorem BagOk.lst {Θ : Wd} {H : Hp} (h : BagOk Θ H) : ∃ xs, H Θ.b = some (.lst xs) := by
  obtain ⟨x, y, z, h, _⟩ := h.at_
  exact ⟨_, h⟩
theorem Evo.stay {Θ : Wd} {H H' : Hp} {M : List Addr} (e : Evo Θ H H') (g : Good Θ H) (hb : Θ.b ∈ M) : Stay M H H' := fun a o h n t => by
  by_cases hab : a = Θ.b
  · subst hab
    obtain ⟨xs, hx⟩ := g.bag.lst
    rw [hx] at h
    cases h
    exact absurd rfl (n hb xs)
  · exact e.keep a o h hab t
theorem Stay.tabs {Θ : Wd} {H H' : Hp} (g : LamX.Tabs Θ.T H) (h : ∀ a o, H a = some o → (∀ xs, o ≠ .lst xs) → H' a = some o) : LamX.Tabs Θ.T H' := fun p hp => by
  obtain ⟨ps, h1, h2, h3⟩ := g p hp
  refine ⟨ps, h _ _ h1 (fun _ z => by cases z), h2, fun pos cv hc => ?_⟩
  obtain ⟨c, e1, e2⟩ := h3 pos cv hc
  exact ⟨c, e1, h _ _ e2 (fun _ z => by unfold LamX.CodeO at z; cases z)⟩
/-- a new object -/
theorem Evo.new {Θ : Wd} {H : Hp} {p : Addr} {o : HO} (hp : H p = none) : Evo Θ H (upd H p o) := by
  have k : ∀ a u, H a = some u → upd H p o a = some u := fun a u h => by rw [upd_ne (ne_of_none h hp)]; exact h
  refine ⟨fun a u h _ _ => k a u h, fun g => ⟨?_, fun q hq => (g.tabs q hq).ext k⟩, fun a h => ?_⟩
  case refine_2 =>
    cases q : H a with
    | none => rfl
    | some u => rw [k a u q] at h; cases h
  obtain ⟨x, y, z, h1, hx⟩ := g.bag.at_
  exact ⟨⟨x, y, z, k _ _ h1, hx⟩, k _ _ g.bag.cells, g.bag.ne, g.bag.pos, g.bag.few⟩
/-- a list that H0 does not know is written -/
theorem Evo.write {Θ : Wd} {H0 H : Hp} {m : Addr} {xs ys : List V} (e : Evo Θ H0 H) (h0 : H0 m = none) (hm : H m = some (.lst ys)) (hg : Good Θ H0) : Evo Θ H0 (upd H m (.lst xs)) := by
  refine ⟨fun a u h n t => by rw [upd_ne (ne_of_none h h0)]; exact e.keep a u h n t, fun _ => ?_, fun a h => ?_⟩
  case refine_2 =>
    by_cases q : a = m
    · rw [q]; exact h0
    · rw [upd_ne q] at h; exact e.has a h
  have g := e.good hg
  obtain ⟨xs0, hb0⟩ := hg.bag.lst
  obtain ⟨x, y, z, h1, hx⟩ := g.bag.at_
  refine ⟨⟨⟨x, y, z, by rw [upd_ne (ne_of_none hb0 h0)]; exact h1, hx⟩, by rw [upd_ne (ne_of_none hg.bag.cells h0)]; exact g.bag.cells, g.bag.ne, g.bag.pos, g.bag.few⟩, ?_⟩
  exact Stay.tabs g.tabs fun a o h n => by rw [upd_ne (fun z => by rw [z, hm] at h; exact n ys (Option.some.inj h).symm)]; exact h

/-! ### what stands in a slot, what an expression gives -/
inductive Sl where
  /-- plain data -/
  | dat (d : PyData)
  /-- a list of the frame's own that may be changed -/
  | own (a : Addr) (ds : List PyData)
  | bag
  /-- a def, a lambda, by its address -/
  | fn (f : Addr)
  /-- a built-in class -/
  | ty (n : String)
  /-- a known thing: what the heap says of it -/
  | kn (v : V) (φ : Hp → Prop)
/-- φ is kept where all but lists and tables is kept -/
def Kno (φ : Hp → Prop) : Prop := ∀ H H' : Hp, (∀ a o, H a = some o → (∀ xs, o ≠ .lst xs) → (∀ ps, o ≠ .tbl ps) → H' a = some o) → φ H → φ H'
inductive SlOk (Θ : Wd) (M : List Addr) (H : Hp) : V → Sl → Prop
  | dat {v : V} {d : PyData} : Dv Θ.K M H v d → SlOk Θ M H v (.dat d)
  | own {a : Addr} {xs : List V} {ds : List PyData} : a ∈ M → a ≠ Θ.b → H a = some (.lst xs) → DvAll Θ.K M H xs ds → SlOk Θ M H (.ref a) (.own a ds)
  | bag : SlOk Θ M H (.ref Θ.b) .bag
  | fn (f : Addr) : SlOk Θ M H (.ref f) (.fn f)
  | ty (n : String) : SlOk Θ M H (.ty n) (.ty n)
  | kn {v : V} {φ : Hp → Prop} : Kno φ → φ H → SlOk Θ M H v (.kn v φ)
abbrev Gm : Type := List (Option Sl)
theorem SlOk.evo {Θ : Wd} {M : List Addr} {H H' : Hp} (e : Evo Θ H H') (g : Good Θ H) (hb : Θ.b ∈ M) {v : V} {s : Sl} (h : SlOk Θ M H v s) : SlOk Θ M H' v s := by
  cases h with
  | dat h => exact .dat (Dv.stay (e.stay g hb) _ _ h)
  | own h1 h2 h3 h4 => exact .own h1 h2 (e.keep _ _ h3 h2 (fun _ z => by cases z)) (DvAll.stay (e.stay g hb) _ _ h4)
  | bag => exact .bag
  | fn f => exact .fn f
  | ty n => exact .ty n
  | kn h1 h2 => exact .kn h1 (h1 _ _ (fun a o h n t => e.stay g hb a o h (fun _ => n) t) h2)
structure EnvOk (Θ : Wd) (M : List Addr) (Γ : Gm) (σ : L2.St) (H : Hp) : Prop where
  good : Good Θ H
  len : σ.length = Γ.length
  bM : Θ.b ∈ M
  trk : ∀ m ∈ M, ∃ xs, H m = some (.lst xs)
  at_ : ∀ (i : Nat) (s : Sl), Γ[i]? = some (some s) → ∃ v, σ[i]? = some (some v) ∧ SlOk Θ M H v s
theorem EnvOk.evo {Θ : Wd} {M : List Addr} {Γ : Gm} {σ : L2.St} {H H' : Hp} (E : EnvOk Θ M Γ σ H) (e : Evo Θ H H') : EnvOk Θ M Γ σ H' where
  good := e.good E.good
  len := E.len
  bM := E.bM
  trk := fun m hm => by
    by_cases h : m = Θ.b
    · subst h
      exact (e.good E.good).bag.lst
    · obtain ⟨xs, hx⟩ := E.trk m hm
      exact ⟨xs, e.keep _ _ hx h (fun _ z => by cases z)⟩
  at_ := fun i s h => by
    obtain ⟨v, h1, h2⟩ := E.at_ i s h
    exact ⟨v, h1, h2.evo e E.good E.bM⟩

/-! ### exceptions as data -/
structure Xn where
  cls : Str
  args : List (Str × PyData) := []
def XnOk (Θ : Gd) (M : List Addr) (H : Hp) (x : Xn) (cls : Value) (d : Option Addr) : Prop :=
  ∃ C, Θ.mg x.cls = some (.ref C) ∧ cls = .ref C ∧ (x.args = [] ∨ ∃ dd fs, d = some dd ∧ H dd = some (.xd fs) ∧ ∀ f e, x.args.lookup f = some e → ∃ v, fs.lookup f = some v ∧ Dv Θ.W.K M H v e)
/-- what is wanted of an exception -/
def XR (Θ : Th) (X : Cx) (M : List Addr) (H : Hp) (Ex : Xn → Prop) (σ : L2.St) : Prop := ∃ W : WX, Takes X W ∧ ∀ x cls d H', Evo Θ.W H H' → XnOk Θ.g M H' x cls d → Ex x → W cls d σ H'
theorem XR.evo {Θ : Th} {X : Cx} {M : List Addr} {H H1 : Hp} {Ex : Xn → Prop} {σ : L2.St} (r : XR Θ X M H Ex σ) (e : Evo Θ.W H H1) : XR Θ X M H1 Ex σ := by
  obtain ⟨W, t, h⟩ := r
  exact ⟨W, t, fun x cls d H' e' ok hx => h x cls d H' (e.trans e') ok hx⟩
theorem XR.none {Θ : Th} {X : Cx} {M : List Addr} {H : Hp} {σ : L2.St} : XR Θ X M H (fun _ => False) σ := ⟨fun _ _ _ _ => False, takes0, fun _ _ _ _ _ _ h => h⟩

/-! ### weakest preconditions of pieces of syntax -/
@[irreducible] def wE (X : Cx) (e : Expr) : TE := fun σ H Q => ∀ pins s, Inv X pins σ H s → wpAny (model X.prog X.w) X.A (eval e X.env) (EP X pins σ Q) X.xe s
@[irreducible] def wT (X : Cx) (e : Expr) : TT := fun σ H Q => ∀ pins s, Inv X pins σ H s → wpAny (model X.prog X.w) X.A (isTrue e X.env (eval e X.env)) (TP X pins σ Q) X.xe s
@[irreducible] def wW (X : Cx) (e : Expr) : TT := fun σ H Q => ∀ whole pins s, Inv X pins σ H s → wpAny (model X.prog X.w) X.A (isTrue e X.env whole) (TP X pins σ Q) X.xe s
@[irreducible] def wA (X : Cx) (es : List Expr) : TA := fun σ H Q => ∀ pos pins s, Inv X pins σ H s → wpAny (model X.prog X.w) X.A (spliced (backTo pos (starEach es X.env))) (AP X pins σ Q) X.xe s
@[irreducible] def wS (X : Cx) (st : Stmt) : TS := fun D σ H => ∀ pins s, Inv X pins σ H s → wpAny (model X.prog X.w) X.A (exec st X.env) (SP X pins D) X.xe s
@[irreducible] def wSs (X : Cx) (st : List Stmt) : TS := fun D σ H => ∀ pins s, Inv X pins σ H s → wpAny (model X.prog X.w) X.A (execs st X.env) (SP X pins D) X.xe s
theorem pe (X : Cx) (e : Expr) : PE X e (wE X e) := ⟨fun pins s _ _ _ I h => by unfold wE at h; exact h pins s I⟩
theorem pt (X : Cx) (e : Expr) : PT X e (wT X e) := ⟨fun pins s _ _ _ I h => by unfold wT at h; exact h pins s I⟩
theorem pw (X : Cx) (e : Expr) : PW X e (wW X e) := ⟨fun whole pins s _ _ _ I h => by unfold wW at h; exact h whole pins s I⟩
theorem pa (X : Cx) (es : List Expr) : PA X es (wA X es) := ⟨fun pos pins s _ _ _ I h => by unfold wA at h; exact h pos pins s I⟩
theorem ps (X : Cx) (st : Stmt) : PS X st (wS X st) := ⟨fun pins s _ _ _ I h => by unfold wS at h; exact h pins s I⟩
theorem pss (X : Cx) (st : List Stmt) : PSs X st (wSs X st) := ⟨fun pins s _ _ _ I h => by unfold wSs at h; exact h pins s I⟩
theorem wE_of {X : Cx} {e : Expr} {t : TE} {σ : L2.St} {H : Hp} {Q : VK} (h : PE X e t) (q : t σ H Q) : wE X e σ H Q := by unfold wE; exact fun pins s I => h.run pins s σ H Q I q
theorem wT_of {X : Cx} {e : Expr} {t : TT} {σ : L2.St} {H : Hp} {Q : Bool → Hp → Prop} (h : PT X e t) (q : t σ H Q) : wT X e σ H Q := by unfold wT; exact fun pins s I => h.run pins s σ H Q I q
theorem wW_of {X : Cx} {e : Expr} {t : TT} {σ : L2.St} {H : Hp} {Q : Bool → Hp → Prop} (h : PW X e t) (q : t σ H Q) : wW X e σ H Q := by unfold wW; exact fun whole pins s I => h.run whole pins s σ H Q I q
theorem wA_of {X : Cx} {es : List Expr} {t : TA} {σ : L2.St} {H : Hp} {Q : List V → Hp → Prop} (h : PA X es t) (q : t σ H Q) : wA X es σ H Q := by unfold wA; exact fun pos pins s I => h.run pos pins s σ H Q I q
theorem wS_of {X : Cx} {st : Stmt} {t : TS} {D : Ends} {σ : L2.St} {H : Hp} (h : PS X st t) (q : t D σ H) : wS X st D σ H := by unfold wS; exact fun pins s I => h.run pins s σ H D I q
theorem wSs_of {X : Cx} {st : List Stmt} {t : TS} {D : Ends} {σ : L2.St} {H : Hp} (h : PSs X st t) (q : t D σ H) : wSs X st D σ H := by unfold wSs; exact fun pins s I => h.run pins s σ H D I q

/-! ### the judgements -/
def dE (Θ : Th) (M : List Addr) (e : Expr) (Γ : Gm) (Ex : Xn → Prop) (Q : Sl → Prop) : Prop :=
  ∀ X, Cpt Θ X → ∀ (σ : L2.St) (H : Hp) (R : VK), EnvOk Θ.W M Γ σ H → XR Θ X M H Ex σ → (∀ v s H', Evo Θ.W H H' → SlOk Θ.W M H' v s → Q s → R v H') → wE X e σ H R
def dT (Θ : Th) (M : List Addr) (e : Expr) (Γ : Gm) (Ex : Xn → Prop) (Q : Bool → Prop) : Prop :=
  ∀ X, Cpt Θ X → ∀ (σ : L2.St) (H : Hp) (R : Bool → Hp → Prop), EnvOk Θ.W M Γ σ H → XR Θ X M H Ex σ → (∀ b H', Evo Θ.W H H' → Q b → R b H') → wT X e σ H R
def dW (Θ : Th) (M : List Addr) (e : Expr) (Γ : Gm) (Ex : Xn → Prop) (Q : Bool → Prop) : Prop :=
  ∀ X, Cpt Θ X → ∀ (σ : L2.St) (H : Hp) (R : Bool → Hp → Prop), EnvOk Θ.W M Γ σ H → XR Θ X M H Ex σ → (∀ b H', Evo Θ.W H H' → Q b → R b H') → wW X e σ H R
inductive SlsOk (Θ : Wd) (M : List Addr) (H : Hp) : List V → List Sl → Prop
  | nil : SlsOk Θ M H [] []
  | cons {v : V} {vs : List V} {s : Sl} {ss : List Sl} : SlOk Θ M H v s → SlsOk Θ M H vs ss → SlsOk Θ M H (v :: vs) (s :: ss)
theorem SlsOk.evo {Θ : Wd} {M : List Addr} {H H' : Hp} (e : Evo Θ H H') (g : Good Θ H) (hb : Θ.b ∈ M) : ∀ {vs : List V} {ss : List Sl}, SlsOk Θ M H vs ss → SlsOk Θ M H' vs ss
  | _, _, .nil => .nil
  | _, _, .cons h t => .cons (h.evo e g hb) (SlsOk.evo e g hb t)
def dA (Θ : Th) (M : List Addr) (es : List Expr) (Γ : Gm) (Ex : Xn → Prop) (Q : List Sl → Prop) : Prop :=
  ∀ X, Cpt Θ X → ∀ (σ : L2.St) (H : Hp) (R : List V → Hp → Prop), EnvOk Θ.W M Γ σ H → XR Θ X M H Ex σ → (∀ vs ss H', Evo Θ.W H H' → SlsOk Θ.W M H' vs ss → Q ss → R vs H') → wA X es σ H R
end Dl
set_option Elab.async false
set_option linter.all false
set_option maxRecDepth 100000
set_option maxHeartbeats 2000000
set_option autoImplicit false
namespace Dl
open PySem PySem.Spec PyProof.Rows L2

/-- the heap's part of an environment -/
structure Hk (Θ : Wd) (M : List Addr) (H : Hp) : Prop where
  good : Good Θ H
  bM : Θ.b ∈ M
  trk : ∀ m ∈ M, ∃ xs, H m = some (.lst xs)
theorem EnvOk.hk {Θ : Wd} {M : List Addr} {Γ : Gm} {σ : L2.St} {H : Hp} (E : EnvOk Θ M Γ σ H) : Hk Θ M H := ⟨E.good, E.bM, E.trk⟩
theorem Hk.evo {Θ : Wd} {M : List Addr} {H H' : Hp} (E : Hk Θ M H) (e : Evo Θ H H') : Hk Θ M H' where
  good := e.good E.good
  bM := E.bM
  trk := fun m hm => by
    by_cases h : m = Θ.b
    · subst h
      exact (e.good E.good).bag.lst
    · obtain ⟨xs, hx⟩ := E.trk m hm
      exact ⟨xs, e.keep _ _ hx h (fun _ z => by cases z)⟩
theorem Hk.nin {Θ : Wd} {M : List Addr} {H : Hp} (E : Hk Θ M H) {p : Addr} (hp : H p = none) : p ∉ M := fun q => by
  obtain ⟨xs, hx⟩ := E.trk p q
  rw [hp] at hx
  cases hx
theorem SlOk.ev {Θ : Wd} {M : List Addr} {H H' : Hp} (E : Hk Θ M H) (e : Evo Θ H H') {v : V} {s : Sl} (h : SlOk Θ M H v s) : SlOk Θ M H' v s := h.evo e E.good E.bM
theorem SlsOk.ev {Θ : Wd} {M : List Addr} {H H' : Hp} (E : Hk Θ M H) (e : Evo Θ H H') {v : List V} {s : List Sl} (h : SlsOk Θ M H v s) : SlsOk Θ M H' v s := h.evo e E.good E.bM
theorem Hk.stay {Θ : Wd} {M : List Addr} {H H' : Hp} (E : Hk Θ M H) (e : Evo Θ H H') : Stay M H H' := e.stay E.good E.bM
/-- a new list, a new tuple of data -/
theorem new_lst {Θ : Wd} {M : List Addr} {H : Hp} {p : Addr} {xs : List V} {ds : List PyData} (E : Hk Θ M H) (hp : H p = none) (h : DvAll Θ.K M H xs ds) : SlOk Θ M (upd H p (.lst xs)) (.ref p) (.dat (.list ds)) :=
  .dat (.lst (E.nin hp) upd_same (DvAll.stay (E.stay (Evo.new hp)) _ _ h))
theorem new_tup {Θ : Wd} {M : List Addr} {H : Hp} {p : Addr} {xs : List V} {ds : List PyData} (E : Hk Θ M H) (hp : H p = none) (h : DvAll Θ.K M H xs ds) : SlOk Θ M (upd H p (.tup xs)) (.ref p) (.dat (.tuple ds)) :=
  .dat (.tup (SqT.of upd_same) (DvAll.stay (E.stay (Evo.new hp)) _ _ h))

/-! ### operations on values -/
@[irreducible] def wO (X : Cx) (f : Value → Value → Sem Value) (v w : V) (H : Hp) (R : VK) : Prop :=
  ∀ (pins : List (Addr × Obj)) (s : Shared) (σ : L2.St) (u u' : Value), Inv X pins σ H s → RelV v u → RelV w u' → wpAny (model X.prog X.w) X.A (f u u') (EP X pins σ R) X.xe s
def OpD (Θ : Th) (M : List Addr) (f : Value → Value → Sem Value) (x y : Sl) (Q : Sl → Prop) : Prop :=
  ∀ X, Cpt Θ X → ∀ (v w : V) (H : Hp) (R : VK), Hk Θ.W M H → SlOk Θ.W M H v x → SlOk Θ.W M H w y → (∀ z s H', Evo Θ.W H H' → SlOk Θ.W M H' z s → Q s → R z H') → wO X f v w H R
theorem wO.rule {X : Cx} {f : Value → Value → Sem Value} : OpR X f (fun v w H R => wO X f v w H R) := fun pins s σ H x y v u Q I rx ry h => by unfold wO at h; exact h pins s σ v u I rx ry
theorem wO_of {X : Cx} {f : Value → Value → Sem Value} {r : R2} (ho : OpR X f r) {v w : V} {H : Hp} {R : VK} (h : r v w H R) : wO X f v w H R := by unfold wO; exact fun pins s σ u u' I rx ry => ho pins s σ H v w u u' R I rx ry h
@[irreducible] def wU (X : Cx) (f : Value → Sem Value) (v : V) (H : Hp) (R : VK) : Prop :=
  ∀ (pins : List (Addr × Obj)) (s : Shared) (σ : L2.St) (u : Value), Inv X pins σ H s → RelV v u → wpAny (model X.prog X.w) X.A (f u) (EP X pins σ R) X.xe s
/-- a call of a known value -/
@[irreducible] def wC (X : Cx) (f : Value) (vs : List V) (H : Hp) (R : VK) : Prop :=
  ∀ (pins : List (Addr × Obj)) (s : Shared) (σ : L2.St) (us : List Value), Inv X pins σ H s → Vals vs us → wpAny (model X.prog X.w) X.A (call f us) (EP X pins σ R) X.xe s
theorem wC.rule {X : Cx} {f : Value} : CallR X f (fun vs H R => wC X f vs H R) := fun pins s σ H xs us Q I r h => by unfold wC at h; exact h pins s σ us I r
theorem wC_of {X : Cx} {f : Value} {r : List V → Hp → VK → Prop} (ho : CallR X f r) {vs : List V} {H : Hp} {R : VK} (h : r vs H R) : wC X f vs H R := by unfold wC; exact fun pins s σ us I q => ho pins s σ H vs us R I q h
def CallD (Θ : Th) (M : List Addr) (f : Value) (xs : List Sl) (Q : Sl → Prop) : Prop :=
  ∀ X, Cpt Θ X → ∀ (vs : List V) (H : Hp) (R : VK), Hk Θ.W M H → SlsOk Θ.W M H vs xs → (∀ z s H', Evo Θ.W H H' → SlOk Θ.W M H' z s → Q s → R z H') → wC X f vs H R
/-- a built-in type's method -/
@[irreducible] def wM (X : Cx) (id : String) (v : V) (vs : List V) (H : Hp) (R : VK) : Prop :=
  ∀ (pins : List (Addr × Obj)) (s : Shared) (σ : L2.St) (u : Value) (us : List Value), Inv X pins σ H s → RelV v u → Vals vs us → wpAny (model X.prog X.w) X.A (call (.builtin id) (u :: us)) (EP X pins σ R) X.xe s
theorem wM.rule {X : Cx} {id : String} : MtR X id (fun v vs H R => wM X id v vs H R) := fun pins s σ H x xs v us Q I r q h => by unfold wM at h; exact h pins s σ v us I r q

section
variable {Θ : Th} {M : List Addr} {Γ : Gm} {Ex : Xn → Prop} {Q : Sl → Prop} {a b e : Expr} {es : List Expr} {pos p : Pos} {x : Str}

/-! ### names, constants -/
theorem d_name {i : Nat} {s : Sl} (hN : Θ.N[i]? = some x) (hv : Vis Θ.sc x) (hΓ : Γ[i]? = some (some s)) (hq : Q s) (hd : (x == ("__debug__" : Str)) = false := by decide) (hcd : (x == ("__classdict__" : Str)) = false := by decide) :
    dE Θ M (.Name x pos) Γ Ex Q := by
  intro X c σ H R E xr k
  obtain ⟨v, h1, h2⟩ := E.at_ i s hΓ
  exact wE_of (pe_var (i := i) (by rw [c.N]; exact hN) (by rw [c.sc]; exact hv) hd hcd) ⟨v, h1, k v s H (Evo.refl H) h2 hq⟩
theorem d_int {i : Int} {j : Nat} (hq : Q (.dat (.int i))) : dE Θ M (.Constant (.int i) j pos) Γ Ex Q := fun X c σ H R E xr k => wE_of pe_int (k _ _ H (Evo.refl H) (.dat (.int i)) hq)
theorem d_bool {i : Bool} {j : Nat} (hq : Q (.dat (.bool i))) : dE Θ M (.Constant (.bool i) j pos) Γ Ex Q := fun X c σ H R E xr k => wE_of pe_bl (k _ _ H (Evo.refl H) (.dat (.bl i)) hq)
theorem d_none {j : Nat} (hq : Q (.dat .none)) : dE Θ M (.Constant .none j pos) Γ Ex Q := fun X c σ H R E xr k => wE_of pe_non (k _ _ H (Evo.refl H) (.dat .non) hq)
theorem d_str {i : Str} {j : Nat} (hq : Q (.dat (.str i))) : dE Θ M (.Constant (.str i) j pos) Γ Ex Q := fun X c σ H R E xr k => wE_of pe_str (k _ _ H (Evo.refl H) (.dat (.str i)) hq)
/-- a def of the top, as a value -/
theorem d_glob {f : Addr} (hg : Θ.sc.names.lookup x = some .globalImplicit) (hm : Θ.mg x = some (.ref f)) (hq : Q (.fn f)) (hd : (x == ("__debug__" : Str)) = false := by decide) : dE Θ M (.Name x pos) Γ Ex Q := by
  intro X c σ H R E xr k
  exact wE_of (pe_glob (v := .ref f) (by unfold Gl; show X.env.scope.names.lookup x = _; rw [c.sc]; exact hg) (by rw [c.mg]; exact hm) rfl hd) (k _ _ H (Evo.refl H) (.fn f) hq)
theorem d_globInt {i : Int} (hg : Θ.sc.names.lookup x = some .globalImplicit) (hm : ∃ t, Θ.mg x = some (.int i t)) (hq : Q (.dat (.int i))) (hd : (x == ("__debug__" : Str)) = false := by decide) : dE Θ M (.Name x pos) Γ Ex Q := by
  intro X c σ H R E xr k
  obtain ⟨t, hm⟩ := hm
  exact wE_of (pe_glob (v := .int i) (by unfold Gl; show X.env.scope.names.lookup x = _; rw [c.sc]; exact hg) (by rw [c.mg]; exact hm) ⟨t, rfl⟩ hd) (k _ _ H (Evo.refl H) (.dat (.int i)) hq)
theorem d_globStr {i : Str} (hg : Θ.sc.names.lookup x = some .globalImplicit) (hm : ∃ t, Θ.mg x = some (.str i t)) (hq : Q (.dat (.str i))) (hd : (x == ("__debug__" : Str)) = false := by decide) : dE Θ M (.Name x pos) Γ Ex Q := by
  intro X c σ H R E xr k
  obtain ⟨t, hm⟩ := hm
  exact wE_of (pe_glob (v := .str i) (by unfold Gl; show X.env.scope.names.lookup x = _; rw [c.sc]; exact hg) (by rw [c.mg]; exact hm) ⟨t, rfl⟩ hd) (k _ _ H (Evo.refl H) (.dat (.str i)) hq)
/-- a tuple of the top -/
theorem d_globTup {f : Addr} {vs : List V} {ds : List PyData} (hg : Θ.sc.names.lookup x = some .globalImplicit) (hm : Θ.mg x = some (.ref f)) (hT : ∀ H, SqT Θ.W.K H f vs) (hds : ∀ H, DvAll Θ.W.K M H vs ds) (hq : Q (.dat (.tuple ds))) (hd : (x == ("__debug__" : Str)) = false := by decide) : dE Θ M (.Name x pos) Γ Ex Q := by
  intro X c σ H R E xr k
  exact wE_of (pe_glob (v := .ref f) (by unfold Gl; show X.env.scope.names.lookup x = _; rw [c.sc]; exact hg) (by rw [c.mg]; exact hm) rfl hd) (k _ _ H (Evo.refl H) (.dat (.tup (hT H) (hds H))) hq)
/-- a built-in class as a value -/
theorem d_ty {n : String} (hg : Θ.sc.names.lookup x = some .globalImplicit) (hm : Θ.mg x = none) (hv : bootBuiltins x = some (.type n)) (hq : Q (.ty n)) (hn : x ≠ "__name__" := by decide) (hd : (x == ("__debug__" : Str)) = false := by decide) : dE Θ M (.Name x pos) Γ Ex Q := by
  intro X c σ H R E xr k
  exact wE_of (pe_bltn (v := .ty n) (by unfold Gl; show X.env.scope.names.lookup x = _; rw [c.sc]; exact hg) (by rw [c.mg]; exact hm) hv rfl hn hd) (k _ _ H (Evo.refl H) (.ty n) hq)

/-! ### operators, comparisons -/
theorem d_two {t : Expr} {f : Value → Value → Sem Value} (h : dE Θ M a Γ Ex fun x => dE Θ M b Γ Ex fun y => OpD Θ M f x y Q)
    (rule : ∀ X, Cpt Θ X → PE X t (tOp (fun v w H R => wO X f v w H R) (wE X a) (wE X b))) : dE Θ M t Γ Ex Q := by
  intro X c σ H R E xr k
  refine wE_of (rule X c) ?_
  refine h X c σ H _ E xr fun v s H1 e1 ok q => ?_
  refine q X c σ H1 _ (E.evo e1) (xr.evo e1) fun v2 s2 H2 e2 ok2 q2 => ?_
  exact q2 X c v v2 H2 R ((E.hk.evo e1).evo e2) (ok.ev (E.hk.evo e1) e2) ok2 fun z s H' e' ok' q' => k z s H' ((e1.trans e2).trans e') ok' q'
theorem d_bin {op : Operator} (h : dE Θ M a Γ Ex fun x => dE Θ M b Γ Ex fun y => OpD Θ M (binaryOp op) x y Q) : dE Θ M (.BinOp a op b pos) Γ Ex Q :=
  d_two h fun X c => pe_op wO.rule (pe X a) (pe X b)
theorem d_cmp {op : CmpOp} (h : dE Θ M a Γ Ex fun x => dE Θ M b Γ Ex fun y => OpD Θ M (compareOp op) x y Q) (hm : behindInMarks op b = false := by first | exact nomark _ | with_unfolding_all rfl) : dE Θ M (.Compare a [op] [b] pos) Γ Ex Q :=
  d_two h fun X c => pe_cmpR wO.rule (pe X a) (pe X b) hm
theorem OpD.of {f : Value → Value → Sem Value} {x y : Sl} {r : Cx → R2} (ho : ∀ X, Cpt Θ X → OpR X f (r X))
    (h : ∀ X, Cpt Θ X → ∀ (v w : V) (H : Hp) (R : VK), Hk Θ.W M H → SlOk Θ.W M H v x → SlOk Θ.W M H w y → (∀ z s H', Evo Θ.W H H' → SlOk Θ.W M H' z s → Q s → R z H') → r X v w H R) : OpD Θ M f x y Q :=
  fun X c v w H R hk h1 h2 k => wO_of (ho X c) (h X c v w H R hk h1 h2 k)
theorem dat_int {Θ : Wd} {M : List Addr} {H : Hp} {v : V} {i : Int} (h : SlOk Θ M H v (.dat (.int i))) : v = .int i := by
  cases h with
  | dat h => cases h; rfl
theorem dat_bool {Θ : Wd} {M : List Addr} {H : Hp} {v : V} {i : Bool} (h : SlOk Θ M H v (.dat (.bool i))) : v = .bl i := by
  cases h with
  | dat h => cases h; rfl
theorem dat_str {Θ : Wd} {M : List Addr} {H : Hp} {v : V} {i : Str} (h : SlOk Θ M H v (.dat (.str i))) : v = .str i := by
  cases h with
  | dat h => cases h; rfl
theorem dat_none {Θ : Wd} {M : List Addr} {H : Hp} {v : V} (h : SlOk Θ M H v (.dat .none)) : v = .non := by
  cases h with
  | dat h => cases h; rfl
theorem dat_list {Θ : Wd} {M : List Addr} {H : Hp} {v : V} {ds : List PyData} (h : SlOk Θ M H v (.dat (.list ds))) : ∃ a xs, v = .ref a ∧ a ∉ M ∧ H a = some (.lst xs) ∧ DvAll Θ.K M H xs ds := by
  cases h with
  | dat h =>
    cases h with
    | lst h1 h2 h3 => exact ⟨_, _, rfl, h1, h2, h3⟩
theorem dat_tup {Θ : Wd} {M : List Addr} {H : Hp} {v : V} {ds : List PyData} (h : SlOk Θ M H v (.dat (.tuple ds))) : ∃ a xs, v = .ref a ∧ SqT Θ.K H a xs ∧ DvAll Θ.K M H xs ds := by
  cases h with
  | dat h =>
    cases h with
    | tup h1 h2 => exact ⟨_, _, rfl, h1, h2⟩
theorem dat_d {Θ : Wd} {M : List Addr} {H : Hp} {v : V} {d : PyData} (h : SlOk Θ M H v (.dat d)) : Dv Θ.K M H v d := by
  cases h with
  | dat h => exact h
/-- two ints in, a value out -/
theorem OpD.ints {f : Value → Value → Sem Value} {i j : Int} {C : Int → Int → Prop} {g : Int → Int → V} {d : PyData} (ho : ∀ X, OpR X f (rI C g)) (hc : C i j) (hd : ∀ H, Dv Θ.W.K M H (g i j) d) (hq : Q (.dat d)) : OpD Θ M f (.dat (.int i)) (.dat (.int j)) Q :=
  OpD.of (fun X c => ho X) fun X c v w H R hk h1 h2 k => ⟨i, j, dat_int h1, dat_int h2, hc, k _ _ H (Evo.refl H) (.dat (hd H)) hq⟩
theorem OpD.ints0 {f : Value → Value → Sem Value} {i j : Int} {g : Int → Int → V} {d : PyData} (ho : ∀ X, OpR X f (rI0 g)) (hd : ∀ H, Dv Θ.W.K M H (g i j) d) (hq : Q (.dat d)) : OpD Θ M f (.dat (.int i)) (.dat (.int j)) Q :=
  OpD.of (fun X c => ho X) fun X c v w H R hk h1 h2 k => ⟨i, j, dat_int h1, dat_int h2, k _ _ H (Evo.refl H) (.dat (hd H)) hq⟩
theorem o_add {i j : Int} (hq : Q (.dat (.int (i + j)))) : OpD Θ M (binaryOp .Add) (.dat (.int i)) (.dat (.int j)) Q := OpD.ints0 (fun X => op_add) (fun H => .int _) hq
theorem o_sub {i j : Int} (hq : Q (.dat (.int (i - j)))) : OpD Θ M (binaryOp .Sub) (.dat (.int i)) (.dat (.int j)) Q := OpD.ints0 (fun X => op_sub) (fun H => .int _) hq
theorem o_mod {i j : Int} (h : 0 < j) (hq : Q (.dat (.int (i % j)))) : OpD Θ M (binaryOp .Mod) (.dat (.int i)) (.dat (.int j)) Q := OpD.ints (fun X => op_mod) h (fun H => .int _) hq
theorem o_lt {i j : Int} (hq : Q (.dat (.bool (decide (i < j))))) : OpD Θ M (compareOp .Lt) (.dat (.int i)) (.dat (.int j)) Q := OpD.ints0 (fun X => op_lt) (fun H => .bl _) hq
theorem o_le {i j : Int} (hq : Q (.dat (.bool (decide (i ≤ j))))) : OpD Θ M (compareOp .LtE) (.dat (.int i)) (.dat (.int j)) Q := OpD.ints0 (fun X => op_le) (fun H => .bl _) hq
theorem o_gt {i j : Int} (hq : Q (.dat (.bool (decide (j < i))))) : OpD Θ M (compareOp .Gt) (.dat (.int i)) (.dat (.int j)) Q := OpD.ints0 (fun X => op_gt) (fun H => .bl _) hq
theorem o_ge {i j : Int} (hq : Q (.dat (.bool (decide (j ≤ i))))) : OpD Θ M (compareOp .GtE) (.dat (.int i)) (.dat (.int j)) Q := OpD.ints0 (fun X => op_ge) (fun H => .bl _) hq
theorem Cpt.units {X : Cx} (c : Cpt Θ X) : X.A.units + 64 < cLine := c.room.units
/-- == of any data -/
theorem o_eqD {d e : PyData} (sd : SeqAt.shaped d = true) (se : SeqAt.shaped e = true) (hq : Q (.dat (.bool (PyData.eqv d e)))) : OpD Θ M (compareOp .Eq) (.dat d) (.dat e) Q :=
  OpD.of (r := fun X => rEqD X.K) (fun X c => op_eqD c.units) fun X c v w H R hk h1 h2 k => ⟨d, e, by rw [c.K]; exact Dv.dp _ _ (dat_d h1), by rw [c.K]; exact Dv.dp _ _ (dat_d h2), sd, se, k _ _ H (Evo.refl H) (.dat (.bl _)) hq⟩
theorem o_neD {d e : PyData} (sd : SeqAt.shaped d = true) (se : SeqAt.shaped e = true) (hq : Q (.dat (.bool (!PyData.eqv d e)))) : OpD Θ M (compareOp .NotEq) (.dat d) (.dat e) Q :=
  OpD.of (r := fun X => rNeD X.K) (fun X c => op_neD c.units) fun X c v w H R hk h1 h2 k => ⟨d, e, by rw [c.K]; exact Dv.dp _ _ (dat_d h1), by rw [c.K]; exact Dv.dp _ _ (dat_d h2), sd, se, k _ _ H (Evo.refl H) (.dat (.bl _)) hq⟩
theorem o_eq {i j : Int} (hq : Q (.dat (.bool (decide (i = j))))) : OpD Θ M (compareOp .Eq) (.dat (.int i)) (.dat (.int j)) Q :=
  OpD.of (fun X c => op_eq) fun X c v w H R hk h1 h2 k => by
    rw [dat_int h1, dat_int h2]
    exact ⟨rfl, k _ _ H (Evo.refl H) (.dat (.bl _)) (by have e : decide (V.int i = V.int j) = decide (i = j) := by simp
                                                        rw [e]; exact hq)⟩
theorem o_ne {i j : Int} (hq : Q (.dat (.bool (!decide (i = j))))) : OpD Θ M (compareOp .NotEq) (.dat (.int i)) (.dat (.int j)) Q :=
  OpD.of (fun X c => op_ne) fun X c v w H R hk h1 h2 k => by
    rw [dat_int h1, dat_int h2]
    exact ⟨rfl, k _ _ H (Evo.refl H) (.dat (.bl _)) (by have e : decide (V.int i = V.int j) = decide (i = j) := by simp
                                                        rw [e]; exact hq)⟩
theorem o_eqS {i j : Str} (hq : Q (.dat (.bool (decide (i = j))))) : OpD Θ M (compareOp .Eq) (.dat (.str i)) (.dat (.str j)) Q :=
  OpD.of (fun X c => op_eq) fun X c v w H R hk h1 h2 k => by
    rw [dat_str h1, dat_str h2]
    exact ⟨rfl, k _ _ H (Evo.refl H) (.dat (.bl _)) (by have e : decide (V.str i = V.str j) = decide (i = j) := by simp
                                                        rw [e]; exact hq)⟩
theorem o_isN {d : PyData} (hq : Q (.dat (.bool (match d with | .none => true | _ => false)))) : OpD Θ M (compareOp .Is) (.dat d) (.dat .none) Q :=
  OpD.of (fun X c => op_isN) fun X c v w H R hk h1 h2 k => ⟨dat_none h2, k _ _ H (Evo.refl H) (.dat (.bl _)) (by
    have h := dat_d h1
    cases h <;> simpa using hq)⟩
theorem o_notN {d : PyData} (hq : Q (.dat (.bool (match d with | .none => false | _ => true)))) : OpD Θ M (compareOp .IsNot) (.dat d) (.dat .none) Q :=
  OpD.of (fun X c => op_notN) fun X c v w H R hk h1 h2 k => ⟨dat_none h2, k _ _ H (Evo.refl H) (.dat (.bl _)) (by
    have h := dat_d h1
    cases h <;> simpa using hq)⟩
/-- + of lists, of tuples -/
theorem o_addL {ds es : List PyData} (hl : ds.length + es.length ≤ sizeLine) (hq : Q (.dat (.list (ds ++ es)))) : OpD Θ M (binaryOp .Add) (.dat (.list ds)) (.dat (.list es)) Q :=
  OpD.of (fun X c => op_cat) fun X c v w H R hk h1 h2 k => by
    obtain ⟨a, xs, rfl, na, ha, da⟩ := dat_list h1
    obtain ⟨b, ys, rfl, nb, hb, db⟩ := dat_list h2
    exact ⟨a, b, xs, ys, rfl, rfl, ha, hb, by rw [da.length, db.length]; exact hl, fun p hp => k _ _ _ (Evo.new hp) (new_lst hk hp (da.append db)) hq⟩
theorem o_addT {ds es : List PyData} (hl : ds.length + es.length ≤ sizeLine) (hq : Q (.dat (.tuple (ds ++ es)))) : OpD Θ M (binaryOp .Add) (.dat (.tuple ds)) (.dat (.tuple es)) Q :=
  OpD.of (r := fun X => rCatA X.K) (fun X c => op_catA) fun X c v w H R hk h1 h2 k => by
    obtain ⟨a, xs, rfl, ha, da⟩ := dat_tup h1
    obtain ⟨b, ys, rfl, hb, db⟩ := dat_tup h2
    refine ⟨a, b, xs, ys, rfl, rfl, by rw [c.K]; exact ha, by rw [c.K]; exact hb, by rw [da.length, db.length]; exact hl, fun z => ?_, fun z1 z2 => ?_, fun z1 z2 p hp => k _ _ _ (Evo.new hp) (new_tup hk hp (da.append db)) hq⟩
    · subst z
      cases da
      exact k _ _ H (Evo.refl H) h2 hq
    · subst z2
      cases db
      rw [List.append_nil] at hq
      exact k _ _ H (Evo.refl H) h1 hq
theorem o_addS {i j : Str} (hl : i.length + j.length ≤ sizeLine) (hq : Q (.dat (.str (i ++ j)))) : OpD Θ M (binaryOp .Add) (.dat (.str i)) (.dat (.str j)) Q :=
  OpD.of (fun X c => op_add_str) fun X c v w H R hk h1 h2 k => ⟨i, j, dat_str h1, dat_str h2, hl, k _ _ H (Evo.refl H) (.dat (.str _)) hq⟩

/-! ### and, or, not, if as values -/
theorem d_one {op : BoolOp} (h : dE Θ M a Γ Ex Q) : dE Θ M (.BoolOp op [a] pos) Γ Ex Q := fun X c σ H R E xr k => wE_of (pe_one (pe X a)) (h X c σ H R E xr k)
theorem d_and (h : dE Θ M a Γ Ex fun x => ∃ c, x = .dat (.bool c) ∧ (c = true → dE Θ M (.BoolOp .And (b :: es) pos) Γ Ex Q) ∧ (c = false → Q (.dat (.bool false)))) : dE Θ M (.BoolOp .And (a :: b :: es) pos) Γ Ex Q := by
  intro X c σ H R E xr k
  refine wE_of (pe_and (pe X a) (pe X _)) (h X c σ H _ E xr fun v s H1 e1 ok q => ?_)
  obtain ⟨d, rfl, h1, h2⟩ := q
  refine ⟨d, dat_bool ok, ?_⟩
  cases d with
  | true => exact h1 rfl X c σ H1 R (E.evo e1) (xr.evo e1) fun v s H2 e2 ok q => k v s H2 (e1.trans e2) ok q
  | false => exact k _ _ H1 e1 (.dat (.bl false)) (h2 rfl)
theorem d_or (h : dE Θ M a Γ Ex fun x => ∃ c, x = .dat (.bool c) ∧ (c = true → Q (.dat (.bool true))) ∧ (c = false → dE Θ M (.BoolOp .Or (b :: es) pos) Γ Ex Q)) : dE Θ M (.BoolOp .Or (a :: b :: es) pos) Γ Ex Q := by
  intro X c σ H R E xr k
  refine wE_of (pe_or (pe X a) (pe X _)) (h X c σ H _ E xr fun v s H1 e1 ok q => ?_)
  obtain ⟨d, rfl, h1, h2⟩ := q
  refine ⟨d, dat_bool ok, ?_⟩
  cases d with
  | false => exact h2 rfl X c σ H1 R (E.evo e1) (xr.evo e1) fun v s H2 e2 ok q => k v s H2 (e1.trans e2) ok q
  | true => exact k _ _ H1 e1 (.dat (.bl true)) (h1 rfl)
theorem d_not (h : dE Θ M a Γ Ex fun x => ∃ c, x = .dat (.bool c) ∧ Q (.dat (.bool (!c)))) : dE Θ M (.UnaryOp .Not a pos) Γ Ex Q := by
  intro X c σ H R E xr k
  refine wE_of (pe_not (pe X a)) (h X c σ H _ E xr fun v s H1 e1 ok q => ?_)
  obtain ⟨d, rfl, h1⟩ := q
  exact ⟨d, dat_bool ok, k _ _ H1 e1 (.dat (.bl _)) h1⟩
theorem d_neg (h : dE Θ M a Γ Ex fun x => ∃ i, x = .dat (.int i) ∧ Q (.dat (.int (-i)))) : dE Θ M (.UnaryOp .USub a pos) Γ Ex Q := by
  intro X c σ H R E xr k
  refine wE_of (pe_un un_neg (pe X a)) (h X c σ H _ E xr fun v s H1 e1 ok q => ?_)
  obtain ⟨d, rfl, h1⟩ := q
  exact ⟨d, dat_int ok, k _ _ H1 e1 (.dat (.int _)) h1⟩
theorem d_if {t : Expr} (h : dT Θ M t Γ Ex fun c => (c = true → dE Θ M a Γ Ex Q) ∧ (c = false → dE Θ M b Γ Ex Q)) : dE Θ M (.IfExp t a b pos) Γ Ex Q := by
  intro X c σ H R E xr k
  refine wE_of (pe_ifExp (pt X t) (pe X a) (pe X b)) (h X c σ H _ E xr fun d H1 e1 q => ?_)
  cases d with
  | true => exact q.1 rfl X c σ H1 R (E.evo e1) (xr.evo e1) fun v s H2 e2 ok q => k v s H2 (e1.trans e2) ok q
  | false => exact q.2 rfl X c σ H1 R (E.evo e1) (xr.evo e1) fun v s H2 e2 ok q => k v s H2 (e1.trans e2) ok q

/-! ### tests -/
variable {T : Bool → Prop}
theorem t_val (h : dE Θ M e Γ Ex fun x => ∃ c, x = .dat (.bool c) ∧ T c) (he : ∀ (env : Env) (whole : Sem Value), isTrue e env whole = (do let v ← whole; standAt e.pos; holding [v] (truthy v)) := by intro _ _; rfl) : dT Θ M e Γ Ex T := by
  intro X c σ H R E xr k
  refine wT_of (pt_val (pe X e) (he _)) (h X c σ H _ E xr fun v s H1 e1 ok q => ?_)
  obtain ⟨d, rfl, h1⟩ := q
  exact ⟨d, dat_bool ok, k d H1 e1 h1⟩
theorem t_cmp {op : CmpOp} (h : dE Θ M a Γ Ex fun x => dE Θ M b Γ Ex fun y => OpD Θ M (compareOp op) x y fun z => ∃ c, z = .dat (.bool c) ∧ T c) (hm : behindInMarks op b = false := by first | exact nomark _ | with_unfolding_all rfl) : dT Θ M (.Compare a [op] [b] pos) Γ Ex T := by
  intro X c σ H R E xr k
  refine wT_of (pt_cmpR wO.rule (pe X a) (pe X b) hm) ?_
  refine h X c σ H _ E xr fun v s H1 e1 ok q => ?_
  refine q X c σ H1 _ (E.evo e1) (xr.evo e1) fun v2 s2 H2 e2 ok2 q2 => ?_
  refine q2 X c v v2 H2 _ ((E.hk.evo e1).evo e2) (ok.ev (E.hk.evo e1) e2) ok2 fun z s H' e' ok' q' => ?_
  obtain ⟨d, rfl, h1⟩ := q'
  exact ⟨d, dat_bool ok', k d H' ((e1.trans e2).trans e') h1⟩
theorem t_not (h : dT Θ M a Γ Ex fun c => T (!c)) : dT Θ M (.UnaryOp .Not a pos) Γ Ex T := fun X c σ H R E xr k => wT_of (pt_not (pt X a)) (h X c σ H _ E xr fun d H1 e1 q => k _ H1 e1 q)
theorem t_bool {op : BoolOp} (h : dW Θ M (.BoolOp op es pos) Γ Ex T) : dT Θ M (.BoolOp op es pos) Γ Ex T := fun X c σ H R E xr k => wT_of (PW.pt (pw X _)) (h X c σ H R E xr k)
theorem w_and1 (h : dT Θ M a Γ Ex T) : dW Θ M (.BoolOp .And [a] pos) Γ Ex T := fun X c σ H R E xr k => wW_of (pw_and1 (pt X a)) (h X c σ H R E xr k)
theorem w_or1 (h : dT Θ M a Γ Ex T) : dW Θ M (.BoolOp .Or [a] pos) Γ Ex T := fun X c σ H R E xr k => wW_of (pw_or1 (pt X a)) (h X c σ H R E xr k)
theorem w_and (h : dT Θ M a Γ Ex fun c => (c = true → dW Θ M (.BoolOp .And (b :: es) pos) Γ Ex T) ∧ (c = false → T false)) : dW Θ M (.BoolOp .And (a :: b :: es) pos) Γ Ex T := by
  intro X c σ H R E xr k
  refine wW_of (pw_and (pt X a) (pw X _)) (h X c σ H _ E xr fun d H1 e1 q => ?_)
  cases d with
  | true => exact q.1 rfl X c σ H1 R (E.evo e1) (xr.evo e1) fun d H2 e2 q => k d H2 (e1.trans e2) q
  | false => exact k _ H1 e1 (q.2 rfl)
theorem w_or (h : dT Θ M a Γ Ex fun c => (c = true → T true) ∧ (c = false → dW Θ M (.BoolOp .Or (b :: es) pos) Γ Ex T)) : dW Θ M (.BoolOp .Or (a :: b :: es) pos) Γ Ex T := by
  intro X c σ H R E xr k
  refine wW_of (pw_or (pt X a) (pw X _)) (h X c σ H _ E xr fun d H1 e1 q => ?_)
  cases d with
  | false => exact q.2 rfl X c σ H1 R (E.evo e1) (xr.evo e1) fun d H2 e2 q => k d H2 (e1.trans e2) q
  | true => exact k _ H1 e1 (q.1 rfl)

/-! ### argument lists, displays, calls -/
theorem a_nil {A : List Sl → Prop} (h : A []) : dA Θ M [] Γ Ex A := fun X c σ H R E xr k => wA_of pa_nil (k [] [] H (Evo.refl H) .nil h)
theorem a_cons {A : List Sl → Prop} (h : dE Θ M e Γ Ex fun x => dA Θ M es Γ Ex fun xs => A (x :: xs)) (hs : ∀ env, starEach (e :: es) env = (false, eval e env) :: starEach es env := by intro _; rfl) : dA Θ M (e :: es) Γ Ex A := by
  intro X c σ H R E xr k
  refine wA_of (pa_cons (pe X e) (pa X es) (hs _)) (h X c σ H _ E xr fun v s H1 e1 ok q => ?_)
  exact q X c σ H1 _ (E.evo e1) (xr.evo e1) fun vs ss H2 e2 ok2 q2 => k _ _ H2 (e1.trans e2) (.cons (ok.ev (E.hk.evo e1) e2) ok2) q2
/-- all are plain data -/
inductive Dats : List Sl → List PyData → Prop
  | nil : Dats [] []
  | cons {d : PyData} {ss : List Sl} {ds : List PyData} : Dats ss ds → Dats (.dat d :: ss) (d :: ds)
theorem Dats.all {H : Hp} : ∀ {vs : List V} {ss : List Sl} {ds : List PyData}, SlsOk Θ.W M H vs ss → Dats ss ds → DvAll Θ.W.K M H vs ds
  | _, _, _, .nil, .nil => .nil
  | _, _, _, .cons h t, .cons r => .cons (dat_d h) (Dats.all t r)
theorem Dats.len : ∀ {ss : List Sl} {ds : List PyData}, Dats ss ds → ss.length = ds.length
  | _, _, .nil => rfl
  | _, _, .cons r => by rw [List.length_cons, List.length_cons, Dats.len r]
theorem d_tup {x1 : Nat} (h : dA Θ M es Γ Ex fun xs => ∃ ds, Dats xs ds ∧ ds.length ≤ sizeLine ∧ Q (.dat (.tuple ds))) : dE Θ M (.Tuple es x1 pos) Γ Ex Q := by
  intro X c σ H R E xr k
  refine wE_of (pe_tup (pa X es)) (h X c σ H _ E xr fun vs ss H1 e1 ok q => ?_)
  obtain ⟨ds, hd, hl, hq⟩ := q
  have da := hd.all ok
  exact ⟨by rw [da.length]; exact hl, fun p hp => k _ _ _ (e1.trans (Evo.new hp)) (new_tup (E.hk.evo e1) hp da) hq⟩
theorem d_lst (h : dA Θ M es Γ Ex fun xs => ∃ ds, Dats xs ds ∧ ds.length ≤ sizeLine ∧ Q (.dat (.list ds))) : dE Θ M (.List es pos) Γ Ex Q := by
  intro X c σ H R E xr k
  refine wE_of (pe_lst (pa X es)) (h X c σ H _ E xr fun vs ss H1 e1 ok q => ?_)
  obtain ⟨ds, hd, hl, hq⟩ := q
  have da := hd.all ok
  exact ⟨by rw [da.length]; exact hl, fun p hp => k _ _ _ (e1.trans (Evo.new hp)) (new_lst (E.hk.evo e1) hp da) hq⟩
theorem gl_of {X : Cx} (c : Cpt Θ X) (hg : Θ.sc.names.lookup x = some .globalImplicit) : Gl X x := by
  unfold Gl
  show X.env.scope.names.lookup x = _
  rw [c.sc]
  exact hg
/-- a built-in function's call -/
theorem d_callB {id : String} (hg : Θ.sc.names.lookup x = some .globalImplicit) (hm : Θ.mg x = none) (hv : bootBuiltins x = some (.builtin id)) (h : dA Θ M (e :: es) Γ Ex fun xs => CallD Θ M (.builtin id) xs Q) (hn : x ≠ "__name__" := by decide) (hdb : (x == ("__debug__" : Str)) = false := by decide)
    (he : ∀ env, starEach (e :: es) env = (false, eval e env) :: starEach es env := by intro _; rfl) (hpl : ∀ env, (backTo pos (starEach es env)).any (·.1) = false := by intro _; rfl) : dE Θ M (.Call (.Name x p) (e :: es) [] pos) Γ Ex Q := by
  intro X c σ H R E xr k
  refine wE_of (pe_callB wC.rule (gl_of c hg) (by rw [c.mg]; exact hm) hv (pa X _) hn hdb (he _) (hpl _)) (h X c σ H _ E xr fun vs ss H1 e1 ok q => ?_)
  exact q X c vs H1 R (E.hk.evo e1) ok fun z s H' e' ok' q' => k z s H' (e1.trans e') ok' q'
theorem d_callTy {id : String} (hg : Θ.sc.names.lookup x = some .globalImplicit) (hm : Θ.mg x = none) (hv : bootBuiltins x = some (.type id)) (h : dA Θ M (e :: es) Γ Ex fun xs => CallD Θ M (.type id) xs Q) (hn : x ≠ "__name__" := by decide) (hdb : (x == ("__debug__" : Str)) = false := by decide)
    (he : ∀ env, starEach (e :: es) env = (false, eval e env) :: starEach es env := by intro _; rfl) (hpl : ∀ env, (backTo pos (starEach es env)).any (·.1) = false := by intro _; rfl) : dE Θ M (.Call (.Name x p) (e :: es) [] pos) Γ Ex Q := by
  intro X c σ H R E xr k
  refine wE_of (pe_callTy wC.rule (gl_of c hg) (by rw [c.mg]; exact hm) hv (pa X _) hn hdb (he _) (hpl _)) (h X c σ H _ E xr fun vs ss H1 e1 ok q => ?_)
  exact q X c vs H1 R (E.hk.evo e1) ok fun z s H' e' ok' q' => k z s H' (e1.trans e') ok' q'
end
end Dl
set_option Elab.async false
set_option linter.all false
set_option maxRecDepth 100000
set_option maxHeartbeats 2000000
set_option autoImplicit false
namespace Dl
open PySem PySem.Spec PyProof.Rows L2

/-! ### what is walked -/
structure WalkD (Θ : Wd) (J : It) (ds : List PyData) (G : List Addr → Hp → Prop) : Prop where
  w : ∀ M, Walk J ds.length (G M) (fun i H x H' => Hk Θ M H → Evo Θ H H' ∧ ∃ d, ds[i]? = some d ∧ Dv Θ.K M H' x d)
  st : ∀ M H H', G M H → Stay M H H' → G M H'
  fr : ∀ M H p, G M H → H p = none → G (p :: M) H
  ls : ∀ M M' H, G M H → (∀ a ∈ M', a ∈ M) → G M' H
@[irreducible] def wI (X : Cx) (tg iter : Expr) : TI := fun σ H R => ∀ pins s, Inv X pins σ H s → wpAny (model X.prog X.w) X.A (eval iter X.env) (fun v s1 => wpAny (model X.prog X.w) X.A (pyIter v) (PIE X pins σ tg R) X.xe s1) X.xe s
theorem pi (X : Cx) (tg iter : Expr) : PI X tg iter (wI X tg iter) := ⟨fun pins s _ _ _ I h => by unfold wI at h; exact h pins s I⟩
theorem wI_of {X : Cx} {tg iter : Expr} {t : TI} {σ : L2.St} {H : Hp} {R : It → Hp → Prop} (h : PI X tg iter t) (q : t σ H R) : wI X tg iter σ H R := by unfold wI; exact fun pins s I => h.run pins s σ H R I q
def dI (Θ : Th) (M : List Addr) (tg iter : Expr) (Γ : Gm) (Ex : Xn → Prop) (P : List PyData → Prop) : Prop :=
  ∀ X, Cpt Θ X → ∀ (σ : L2.St) (H : Hp) (R : It → Hp → Prop), EnvOk Θ.W M Γ σ H → XR Θ X M H Ex σ → (∀ J H1 ds G, Evo Θ.W H H1 → P ds → WalkD Θ.W J ds G → G M H1 → R J H1) → wI X tg iter σ H R
theorem nin_cons {H : Hp} {a p : Addr} {M : List Addr} {o : HO} (h : a ∉ M) (ha : H a = some o) (hp : H p = none) : a ∉ p :: M := fun q => (List.mem_cons.mp q).elim (fun z => by rw [z, hp] at ha; cases ha) h
/-- a list of data, not to be changed -/
structure LstOk (Θ : Wd) (a : Addr) (xs : List V) (ds : List PyData) (M : List Addr) (H : Hp) : Prop where
  nin : a ∉ M
  at_ : H a = some (.lst xs)
  all : DvAll Θ.K M H xs ds
theorem LstOk.stay {Θ : Wd} {a : Addr} {xs : List V} {ds : List PyData} {M : List Addr} {H H' : Hp} (g : LstOk Θ a xs ds M H) (s : Stay M H H') : LstOk Θ a xs ds M H' := ⟨g.nin, s.lst g.nin g.at_, DvAll.stay s _ _ g.all⟩
theorem LstOk.fresh {Θ : Wd} {a p : Addr} {xs : List V} {ds : List PyData} {M : List Addr} {H : Hp} (g : LstOk Θ a xs ds M H) (hp : H p = none) : LstOk Θ a xs ds (p :: M) H := ⟨nin_cons g.nin g.at_ hp, g.at_, DvAll.fresh hp _ _ g.all⟩
theorem LstOk.ls {Θ : Wd} {a : Addr} {xs : List V} {ds : List PyData} {M M' : List Addr} {H : Hp} (g : LstOk Θ a xs ds M H) (s : ∀ a ∈ M', a ∈ M) : LstOk Θ a xs ds M' H := ⟨fun q => g.nin (s _ q), g.at_, DvAll.less s _ _ g.all⟩
structure TupOk (Θ : Wd) (a : Addr) (xs : List V) (ds : List PyData) (M : List Addr) (H : Hp) : Prop where
  at_ : SqT Θ.K H a xs
  all : DvAll Θ.K M H xs ds
theorem TupOk.stay {Θ : Wd} {a : Addr} {xs : List V} {ds : List PyData} {M : List Addr} {H H' : Hp} (g : TupOk Θ a xs ds M H) (s : Stay M H H') : TupOk Θ a xs ds M H' := ⟨s.sqT g.at_, DvAll.stay s _ _ g.all⟩
theorem TupOk.fresh {Θ : Wd} {a p : Addr} {xs : List V} {ds : List PyData} {M : List Addr} {H : Hp} (g : TupOk Θ a xs ds M H) (hp : H p = none) : TupOk Θ a xs ds (p :: M) H := ⟨g.at_, DvAll.fresh hp _ _ g.all⟩
theorem TupOk.ls {Θ : Wd} {a : Addr} {xs : List V} {ds : List PyData} {M M' : List Addr} {H : Hp} (g : TupOk Θ a xs ds M H) (s : ∀ a ∈ M', a ∈ M) : TupOk Θ a xs ds M' H := ⟨g.at_, DvAll.less s _ _ g.all⟩
theorem walkD_list {Θ : Wd} {a : Addr} {xs : List V} {ds : List PyData} (hl : xs.length = ds.length) : WalkD Θ (Itl Θ.K a) ds (LstOk Θ a xs ds) := by
  refine ⟨fun M => ?_, fun M H H' g s => g.stay s, fun M H p g h => g.fresh h, fun M M' H g s => g.ls s⟩
  rw [← hl]
  refine ⟨fun i H hi g => (walk_list (K := Θ.K) (a := a) (xs := xs)).goes i H hi (.of g.at_), fun H g => (walk_list (K := Θ.K) (a := a) (xs := xs)).stops H (.of g.at_), fun i H x H' hi g y hk => ?_⟩
  obtain ⟨e, hx⟩ := (walk_list (K := Θ.K) (a := a) (xs := xs)).yields i H x H' hi (.of g.at_) y
  subst e
  obtain ⟨d, h1, h2⟩ := g.all.getV hx
  exact ⟨Evo.refl _, d, h1, h2⟩
theorem walkD_tup {Θ : Wd} {a : Addr} {xs : List V} {ds : List PyData} (hl : xs.length = ds.length) : WalkD Θ (Itt Θ.K a) ds (TupOk Θ a xs ds) := by
  refine ⟨fun M => ?_, fun M H H' g s => g.stay s, fun M H p g h => g.fresh h, fun M M' H g s => g.ls s⟩
  rw [← hl]
  refine ⟨fun i H hi g => (walk_tup (K := Θ.K) (a := a) (xs := xs)).goes i H hi g.at_, fun H g => (walk_tup (K := Θ.K) (a := a) (xs := xs)).stops H g.at_, fun i H x H' hi g y hk => ?_⟩
  obtain ⟨e, hx⟩ := (walk_tup (K := Θ.K) (a := a) (xs := xs)).yields i H x H' hi g.at_ y
  subst e
  obtain ⟨d, h1, h2⟩ := g.all.getV hx
  exact ⟨Evo.refl _, d, h1, h2⟩
/-- lo, lo + 1, .. -/
def rngD (lo : Int) (n : Nat) : List PyData := (List.range n).map fun i => .int (lo + (i : Nat))
theorem rngD_len (lo : Int) (n : Nat) : (rngD lo n).length = n := by simp [rngD]
theorem walkD_rng {Θ : Wd} {lo : Int} {n : Nat} : WalkD Θ (Itr lo n) (rngD lo n) (fun _ _ => True) := by
  refine ⟨fun M => ?_, fun _ _ _ _ _ => True.intro, fun _ _ _ _ _ => True.intro, fun _ _ _ _ _ => True.intro⟩
  rw [rngD_len]
  refine ⟨fun i H hi g => hi, fun H g => Nat.le_refl _, fun i H x H' hi g y hk => ?_⟩
  obtain ⟨e, hx⟩ := y
  subst e
  refine ⟨Evo.refl _, .int (lo + (i : Nat)), ?_, ?_⟩
  · simp [rngD, hi]
  · rw [hx]; exact .int _
/-- pairs, each new -/
def pairsD (as bs : List PyData) : List PyData := List.zipWith (fun x y => .tuple [x, y]) as bs
theorem pairsD_get {as bs : List PyData} {i : Nat} {x y : PyData} (h1 : as[i]? = some x) (h2 : bs[i]? = some y) : (pairsD as bs)[i]? = some (.tuple [x, y]) := by
  unfold pairsD
  rw [List.getElem?_zipWith, h1, h2]
theorem pairsD_len (as bs : List PyData) : (pairsD as bs).length = min as.length bs.length := by
  unfold pairsD
  exact List.length_zipWith
theorem pair_new {Θ : Wd} {M : List Addr} {H : Hp} {T : Addr} {x y : V} {d e : PyData} (hk : Hk Θ M H) (hT : H T = none) (h1 : Dv Θ.K M H x d) (h2 : Dv Θ.K M H y e) : Dv Θ.K M (upd H T (.tup [x, y])) (.ref T) (.tuple [d, e]) :=
  dat_d (new_tup hk hT (.cons h1 (.cons h2 .nil)))
theorem walkD_zipL {Θ : Wd} {a b : Addr} {xs ys : List V} {ds es : List PyData} (h1 : xs.length = ds.length) (h2 : ys.length = es.length) :
    WalkD Θ (Itz Θ.K a b) (pairsD ds es) (fun M H => LstOk Θ a xs ds M H ∧ LstOk Θ b ys es M H) := by
  refine ⟨fun M => ?_, fun M H H' g s => ⟨g.1.stay s, g.2.stay s⟩, fun M H p g h => ⟨g.1.fresh h, g.2.fresh h⟩, fun M M' H g s => ⟨g.1.ls s, g.2.ls s⟩⟩
  rw [pairsD_len, ← h1, ← h2]
  have W := walk_zip (K := Θ.K) (a := a) (b := b) (xs := xs) (ys := ys) rfl
  refine ⟨fun i H hi g => W.goes i H hi ⟨.of g.1.at_, .of g.2.at_⟩, fun H g => W.stops H ⟨.of g.1.at_, .of g.2.at_⟩, fun i H x H' hi g y hk => ?_⟩
  obtain ⟨T, u, v, e1, e2, e3, e4, e5⟩ := W.yields i H x H' hi ⟨.of g.1.at_, .of g.2.at_⟩ y
  obtain ⟨d, q1, q2⟩ := g.1.all.getV e4
  obtain ⟨e, q3, q4⟩ := g.2.all.getV e5
  subst e1 e3
  exact ⟨Evo.new e2, _, pairsD_get q1 q3, pair_new hk e2 q2 q4⟩
theorem walkD_zipT {Θ : Wd} {a b : Addr} {xs ys : List V} {ds es : List PyData} (h1 : xs.length = ds.length) (h2 : ys.length = es.length) :
    WalkD Θ (RZ.ItzT Θ.K a b) (pairsD ds es) (fun M H => TupOk Θ a xs ds M H ∧ TupOk Θ b ys es M H) := by
  refine ⟨fun M => ?_, fun M H H' g s => ⟨g.1.stay s, g.2.stay s⟩, fun M H p g h => ⟨g.1.fresh h, g.2.fresh h⟩, fun M M' H g s => ⟨g.1.ls s, g.2.ls s⟩⟩
  rw [pairsD_len, ← h1, ← h2]
  refine ⟨fun i H hi g => ?_, fun H g => ⟨xs, ys, g.1.at_, g.2.at_, by omega⟩, fun i H x H' hi g y hk => ?_⟩
  · have l1 : i < xs.length := by omega
    have l2 : i < ys.length := by omega
    exact ⟨xs, ys, xs[i], ys[i], g.1.at_, g.2.at_, by simp [l1], by simp [l2]⟩
  · obtain ⟨T, u, v, e1, e2, e3, e4, e5⟩ := y
    obtain ⟨d, q1, q2⟩ := g.1.all.getV (e4 xs g.1.at_)
    obtain ⟨e, q3, q4⟩ := g.2.all.getV (e5 ys g.2.at_)
    subst e1 e3
    exact ⟨Evo.new e2, _, pairsD_get q1 q3, pair_new hk e2 q2 q4⟩
theorem walkD_enumL {Θ : Wd} {a : Addr} {xs : List V} {ds : List PyData} (h1 : xs.length = ds.length) :
    WalkD Θ (Ite Θ.K a) (pairsD (rngD 0 ds.length) ds) (LstOk Θ a xs ds) := by
  refine ⟨fun M => ?_, fun M H H' g s => g.stay s, fun M H p g h => g.fresh h, fun M M' H g s => g.ls s⟩
  have el : (pairsD (rngD 0 ds.length) ds).length = xs.length := by rw [pairsD_len, rngD_len, Nat.min_self, h1]
  rw [el]
  have W := walk_enum (K := Θ.K) (a := a) (xs := xs)
  refine ⟨fun i H hi g => W.goes i H hi (.of g.at_), fun H g => W.stops H (.of g.at_), fun i H x H' hi g y hk => ?_⟩
  obtain ⟨T, u, v, e1, e2, e3, e4, e5⟩ := W.yields i H x H' hi (.of g.at_) y
  obtain ⟨d, q1, q2⟩ := g.all.getV e5
  subst e1 e3
  have eu : u = .int (i : Nat) := (Option.some.inj e4).symm
  subst eu
  refine ⟨Evo.new e2, _, pairsD_get (x := .int (i : Nat)) ?_ q1, pair_new hk e2 (.int _) q2⟩
  have : i < ds.length := by omega
  simp [rngD, this]

section
variable {Θ : Th} {M : List Addr} {Γ : Gm} {Ex : Xn → Prop} {Q : Sl → Prop} {P : List PyData → Prop} {a b e tg : Expr} {es : List Expr} {pos p : Pos} {x : Str}
theorem i_list (h : dE Θ M e Γ Ex fun s => ∃ ds, s = .dat (.list ds) ∧ P ds) : dI Θ M tg e Γ Ex P := by
  intro X c σ H R E xr k
  refine wI_of (pi_list (pe X e)) (h X c σ H _ E xr fun v s H1 e1 ok q => ?_)
  obtain ⟨ds, rfl, q⟩ := q
  obtain ⟨a, xs, rfl, na, ha, da⟩ := dat_list ok
  exact ⟨a, rfl, ⟨xs, .of ha⟩, by rw [c.K]; exact k _ H1 ds _ e1 q (walkD_list da.length) ⟨na, ha, da⟩⟩
theorem i_tup (h : dE Θ M e Γ Ex fun s => ∃ ds, s = .dat (.tuple ds) ∧ P ds) : dI Θ M tg e Γ Ex P := by
  intro X c σ H R E xr k
  refine wI_of (pi_tup (pe X e)) (h X c σ H _ E xr fun v s H1 e1 ok q => ?_)
  obtain ⟨ds, rfl, q⟩ := q
  obtain ⟨a, xs, rfl, ha, da⟩ := dat_tup ok
  exact ⟨a, rfl, ⟨xs, by rw [c.K]; exact ha⟩, by rw [c.K]; exact k _ H1 ds _ e1 q (walkD_tup da.length) ⟨ha, da⟩⟩
theorem i_rng1 (hg : Θ.sc.names.lookup ("range" : Str) = some .globalImplicit) (hm : Θ.mg "range" = none) (h : dE Θ M a Γ Ex fun s => ∃ n : Int, s = .dat (.int n) ∧ -(2 ^ 62) ≤ n ∧ n < 2 ^ 62 ∧ P (rngD 0 n.toNat))
    (hs : ∀ env, starEach [a] env = [(false, eval a env)] := by intro _; rfl) (hs2 : ∀ env, starEach (a :: []) env = (false, eval a env) :: starEach [] env := by intro _; rfl) : dI Θ M tg (.Call (.Name "range" p) [a] [] pos) Γ Ex P := by
  intro X c σ H R E xr k
  refine wI_of (pi_range1 (gl_of c hg) (by rw [c.mg]; exact hm) (pa_cons (pe X a) pa_nil (hs2 _)) (hs _)) (h X c σ H _ E xr fun v s H1 e1 ok q => ?_)
  obtain ⟨n, rfl, h1, h2, q⟩ := q
  rw [dat_int ok]
  exact ⟨n, rfl, h1, h2, k _ H1 _ _ e1 q walkD_rng True.intro⟩
theorem i_rng2 (hg : Θ.sc.names.lookup ("range" : Str) = some .globalImplicit) (hm : Θ.mg "range" = none) (h : dE Θ M a Γ Ex fun s => dE Θ M b Γ Ex fun t => ∃ i j : Int, s = .dat (.int i) ∧ t = .dat (.int j) ∧ (-(2 ^ 62) ≤ i ∧ i < 2 ^ 62 ∧ -(2 ^ 62) ≤ j ∧ j < 2 ^ 62) ∧ P (rngD i (j - i).toNat))
    (hs : ∀ env, starEach [a, b] env = [(false, eval a env), (false, eval b env)] := by intro _; rfl) (hs2 : ∀ env, starEach (b :: []) env = (false, eval b env) :: starEach [] env := by intro _; rfl) : dI Θ M tg (.Call (.Name "range" p) [a, b] [] pos) Γ Ex P := by
  intro X c σ H R E xr k
  refine wI_of (pi_range2 (gl_of c hg) (by rw [c.mg]; exact hm) (pa_cons (pe X a) (pa_cons (pe X b) pa_nil (hs2 _)) (by rw [hs, hs2]; rfl)) (hs _) (hs2 _)) (h X c σ H _ E xr fun v s H1 e1 ok q => q X c σ H1 _ (E.evo e1) (xr.evo e1) fun w t H2 e2 ok2 q2 => ?_)
  obtain ⟨i, j, rfl, rfl, hb, q⟩ := q2
  rw [dat_int ok, dat_int ok2]
  exact ⟨i, j, rfl, hb, k _ H2 _ _ (e1.trans e2) q walkD_rng True.intro⟩
theorem i_zip {elts : List Expr} {kk : Nat} {tpos : Pos} (hg : Θ.sc.names.lookup ("zip" : Str) = some .globalImplicit) (hm : Θ.mg "zip" = none) (h : dE Θ M a Γ Ex fun s => dE Θ M b Γ Ex fun t => (∃ ds es, s = .dat (.list ds) ∧ t = .dat (.list es) ∧ P (pairsD ds es)) ∨ ∃ ds es, s = .dat (.tuple ds) ∧ t = .dat (.tuple es) ∧ P (pairsD ds es))
    (hs : ∀ env, starEach [a, b] env = (false, eval a env) :: starEach [b] env := by intro _; rfl) (hs2 : ∀ env, starEach (b :: []) env = (false, eval b env) :: starEach [] env := by intro _; rfl) (hpl : ∀ env, (backTo pos (starEach [b] env)).any (·.1) = false := by intro _; rfl) :
    dI Θ M (.Tuple elts kk tpos) (.Call (.Name "zip" p) [a, b] [] pos) Γ Ex P := by
  intro X c σ H R E xr k
  refine wI_of (RZ.pi_zipA (gl_of c hg) (by rw [c.mg]; exact hm) (pa_cons (pe X a) (pa_cons (pe X b) pa_nil (hs2 _)) (hs _)) (hs _) (hpl _)) (h X c σ H _ E xr fun v s H1 e1 ok q => q X c σ H1 _ (E.evo e1) (xr.evo e1) fun w t H2 e2 ok2 q2 => ?_)
  have ok1 := ok.ev (E.hk.evo e1) e2
  rcases q2 with ⟨ds, es, rfl, rfl, q⟩ | ⟨ds, es, rfl, rfl, q⟩
  · obtain ⟨a, xs, rfl, na, ha, da⟩ := dat_list ok1
    obtain ⟨b, ys, rfl, nb, hb, db⟩ := dat_list ok2
    exact ⟨a, b, xs, ys, rfl, .inl ⟨.of ha, .of hb, by rw [c.K]; exact k _ H2 _ _ (e1.trans e2) q (walkD_zipL da.length db.length) ⟨⟨na, ha, da⟩, ⟨nb, hb, db⟩⟩⟩⟩
  · obtain ⟨a, xs, rfl, ha, da⟩ := dat_tup ok1
    obtain ⟨b, ys, rfl, hb, db⟩ := dat_tup ok2
    exact ⟨a, b, xs, ys, rfl, .inr ⟨by rw [c.K]; exact ha, by rw [c.K]; exact hb, by rw [c.K]; exact k _ H2 _ _ (e1.trans e2) q (walkD_zipT da.length db.length) ⟨⟨ha, da⟩, ⟨hb, db⟩⟩⟩⟩
theorem i_enumL {elts : List Expr} {kk : Nat} {tpos : Pos} (hg : Θ.sc.names.lookup ("enumerate" : Str) = some .globalImplicit) (hm : Θ.mg "enumerate" = none) (h : dE Θ M a Γ Ex fun s => ∃ ds, s = .dat (.list ds) ∧ P (pairsD (rngD 0 ds.length) ds))
    (hs : ∀ env, starEach [a] env = [(false, eval a env)] := by intro _; rfl) (hs2 : ∀ env, starEach (a :: []) env = (false, eval a env) :: starEach [] env := by intro _; rfl) : dI Θ M (.Tuple elts kk tpos) (.Call (.Name "enumerate" p) [a] [] pos) Γ Ex P := by
  intro X c σ H R E xr k
  refine wI_of (pi_enum (gl_of c hg) (by rw [c.mg]; exact hm) (pa_cons (pe X a) pa_nil (hs2 _)) (hs _)) (h X c σ H _ E xr fun v s H1 e1 ok q => ?_)
  obtain ⟨ds, rfl, q⟩ := q
  obtain ⟨a, xs, rfl, na, ha, da⟩ := dat_list ok
  exact ⟨a, xs, rfl, .of ha, by rw [c.K]; exact k _ H1 _ _ e1 q (walkD_enumL da.length) ⟨na, ha, da⟩⟩

/-! ### targets -/
@[irreducible] def wG (X : Cx) (tg : Expr) : TG := fun v σ H Q => ∀ pins s u, Inv X pins σ H s → RelV v u → wpAny (model X.prog X.w) X.A (assign tg X.env u) (fun _ s' => ∃ σ' H', Inv X pins σ' H' s' ∧ Q σ' H') X.xe s
theorem pg (X : Cx) (tg : Expr) : PG X tg (wG X tg) := ⟨fun pins s _ _ _ u _ I r h => by unfold wG at h; exact h pins s u I r⟩
theorem wG_of {X : Cx} {tg : Expr} {t : TG} {v : V} {σ : L2.St} {H : Hp} {Q : L2.St → Hp → Prop} (h : PG X tg t) (q : t v σ H Q) : wG X tg v σ H Q := by unfold wG; exact fun pins s u I r => h.run pins s σ H v u Q I r q
@[irreducible] def wGs (X : Cx) (ts : List Expr) : TGs := fun vs σ H Q => ∀ pins s us, Inv X pins σ H s → Vals vs us → wpAny (model X.prog X.w) X.A (assignInOrder ((assignEach ts X.env).map (·.2)) us) (fun _ s' => ∃ σ' H', Inv X pins σ' H' s' ∧ Q σ' H') X.xe s
theorem pgs (X : Cx) (ts : List Expr) : PGs X ts (wGs X ts) := ⟨fun pins s _ _ _ us _ I r h => by unfold wGs at h; exact h pins s us I r⟩
theorem wGs_of {X : Cx} {tg : List Expr} {t : TGs} {v : List V} {σ : L2.St} {H : Hp} {Q : L2.St → Hp → Prop} (h : PGs X tg t) (q : t v σ H Q) : wGs X tg v σ H Q := by unfold wGs; exact fun pins s u I r => h.run pins s σ H v u Q I r q
/-- a target takes data; is: the slots that it sets -/
def dG (Θ : Th) (M : List Addr) (tg : Expr) (s : Sl) (Γ : Gm) (is : List Nat) (G : Gm → Prop) : Prop :=
  ∀ X, Cpt Θ X → ∀ (v : V) (σ : L2.St) (H : Hp) (R : L2.St → Hp → Prop), EnvOk Θ.W M Γ σ H → SlOk Θ.W M H v s → (∀ Γ' σ', EnvOk Θ.W M Γ' σ' H → (∀ vs : List Nat, (∀ i ∈ is, i ∈ vs) → wipe σ' vs = wipe σ vs) → G Γ' → R σ' H) → wG X tg v σ H R
def dGs (Θ : Th) (M : List Addr) (ts : List Expr) (ss : List Sl) (Γ : Gm) (is : List Nat) (G : Gm → Prop) : Prop :=
  ∀ X, Cpt Θ X → ∀ (v : List V) (σ : L2.St) (H : Hp) (R : L2.St → Hp → Prop), EnvOk Θ.W M Γ σ H → SlsOk Θ.W M H v ss → (∀ Γ' σ', EnvOk Θ.W M Γ' σ' H → (∀ vs : List Nat, (∀ i ∈ is, i ∈ vs) → wipe σ' vs = wipe σ vs) → G Γ' → R σ' H) → wGs X ts v σ H R
theorem wipe_set {σ : L2.St} {i : Nat} {o : Option V} : ∀ {vs : List Nat}, i ∈ vs → wipe (σ.set i o) vs = wipe σ vs
  | v :: vs, h => by
    show (wipe (σ.set i o) vs).set v none = (wipe σ vs).set v none
    by_cases hv : i ∈ vs
    · rw [wipe_set hv]
    · have e : i = v := by
        rcases List.mem_cons.mp h with z | z
        · exact z
        · exact absurd z hv
      subst e
      have key : ∀ ws : List Nat, i ∉ ws → wipe (σ.set i o) ws = (wipe σ ws).set i o := by
        intro ws
        induction ws with
        | nil => intro _; rfl
        | cons w ws ih =>
          intro hn
          have h1 : i ≠ w := fun z => hn (by rw [z]; exact List.mem_cons_self)
          have h2 : i ∉ ws := fun z => hn (List.mem_cons_of_mem _ z)
          show (wipe (σ.set i o) ws).set w none = ((wipe σ ws).set w none).set i o
          rw [ih h2, List.set_comm _ _ h1]
      rw [key vs hv, List.set_set]
theorem EnvOk.set {σ : L2.St} {H : Hp} {i : Nat} {s : Sl} {v : V} (E : EnvOk Θ.W M Γ σ H) (h : SlOk Θ.W M H v s) : EnvOk Θ.W M (Γ.set i (some s)) (σ.set i (some v)) H where
  good := E.good
  len := by rw [List.length_set, List.length_set]; exact E.len
  bM := E.bM
  trk := E.trk
  at_ := fun j t hj => by
    by_cases hij : i = j
    · subst hij
      have hl : i < Γ.length := by
        have q := (List.getElem?_eq_some_iff.mp hj).1
        rwa [List.length_set] at q
      rw [List.getElem?_set_self hl] at hj
      cases hj
      exact ⟨v, List.getElem?_set_self (by rw [E.len]; exact hl), h⟩
    · rw [List.getElem?_set_ne hij] at hj
      obtain ⟨w, h1, h2⟩ := E.at_ j t hj
      exact ⟨w, by rw [List.getElem?_set_ne hij]; exact h1, h2⟩
theorem g_name {i : Nat} {s : Sl} {G : Gm → Prop} (hN : Θ.N[i]? = some x) (hx : Loc Θ.sc x) (hf : Θ.full = true ∨ Θ.sc.names.lookup x = some .local) (hq : G (Γ.set i (some s))) : dG Θ M (.Name x pos) s Γ [i] G := by
  intro X c v σ H R E ok k
  have hL : Loc X.env.scope x := by rw [c.sc]; exact hx
  exact wG_of (pg_name (i := i) c.nd (by rw [c.N]; exact hN) hL (hf.elim (fun z => .inl (c.cel z x)) (fun z => .inr (by rw [c.sc]; exact z)))) (k _ _ (E.set ok) (fun vs h => wipe_set (h i (by simp))) hq)
theorem gs_nil {G : Gm → Prop} (h : G Γ) : dGs Θ M [] [] Γ [] G := by
  intro X c v σ H R E ok k
  cases ok
  exact wGs_of pgs_nil ⟨rfl, k Γ σ E (fun _ _ => rfl) h⟩
theorem gs_cons {s : Sl} {ss : List Sl} {is js : List Nat} {G : Gm → Prop} (h : dG Θ M e s Γ is fun Γ' => dGs Θ M es ss Γ' js G) (hs : ∀ env, (assignEach (e :: es) env).map (·.2) = assign e env :: (assignEach es env).map (·.2) := by intro _; rfl) : dGs Θ M (e :: es) (s :: ss) Γ (is ++ js) G := by
  intro X c v σ H R E ok k
  cases ok with
  | cons o1 o2 =>
    refine wGs_of (pgs_cons (pg X e) (pgs X es) (hs _)) ⟨_, _, rfl, h X c _ σ H _ E o1 fun Γ' σ' E' w q => ?_⟩
    exact q X c _ σ' H R E' o2 fun Γ2 σ2 E2 w2 q2 => k Γ2 σ2 E2 (fun vs hv => (w2 vs fun i hi => hv i (List.mem_append_right _ hi)).trans (w vs fun i hi => hv i (List.mem_append_left _ hi))) q2
theorem SlsOk.of_all {H : Hp} : ∀ {vs : List V} {ds : List PyData}, DvAll Θ.W.K M H vs ds → SlsOk Θ.W M H vs (ds.map Sl.dat)
  | _, [], h => by cases h; exact .nil
  | _, d :: ds, h => by
    cases h with
    | cons h1 h2 => exact .cons (.dat h1) (SlsOk.of_all h2)
theorem g_tup {k : Nat} {ds : List PyData} {is : List Nat} {G : Gm → Prop} (hl : ds.length = es.length) (h : dGs Θ M es (ds.map Sl.dat) Γ is G) (hn : ∀ env, (assignEach es env).length = es.length := by intro _; rfl) (hst : ∀ env, (assignEach es env).findIdx? (·.1) = none := by intro _; rfl) :
    dG Θ M (.Tuple es k pos) (.dat (.tuple ds)) Γ is G := by
  intro X c v σ H R E ok kk
  obtain ⟨a, xs, rfl, ha, da⟩ := dat_tup ok
  exact wG_of (pg_tup (n := es.length) c.calm (pgs X es) (hn _) (hst _)) ⟨a, xs, rfl, by rw [c.K]; exact ha, by rw [da.length]; exact hl, h X c xs σ H R E (SlsOk.of_all da) kk⟩
end
end Dl
set_option Elab.async false
set_option linter.all false
set_option maxRecDepth 100000
set_option maxHeartbeats 2000000
set_option autoImplicit false
namespace Dl
open PySem PySem.Spec PyProof.Rows L2

/-! ### sizes: what the heap holds is no longer than the line -/
def Lim (H : Hp) : Prop := ∀ a xs, H a = some (.lst xs) → xs.length ≤ sizeLine
theorem lim_of {X : Cx} {pins : List (Addr × Obj)} {σ : L2.St} {H : Hp} {s : Shared} (I : Inv X pins σ H s) : Lim H := fun a xs h => (I.hok a _ h).1
theorem wE_lim {X : Cx} {e : Expr} {σ : L2.St} {H : Hp} {Q : VK} (h : wE X e σ H fun v H' => Lim H' → Q v H') : wE X e σ H Q := by
  unfold wE at h ⊢
  exact fun pins s I => thn (h pins s I) fun u s' ⟨v, H', I', r, q⟩ => ⟨v, H', I', r, q (lim_of I')⟩
def TLim (X : Cx) (H : Hp) : Prop := ∀ a xs, SqT X.K H a xs → xs.length ≤ sizeLine
theorem wE_limT {X : Cx} {e : Expr} {σ : L2.St} {H : Hp} {Q : VK} (h : wE X e σ H fun v H' => TLim X H' → Q v H') : wE X e σ H Q := by
  unfold wE at h ⊢
  exact fun pins s I => thn (h pins s I) fun u s' ⟨v, H', I', r, q⟩ => ⟨v, H', I', r, q fun a xs h => (I'.tuple h).choose_spec.2.2⟩

section
variable {Θ : Th} {M : List Addr} {Γ : Gm} {Ex : Xn → Prop} {Q : Sl → Prop} {a b e tg iter elt : Expr} {es : List Expr} {pos p : Pos} {x : Str}
/-- a list, a tuple that an expression gives is no longer than the line -/
theorem d_lim (h : dE Θ M e Γ Ex fun s => (∀ ds, s = .dat (.list ds) ∨ s = .dat (.tuple ds) → ds.length ≤ sizeLine) → Q s) : dE Θ M e Γ Ex Q := by
  intro X c σ H R E xr k
  refine wE_lim (wE_limT (h X c σ H _ E xr fun v s H1 e1 ok q tl l => k v s H1 e1 ok (q fun ds hs => ?_)))
  rcases hs with rfl | rfl
  · obtain ⟨a, xs, rfl, na, ha, da⟩ := dat_list ok
    rw [← da.length]
    exact l a xs ha
  · obtain ⟨a, xs, rfl, ha, da⟩ := dat_tup ok
    rw [← da.length]
    exact tl a xs (by rw [c.K]; exact ha)

/-! ### list comprehensions -/
def relS (sc scope : Scope) : Scope := { scope with names := scope.names.map fun (n, k) => if (k == NameKind.free && sc.kind == .function && sc.names.lookup n == some .cell) then (n, NameKind.cell) else (n, k) }
def Th.blk (Θ : Th) (scope : Scope) : Th := { Θ with sc := relS Θ.sc scope, own := none, full := false, cl := fun x => scope.names.lookup x == some .cell }
theorem Cpt.blk {X : Cx} (c : Cpt Θ X) (s : Shared) (H : Hp) (scope : Scope) (C : Addr) (cl : List (Str × Addr)) (fp : List Addr) : Cpt (Θ.blk scope) (X.blk s H scope (compEnvC scope cl C X.env) fp) where
  prog := c.prog
  w := c.w
  K := c.K
  mg := c.mg
  base := c.base
  N := c.N
  sc := by
    show relabel scope X.env = relS Θ.sc scope
    rw [← c.sc]
    rfl
  room := c.room
  calm := c.calm
  nd := c.nd
  cel := fun h => by cases h
  pas := PassesOwn.never
  own := fun q h => by cases h
  stk := fun h => by cases h
  clo := fun x h => h
def wipeG (Γ : Gm) : List Nat → Gm
  | [] => Γ
  | v :: vs => (wipeG Γ vs).set v none
theorem EnvOk.wipe {W : Wd} {σ : L2.St} {H : Hp} (E : EnvOk W M Γ σ H) : ∀ vs : List Nat, EnvOk W M (wipeG Γ vs) (L2.wipe σ vs) H
  | [] => E
  | v :: vs => by
    have E' := EnvOk.wipe E vs
    refine ⟨E'.good, ?_, E'.bM, E'.trk, fun i s h => ?_⟩
    · show ((L2.wipe σ vs).set v none).length = ((wipeG Γ vs).set v none).length
      rw [List.length_set, List.length_set]
      exact E'.len
    · have h' : ((wipeG Γ vs).set v none)[i]? = some (some s) := h
      by_cases hi : v = i
      · subst hi
        have hl : v < (wipeG Γ vs).length := by
          have q := (List.getElem?_eq_some_iff.mp h').1
          rwa [List.length_set] at q
        rw [List.getElem?_set_self hl] at h'
        cases h'
      · rw [List.getElem?_set_ne hi] at h'
        obtain ⟨w, h1, h2⟩ := E'.at_ i s h'
        exact ⟨w, by show ((L2.wipe σ vs).set v none)[i]? = _; rw [List.getElem?_set_ne hi]; exact h1, h2⟩
/-- a fresh list is put aside -/
theorem SlOk.fresh {W : Wd} {H : Hp} {p : Addr} (hp : H p = none) {v : V} {s : Sl} (h : SlOk W M H v s) : SlOk W (p :: M) H v s := by
  cases h with
  | dat h => exact .dat (Dv.fresh hp _ _ h)
  | own h1 h2 h3 h4 => exact .own (List.mem_cons_of_mem _ h1) h2 h3 (DvAll.fresh hp _ _ h4)
  | bag => exact .bag
  | fn f => exact .fn f
  | ty n => exact .ty n
  | kn h1 h2 => exact .kn h1 h2
theorem EnvOk.aside {W : Wd} {σ : L2.St} {H : Hp} {p : Addr} {xs : List V} (E : EnvOk W M Γ σ H) (hp : H p = none) : EnvOk W (p :: M) Γ σ (upd H p (.lst xs)) := by
  have e : Evo W H (upd H p (.lst xs)) := Evo.new hp
  have E1 := E.evo e
  refine ⟨E1.good, E1.len, List.mem_cons_of_mem _ E.bM, fun m hm => ?_, fun i s h => ?_⟩
  · rcases List.mem_cons.mp hm with rfl | hm
    · exact ⟨xs, upd_same⟩
    · exact E1.trk m hm
  · obtain ⟨v, h1, h2⟩ := E.at_ i s h
    have hk : Hk W M H := E.hk
    refine ⟨v, h1, ?_⟩
    have h3 := h2.fresh hp
    have st : Stay (p :: M) H (upd H p (.lst xs)) := (hk.stay e).more fun a ha => List.mem_cons_of_mem _ ha
    cases h3 with
    | dat hd => exact .dat (Dv.stay st _ _ hd)
    | own q1 q2 q3 q4 => exact .own q1 q2 (e.keep _ _ q3 q2 (fun _ z => by cases z)) (DvAll.stay st _ _ q4)
    | bag => exact .bag
    | fn f => exact .fn f
    | ty n => exact .ty n
    | kn z1 z2 => exact .kn z1 (z1 _ _ (fun a o h n t => st a o h (fun _ => n) t) z2)
/-- the list put aside is written -/
theorem EnvOk.wrote {W : Wd} {σ : L2.St} {H : Hp} {p : Addr} {xs ys : List V} (E : EnvOk W (p :: M) Γ σ H) (hp : H p = some (.lst ys)) (hn : p ≠ W.b) (hq : p ≠ W.q) (no : ∀ (i : Nat) (ds : List PyData), Γ[i]? ≠ some (some (.own p ds))) : EnvOk W (p :: M) Γ σ (upd H p (.lst xs)) := by
  have st : Stay (p :: M) H (upd H p (.lst xs)) := fun a o h n t => by
    by_cases ha : a = p
    · subst ha
      rw [hp] at h
      cases h
      exact absurd rfl (n List.mem_cons_self ys)
    · rw [upd_ne ha]
      exact h
  refine ⟨⟨?_, ?_⟩, E.len, E.bM, fun m hm => ?_, fun i s h => ?_⟩
  · obtain ⟨x, y, z, h1, hx⟩ := E.good.bag.at_
    exact ⟨⟨x, y, z, by rw [upd_ne hn.symm]; exact h1, hx⟩, by rw [upd_ne hq.symm]; exact E.good.bag.cells, E.good.bag.ne, E.good.bag.pos, E.good.bag.few⟩
  · exact Stay.tabs E.good.tabs fun a o h n => by rw [upd_ne (fun z => by rw [z, hp] at h; exact n ys (Option.some.inj h).symm)]; exact h
  · by_cases hmp : m = p
    · subst hmp
      exact ⟨xs, upd_same⟩
    · obtain ⟨zs, hz⟩ := E.trk m hm
      exact ⟨zs, by rw [upd_ne hmp]; exact hz⟩
  · obtain ⟨v, h1, h2⟩ := E.at_ i s h
    refine ⟨v, h1, ?_⟩
    cases h2 with
    | dat hd => exact .dat (Dv.stay st _ _ hd)
    | @own a zs ds q1 q2 q3 q4 =>
      have ha : a ≠ p := fun z => no i ds (by rw [h, z])
      exact .own q1 q2 (by rw [upd_ne ha]; exact q3) (DvAll.stay st _ _ q4)
    | bag => exact .bag
    | fn f => exact .fn f
    | ty n => exact .ty n
    | kn z1 z2 => exact .kn z1 (z1 _ _ (fun a o h n t => st a o h (fun _ => n) t) z2)

def blkX (X : Cx) (scope : Scope) (s : Shared) (H : Hp) (C : Addr) (cl : List (Str × Addr)) (fp : List Addr) : Cx := X.blk s H scope (compEnvC scope cl C X.env) fp
/-- no own list in the slots -/
def NoOwn (Γ : Gm) (p : Addr) : Prop := ∀ (i : Nat) (ds : List PyData), Γ[i]? ≠ some (some (.own p ds))
theorem EnvOk.noOwn {W : Wd} {σ : L2.St} {H : Hp} (E : EnvOk W M Γ σ H) {p : Addr} (hp : H p = none) : NoOwn Γ p := fun i ds h => by
  obtain ⟨v, h1, h2⟩ := E.at_ i _ h
  cases h2 with
  | own q1 q2 q3 q4 =>
    rw [hp] at q3
    cases q3
theorem NoOwn.wipe {p : Addr} (h : NoOwn Γ p) : ∀ vs : List Nat, NoOwn (wipeG Γ vs) p
  | [] => h
  | v :: vs => fun i ds q => by
    have q' : ((wipeG Γ vs).set v none)[i]? = some (some (.own p ds)) := q
    by_cases hi : v = i
    · subst hi
      have hl : v < (wipeG Γ vs).length := by
        have z := (List.getElem?_eq_some_iff.mp q').1
        rwa [List.length_set] at z
      rw [List.getElem?_set_self hl] at q'
      cases q'
    · rw [List.getElem?_set_ne hi] at q'
      exact NoOwn.wipe h vs i ds q'
theorem wipe_wipe {σ : L2.St} {vs : List Nat} : ∀ ws : List Nat, (∀ i ∈ ws, i ∈ vs) → L2.wipe (L2.wipe σ ws) vs = L2.wipe σ vs
  | [], _ => rfl
  | w :: ws, h => by
    show L2.wipe ((L2.wipe σ ws).set w none) vs = _
    rw [wipe_set (h w List.mem_cons_self)]
    exact wipe_wipe ws fun i hi => h i (List.mem_cons_of_mem _ hi)
/-- a fresh list by a comprehension: its readings, and what holds of the new list -/
def LcO (Θ : Th) (M : List Addr) (elt tg iter : Expr) (ifs : List Expr) (scope : Scope) (Γ : Gm) (Ex : Xn → Prop) (Q : List PyData → Prop) : Prop :=
  ∀ X, Cpt Θ X → ∀ (σ : L2.St) (H : Hp) (R : VK), EnvOk Θ.W M Γ σ H → XR Θ X M H Ex σ →
    (∀ D xs ds H', H D = none → Evo Θ.W H H' → H' D = some (.lst xs) → DvAll Θ.W.K (D :: M) H' xs ds → Q ds → R (.ref D) H') →
    ∃ (wi : TI) (g : TG) (tt : TT) (te : TE) (own : List (Str × Nat)), PI X tg iter wi ∧ BlkOk X.N X.env.scope scope own ∧
      (∀ (s : Shared) (H : Hp) (C : Addr) (cl : List (Str × Addr)) (fp : List Addr), PG (X.blk s H scope (compEnvC scope cl C X.env) fp) tg g) ∧
      (∀ (s : Shared) (H : Hp) (C : Addr) (cl : List (Str × Addr)) (fp : List Addr), PTs (X.blk s H scope (compEnvC scope cl C X.env) fp) ifs tt) ∧
      (∀ (s : Shared) (H : Hp) (C : Addr) (cl : List (Str × Addr)) (fp : List Addr), PE (X.blk s H scope (compEnvC scope cl C X.env) fp) elt te) ∧
      tLc wi g tt te (own.map (·.2)) σ H R
theorem d_ofLc {ifs : List Expr} {scope : Scope} {Q' : List PyData → Prop} (h : LcO Θ M elt tg iter ifs scope Γ Ex Q') (hq : ∀ ds, Q' ds → Q (.dat (.list ds)))
    (hs : ∀ env x, foldedSetIterable iter env x = pure x := by intro _ _; rfl) : dE Θ M (.ListComp elt [⟨tg, iter, ifs, 0⟩] scope pos) Γ Ex Q := by
  intro X c σ H R E xr k
  obtain ⟨wi, g, tt, te, own, h1, h2, h3, h4, h5, h6⟩ := h X c σ H R E xr fun D xs ds H' hD e hH da q => k _ _ H' e (.dat (.lst (E.hk.nin hD) hH (DvAll.less (fun a ha => List.mem_cons_of_mem _ ha) _ _ da))) (hq ds q)
  exact wE_of (pe_lc c.calm c.nd h1 h2 h3 h4 h5 (hs _)) h6
/-- the core: A tells, behind i turns, which lists may have been made -/
theorem l_A {QL : List PyData → Prop} {ifs : List Expr} {scope : Scope} {own : List (Str × Nat)} {is : List Nat} (T1 : Cx → TT)
    (ok : blkC Θ.N Θ.sc scope own = true) (his : ∀ i ∈ is, i ∈ own.map (·.2))
    (hT : ∀ X, Cpt Θ X → ∀ (s : Shared) (H : Hp) (C : Addr) (cl : List (Str × Addr)) (fp : List Addr), PTs (X.blk s H scope (compEnvC scope cl C X.env) fp) ifs (T1 X))
    (h : dI Θ M tg iter Γ Ex fun ds => ∃ A : Nat → List PyData → Prop, ds.length ≤ sizeLine ∧ A 0 [] ∧
      (∀ (D : Addr) (i : Nat) (d : PyData) (acc : List PyData), ds[i]? = some d → A i acc → dG (Θ.blk scope) (D :: M) tg (.dat d) (wipeG Γ (own.map (·.2))) is fun Γ' =>
        ∀ X, Cpt Θ X → ∀ (σ : L2.St) (H : Hp) (R : Bool → Hp → Prop), EnvOk Θ.W (D :: M) Γ' σ H → (∀ b H', Evo Θ.W H H' → (b = true → dE (Θ.blk scope) (D :: M) elt Γ' (fun _ => False) fun y => ∃ z, y = .dat z ∧ A (i + 1) (acc ++ [z])) → (b = false → A (i + 1) acc) → R b H') → T1 X σ H R) ∧
      (∀ acc, A ds.length acc → acc.length ≤ sizeLine → QL acc)) : LcO Θ M elt tg iter ifs scope Γ Ex QL := by
  intro X c σ H R E xr k
  have okb : BlkOk X.N X.env.scope scope own := by rw [c.N, c.sc]; exact blkOk_by ok
  refine ⟨wI X tg iter, fun v σ H Q => ∀ s0 H0 C cl fp, wG (X.blk s0 H0 scope (compEnvC scope cl C X.env) fp) tg v σ H Q, T1 X, fun σ H Q => ∀ s0 H0 C cl fp, wE (X.blk s0 H0 scope (compEnvC scope cl C X.env) fp) elt σ H Q, own,
    pi X tg iter, okb, (fun s0 H0 C cl fp => ⟨fun pins s σ H v u Q I r q => (pg _ _).run pins s σ H v u Q I r (q s0 H0 C cl fp)⟩), (hT X c), (fun s0 H0 C cl fp => ⟨fun pins s σ H Q I q => (pe _ _).run pins s σ H Q I (q s0 H0 C cl fp)⟩), ?_⟩
  refine h X c σ H _ E xr fun J H1 ds G e1 hP W hG => ?_
  obtain ⟨A, hlen, h0, hstep, hend⟩ := hP
  have E1 := E.evo e1
  intro D hD
  have nb : D ≠ Θ.W.b := fun z => by
    obtain ⟨xs, hx⟩ := E1.good.bag.lst
    rw [← z, hD] at hx
    cases hx
  have nq : D ≠ Θ.W.q := fun z => by
    have hx := E1.good.bag.cells
    rw [← z, hD] at hx
    cases hx
  have noD : NoOwn (wipeG Γ (own.map (·.2))) D := (E1.noOwn hD).wipe _
  refine lc_it (Y := fun i H x H' => Hk Θ.W (D :: M) H → Evo Θ.W H H' ∧ ∃ d, ds[i]? = some d ∧ Dv Θ.W.K (D :: M) H' x d) (G := G (D :: M)) (Qd := fun H => R (.ref D) H) (g := fun v σ H Q => ∀ s0 H0 C cl fp, wG (X.blk s0 H0 scope (compEnvC scope cl C X.env) fp) tg v σ H Q) (te := fun σ H Q => ∀ s0 H0 C cl fp, wE (X.blk s0 H0 scope (compEnvC scope cl C X.env) fp) elt σ H Q) (tt := T1 X) (vs := own.map (·.2)) (σ := σ) (D := D) (H1 := H1) (W.w (D :: M))
    (fun i H' => ∃ acc vacc, A i acc ∧ acc.length ≤ i ∧ H' D = some (.lst vacc) ∧ DvAll Θ.W.K (D :: M) H' vacc acc ∧ EnvOk Θ.W (D :: M) (wipeG Γ (own.map (·.2))) (L2.wipe σ (own.map (·.2))) H' ∧ G (D :: M) H' ∧ Evo Θ.W H1 H') ?_ (fun i H' _ q => by
      obtain ⟨acc, vacc, _, _, _, _, _, hG', _⟩ := q
      exact hG') (fun i x H2 H3 hi q y => ?_) (fun H2 q => ?_)
  · have st : Stay (D :: M) H1 (upd H1 D (.lst [])) := (E1.hk.stay (Evo.new hD)).more fun a ha => List.mem_cons_of_mem _ ha
    exact ⟨[], [], h0, Nat.le_refl _, upd_same, .nil, (E1.wipe _).aside hD, W.st _ _ _ (W.fr _ _ _ hG hD) st, Evo.new hD⟩
  · obtain ⟨acc, vacc, hA, hal, hDv, hda, hE, hG2, hev⟩ := q
    have hkD : Hk Θ.W (D :: M) H2 := hE.hk
    obtain ⟨ey, d, hd, hx⟩ := y hkD
    have hE3 := hE.evo ey
    have hD3 : H3 D = some (.lst vacc) := ey.keep _ _ hDv nb (fun _ z => by cases z)
    have hda3 := DvAll.stay (hkD.stay ey) _ _ hda
    have hG3 : G (D :: M) H3 := W.st _ _ _ hG2 (hkD.stay ey)
    have hev3 : Evo Θ.W H1 H3 := hev.trans ey
    intro s0 H0 C cl fp
    refine hstep D i d acc hd hA _ (c.blk s0 H0 scope C cl fp) x _ H3 _ hE3 (.dat hx) fun Γ' σ' E' hw q => ?_
    refine ⟨(hw _ his).trans (wipe_wipe _ fun _ z => z), q X c σ' H3 _ E' fun bb H4 e4 hy hno => ?_⟩
    have hE4 := hE3.evo e4
    have hD4 : H4 D = some (.lst vacc) := e4.keep _ _ hD3 nb (fun _ z => by cases z)
    have hda4 := DvAll.stay (hE3.hk.stay e4) _ _ hda3
    have hG4 : G (D :: M) H4 := W.st _ _ _ hG3 (hE3.hk.stay e4)
    have hev4 : Evo Θ.W H1 H4 := hev3.trans e4
    have hi' : i < ds.length := (List.getElem?_eq_some_iff.mp hd).1
    cases bb with
    | false => exact ⟨acc, vacc, hno rfl, Nat.le_succ_of_le hal, hD4, hda4, hE4, hG4, hev4⟩
    | true =>
      intro s5 H5 C5 cl5 fp5
      refine hy rfl _ (c.blk s5 H5 scope C5 cl5 fp5) σ' H4 _ (E'.evo e4) XR.none fun v s H6 e6 ok q6 => ?_
      obtain ⟨z, rfl, hA6⟩ := q6
      have hE6 := hE4.evo e6
      have hD6 : H6 D = some (.lst vacc) := e6.keep _ _ hD4 nb (fun _ z => by cases z)
      have hda6 := DvAll.stay (hE4.hk.stay e6) _ _ hda4
      have hG6 : G (D :: M) H6 := W.st _ _ _ hG4 (hE4.hk.stay e6)
      have hev6 : Evo Θ.W H1 H6 := hev4.trans e6
      have lv := hda6.length
      have st : Stay (D :: M) H6 (upd H6 D (.lst (vacc ++ [v]))) := fun a o h n t => by
        by_cases ha : a = D
        · subst ha
          rw [hD6] at h
          cases h
          exact absurd rfl (n List.mem_cons_self vacc)
        · rw [upd_ne ha]
          exact h
      exact ⟨vacc, hD6, by omega, acc ++ [z], vacc ++ [v], hA6, by rw [List.length_append]; simp; omega, upd_same, DvAll.stay st _ _ (hda6.append (.cons (dat_d ok) .nil)), hE6.wrote hD6 nb nq noD, W.st _ _ _ hG6 st, hev6.write hD hD6 E1.good⟩
  · obtain ⟨acc, vacc, hA, hal, hDv, hda, hE, hG2, hev⟩ := q
    exact k D _ _ H2 (e1.has _ hD) (e1.trans hev) hDv hda (hend acc hA (Nat.le_trans hal hlen))
theorem d_lcA {ifs : List Expr} {scope : Scope} {own : List (Str × Nat)} {is : List Nat} (T1 : Cx → TT)
    (ok : blkC Θ.N Θ.sc scope own = true) (his : ∀ i ∈ is, i ∈ own.map (·.2))
    (hT : ∀ X, Cpt Θ X → ∀ (s : Shared) (H : Hp) (C : Addr) (cl : List (Str × Addr)) (fp : List Addr), PTs (X.blk s H scope (compEnvC scope cl C X.env) fp) ifs (T1 X))
    (h : dI Θ M tg iter Γ Ex fun ds => ∃ A : Nat → List PyData → Prop, ds.length ≤ sizeLine ∧ A 0 [] ∧
      (∀ (D : Addr) (i : Nat) (d : PyData) (acc : List PyData), ds[i]? = some d → A i acc → dG (Θ.blk scope) (D :: M) tg (.dat d) (wipeG Γ (own.map (·.2))) is fun Γ' =>
        ∀ X, Cpt Θ X → ∀ (σ : L2.St) (H : Hp) (R : Bool → Hp → Prop), EnvOk Θ.W (D :: M) Γ' σ H → (∀ b H', Evo Θ.W H H' → (b = true → dE (Θ.blk scope) (D :: M) elt Γ' (fun _ => False) fun y => ∃ z, y = .dat z ∧ A (i + 1) (acc ++ [z])) → (b = false → A (i + 1) acc) → R b H') → T1 X σ H R) ∧
      (∀ acc, A ds.length acc → acc.length ≤ sizeLine → Q (.dat (.list acc))))
    (hs : ∀ env x, foldedSetIterable iter env x = pure x := by intro _ _; rfl) : dE Θ M (.ListComp elt [⟨tg, iter, ifs, 0⟩] scope pos) Γ Ex Q :=
  d_ofLc (l_A T1 ok his hT h) (fun _ q => q) hs
end
end Dl
set_option Elab.async false
set_option linter.all false
set_option maxRecDepth 100000
set_option maxHeartbeats 2000000
set_option autoImplicit false
namespace Dl
open PySem PySem.Spec PyProof.Rows L2

section
variable {Θ : Th} {M : List Addr} {Γ : Gm} {Ex : Xn → Prop} {Q : Sl → Prop} {P : List PyData → Prop} {a b e tg iter elt : Expr} {es : List Expr} {pos p : Pos} {x : Str}
theorem dE.mono {Q' : Sl → Prop} (h : dE Θ M e Γ Ex Q) (q : ∀ s, Q s → Q' s) : dE Θ M e Γ Ex Q' := fun X c σ H R E xr k => h X c σ H R E xr fun v s H' e' ok z => k v s H' e' ok (q s z)
theorem dI.mono {P' : List PyData → Prop} (h : dI Θ M tg iter Γ Ex P) (q : ∀ ds, P ds → P' ds) : dI Θ M tg iter Γ Ex P' := fun X c σ H R E xr k => h X c σ H R E xr fun J H1 ds G e1 z w g => k J H1 ds G e1 (q ds z) w g
/-! ### walks whose sizes are told -/
theorem i_listL (h : dE Θ M e Γ Ex fun s => ∃ ds, s = .dat (.list ds) ∧ (ds.length ≤ sizeLine → P ds)) : dI Θ M tg e Γ Ex P := i_list (d_lim (h.mono fun s ⟨ds, e, q⟩ l => ⟨ds, e, q (l ds (.inl e))⟩))
theorem i_tupL (h : dE Θ M e Γ Ex fun s => ∃ ds, s = .dat (.tuple ds) ∧ (ds.length ≤ sizeLine → P ds)) : dI Θ M tg e Γ Ex P := i_tup (d_lim (h.mono fun s ⟨ds, e, q⟩ l => ⟨ds, e, q (l ds (.inr e))⟩))
/-! ### comprehensions by a function, by a relation, with a test -/
theorem d_lc (f : PyData → PyData) {scope : Scope} {own : List (Str × Nat)} {is : List Nat} (ok : blkC Θ.N Θ.sc scope own = true) (his : ∀ i ∈ is, i ∈ own.map (·.2))
    (h : dI Θ M tg iter Γ Ex fun ds => ds.length ≤ sizeLine ∧ (∀ (D : Addr) (d : PyData), d ∈ ds → dG (Θ.blk scope) (D :: M) tg (.dat d) (wipeG Γ (own.map (·.2))) is fun Γ' => dE (Θ.blk scope) (D :: M) elt Γ' (fun _ => False) fun y => y = .dat (f d)) ∧ Q (.dat (.list (ds.map f))))
    (hs : ∀ env x, foldedSetIterable iter env x = pure x := by intro _ _; rfl) : dE Θ M (.ListComp elt [⟨tg, iter, [], 0⟩] scope pos) Γ Ex Q := by
  refine d_lcA (fun X => tYes) ok his (fun X c s H C cl fp => pts_nil) (h.mono fun ds ⟨h1, h2, h3⟩ => ⟨fun i acc => acc = (ds.take i).map f, h1, rfl, fun D i d acc hd hA => ?_, fun acc hA _ => ?_⟩) hs
  · intro X c v σ H R E ok k
    refine h2 D d (List.mem_of_getElem? hd) X c v σ H R E ok fun Γ' σ' E' hw q => k Γ' σ' E' hw fun X2 c2 σ2 H2 R2 E2 k2 => ?_
    refine k2 true H2 (Evo.refl _) (fun _ => dE.mono q fun s hs => ⟨f d, hs, ?_⟩) (fun z => by cases z)
    show acc ++ [f d] = (ds.take (i + 1)).map f
    rw [hA, List.take_add_one, hd, List.map_append]
    rfl
  · have hA' : acc = (ds.take ds.length).map f := hA
    rw [hA', List.take_length]
    exact h3
theorem d_lcR (r : PyData → PyData → Prop) {scope : Scope} {own : List (Str × Nat)} {is : List Nat} (ok : blkC Θ.N Θ.sc scope own = true) (his : ∀ i ∈ is, i ∈ own.map (·.2))
    (h : dI Θ M tg iter Γ Ex fun ds => ds.length ≤ sizeLine ∧ (∀ (D : Addr) (d : PyData), d ∈ ds → dG (Θ.blk scope) (D :: M) tg (.dat d) (wipeG Γ (own.map (·.2))) is fun Γ' => dE (Θ.blk scope) (D :: M) elt Γ' (fun _ => False) fun y => ∃ z, y = .dat z ∧ r d z) ∧
      (∀ zs, zs.length = ds.length → (∀ (i : Nat) (d z : PyData), ds[i]? = some d → zs[i]? = some z → r d z) → Q (.dat (.list zs))))
    (hs : ∀ env x, foldedSetIterable iter env x = pure x := by intro _ _; rfl) : dE Θ M (.ListComp elt [⟨tg, iter, [], 0⟩] scope pos) Γ Ex Q := by
  refine d_lcA (fun X => tYes) ok his (fun X c s H C cl fp => pts_nil) (h.mono fun ds ⟨h1, h2, h3⟩ => ⟨fun i acc => i ≤ ds.length → acc.length = i ∧ ∀ (j : Nat) (d z : PyData), ds[j]? = some d → acc[j]? = some z → r d z, h1, fun _ => ⟨rfl, fun j d z _ q => by simp at q⟩, fun D i d acc hd hA => ?_, fun acc hA _ => h3 acc (hA (Nat.le_refl _)).1 (hA (Nat.le_refl _)).2⟩) hs
  have hi : i < ds.length := (List.getElem?_eq_some_iff.mp hd).1
  obtain ⟨a1, a2⟩ := hA (Nat.le_of_lt hi)
  intro X c v σ H R E ok k
  refine h2 D d (List.mem_of_getElem? hd) X c v σ H R E ok fun Γ' σ' E' hw q => k Γ' σ' E' hw fun X2 c2 σ2 H2 R2 E2 k2 => ?_
  refine k2 true H2 (Evo.refl _) (fun _ => dE.mono q fun s ⟨z, hs, hr⟩ => ⟨z, hs, fun _ => ⟨by rw [List.length_append, a1]; rfl, fun j d' z' e1 e2 => ?_⟩⟩) (fun z => by cases z)
  by_cases hj : j < acc.length
  · rw [List.getElem?_append_left hj] at e2
    exact a2 j d' z' e1 e2
  · rw [List.getElem?_append_right (by omega)] at e2
    have e3 : j - acc.length = 0 := by
      cases q : j - acc.length with
      | zero => rfl
      | succ n => rw [q] at e2; simp at e2
    have e4 : j = i := by omega
    subst e4
    rw [hd] at e1
    cases e1
    rw [e3] at e2
    simp at e2
    rw [← e2]
    exact hr
theorem d_lcF (g : PyData → Bool) (f : PyData → PyData) {c0 : Expr} {scope : Scope} {own : List (Str × Nat)} {is : List Nat} (ok : blkC Θ.N Θ.sc scope own = true) (his : ∀ i ∈ is, i ∈ own.map (·.2))
    (h : dI Θ M tg iter Γ Ex fun ds => ds.length ≤ sizeLine ∧ (∀ (D : Addr) (d : PyData), d ∈ ds → dG (Θ.blk scope) (D :: M) tg (.dat d) (wipeG Γ (own.map (·.2))) is fun Γ' => dT (Θ.blk scope) (D :: M) c0 Γ' (fun _ => False) fun b => b = g d ∧ (b = true → dE (Θ.blk scope) (D :: M) elt Γ' (fun _ => False) fun y => y = .dat (f d))) ∧ Q (.dat (.list ((ds.filter g).map f))))
    (hs : ∀ env x, foldedSetIterable iter env x = pure x := by intro _ _; rfl) : dE Θ M (.ListComp elt [⟨tg, iter, [c0], 0⟩] scope pos) Γ Ex Q := by
  refine d_lcA (fun X => fun σ H R => ∀ s0 H0 C cl fp, wT (X.blk s0 H0 scope (compEnvC scope cl C X.env) fp) c0 σ H R) ok his (fun X c s H C cl fp => pts_one ⟨fun pins s' σ H' Q I q => (pt _ _).run pins s' σ H' Q I (q s H C cl fp)⟩) (h.mono fun ds ⟨h1, h2, h3⟩ => ⟨fun i acc => acc = ((ds.take i).filter g).map f, h1, rfl, fun D i d acc hd hA => ?_, fun acc hA _ => ?_⟩) hs
  · intro X c v σ H R E ok k
    refine h2 D d (List.mem_of_getElem? hd) X c v σ H R E ok fun Γ' σ' E' hw q => k Γ' σ' E' hw fun X2 c2 σ2 H2 R2 E2 k2 s0 H0 C cl fp => ?_
    refine q _ (c2.blk s0 H0 scope C cl fp) σ2 H2 R2 E2 XR.none fun b H' e' ⟨hb, hy⟩ => k2 b H' e' (fun hbt => dE.mono (hy hbt) fun s hs => ⟨f d, hs, ?_⟩) (fun hbf => ?_)
    · show acc ++ [f d] = ((ds.take (i + 1)).filter g).map f
      rw [hA, List.take_add_one, hd, List.filter_append, List.map_append]
      have : g d = true := by rw [← hb]; exact hbt
      simp [this]
    · show acc = ((ds.take (i + 1)).filter g).map f
      rw [hA, List.take_add_one, hd, List.filter_append, List.map_append]
      have : g d = false := by rw [← hb]; exact hbf
      simp [this]
  · have hA' : acc = ((ds.take ds.length).filter g).map f := hA
    rw [hA', List.take_length]
    exact h3

/-! ### built-in functions on data -/
theorem CallD.of {f : Value} {xs : List Sl} {r : Cx → List V → Hp → VK → Prop} (ho : ∀ X, Cpt Θ X → CallR X f (r X))
    (h : ∀ X, Cpt Θ X → ∀ (vs : List V) (H : Hp) (R : VK), Hk Θ.W M H → SlsOk Θ.W M H vs xs → (∀ z s H', Evo Θ.W H H' → SlOk Θ.W M H' z s → Q s → R z H') → r X vs H R) : CallD Θ M f xs Q :=
  fun X c vs H R hk ok k => wC_of (ho X c) (h X c vs H R hk ok k)
theorem c_lenL {ds : List PyData} (hq : Q (.dat (.int ds.length))) : CallD Θ M (.builtin "len") [.dat (.list ds)] Q :=
  CallD.of (fun X c => call_len_seq) fun X c vs H R hk ok k => by
    cases ok with
    | cons o1 o2 =>
      cases o2
      obtain ⟨a, xs, rfl, na, ha, da⟩ := dat_list o1
      exact ⟨a, xs, rfl, .inl (.of ha), k _ _ H (Evo.refl H) (.dat (.int _)) (by rw [da.length]; exact hq)⟩
theorem c_lenT {ds : List PyData} (hq : Q (.dat (.int ds.length))) : CallD Θ M (.builtin "len") [.dat (.tuple ds)] Q :=
  CallD.of (fun X c => call_len_seq) fun X c vs H R hk ok k => by
    cases ok with
    | cons o1 o2 =>
      cases o2
      obtain ⟨a, xs, rfl, ha, da⟩ := dat_tup o1
      exact ⟨a, xs, rfl, .inr (by rw [c.K]; exact ha), k _ _ H (Evo.refl H) (.dat (.int _)) (by rw [da.length]; exact hq)⟩
theorem c_lenO {a : Addr} {ds : List PyData} (hq : Q (.dat (.int ds.length))) : CallD Θ M (.builtin "len") [.own a ds] Q :=
  CallD.of (fun X c => call_len_seq) fun X c vs H R hk ok k => by
    cases ok with
    | cons o1 o2 =>
      cases o2
      cases o1 with
      | own h1 h2 h3 h4 => exact ⟨a, _, rfl, .inl (.of h3), k _ _ H (Evo.refl H) (.dat (.int _)) (by rw [h4.length]; exact hq)⟩
theorem c_lenS {z : Str} (hz : z.length ≤ sizeLine) (hq : Q (.dat (.int z.length))) : CallD Θ M (.builtin "len") [.dat (.str z)] Q :=
  CallD.of (fun X c => call_len_str) fun X c vs H R hk ok k => by
    cases ok with
    | cons o1 o2 =>
      cases o2
      rw [dat_str o1]
      exact ⟨z, rfl, hz, k _ _ H (Evo.refl H) (.dat (.int _)) hq⟩
theorem c_abs {i : Int} (hq : Q (.dat (.int (if i < 0 then -i else i)))) : CallD Θ M (.builtin "abs") [.dat (.int i)] Q :=
  CallD.of (fun X c => call_abs) fun X c vs H R hk ok k => by
    cases ok with
    | cons o1 o2 =>
      cases o2
      rw [dat_int o1]
      exact ⟨i, rfl, k _ _ H (Evo.refl H) (.dat (.int _)) hq⟩
theorem c_int {i : Int} (hq : Q (.dat (.int i))) : CallD Θ M (.type "int") [.dat (.int i)] Q :=
  CallD.of (fun X c => call_int1) fun X c vs H R hk ok k => by
    cases ok with
    | cons o1 o2 =>
      cases o2
      rw [dat_int o1]
      exact .inl ⟨i, rfl, k _ _ H (Evo.refl H) (.dat (.int _)) hq⟩
theorem all_bools {H : Hp} : ∀ {bs : List Bool} {vs : List V}, DvAll Θ.W.K M H vs (bs.map PyData.bool) → vs = bs.map V.bl
  | [], _, h => by cases h; rfl
  | b :: bs, _, h => by
    cases h with
    | cons h1 h2 =>
      cases h1
      rw [all_bools h2]
      rfl
theorem all_ints {H : Hp} : ∀ {ns : List Int} {vs : List V}, DvAll Θ.W.K M H vs (ns.map PyData.int) → vs = ns.map V.int
  | [], _, h => by cases h; rfl
  | b :: bs, _, h => by
    cases h with
    | cons h1 h2 =>
      cases h1
      rw [all_ints h2]
      rfl
theorem c_all {bs : List Bool} (hq : Q (.dat (.bool (bs.all id)))) : CallD Θ M (.builtin "all") [.dat (.list (bs.map PyData.bool))] Q :=
  CallD.of (fun X c => cr_all c.calm) fun X c vs H R hk ok k => by
    cases ok with
    | cons o1 o2 =>
      cases o2
      obtain ⟨a, xs, rfl, na, ha, da⟩ := dat_list o1
      rw [all_bools da] at ha
      exact ⟨a, bs, rfl, .of ha, k _ _ H (Evo.refl H) (.dat (.bl _)) hq⟩
theorem c_any {bs : List Bool} (hq : Q (.dat (.bool (bs.any id)))) : CallD Θ M (.builtin "any") [.dat (.list (bs.map PyData.bool))] Q :=
  CallD.of (fun X c => cr_any c.calm) fun X c vs H R hk ok k => by
    cases ok with
    | cons o1 o2 =>
      cases o2
      obtain ⟨a, xs, rfl, na, ha, da⟩ := dat_list o1
      rw [all_bools da] at ha
      exact ⟨a, bs, rfl, .of ha, k _ _ H (Evo.refl H) (.dat (.bl _)) hq⟩
/-- all([f(x) for x in ..]) as the comprehension gives it -/
theorem c_allF {ds : List PyData} {g : PyData → Bool} (hq : Q (.dat (.bool (ds.all g)))) : CallD Θ M (.builtin "all") [.dat (.list (ds.map fun d => PyData.bool (g d)))] Q := by
  have e : (ds.map fun d => PyData.bool (g d)) = (ds.map g).map PyData.bool := by rw [List.map_map]; rfl
  rw [e]
  refine c_all ?_
  rw [List.all_map]
  exact hq
theorem c_sumI {ns : List Int} (hq : Q (.dat (.int ns.sum))) : CallD Θ M (.builtin "sum") [.dat (.list (ns.map PyData.int))] Q :=
  CallD.of (fun X c => cr_sum c.calm) fun X c vs H R hk ok k => by
    cases ok with
    | cons o1 o2 =>
      cases o2
      obtain ⟨a, xs, rfl, na, ha, da⟩ := dat_list o1
      rw [all_ints da] at ha
      exact ⟨a, ns, rfl, .of ha, k _ _ H (Evo.refl H) (.dat (.int _)) hq⟩
theorem c_tupL {ds : List PyData} (hq : Q (.dat (.tuple ds))) : CallD Θ M (.type "tuple") [.dat (.list ds)] Q :=
  CallD.of (fun X c => call_tuple_of) fun X c vs H R hk ok k => by
    cases ok with
    | cons o1 o2 =>
      cases o2
      obtain ⟨a, xs, rfl, na, ha, da⟩ := dat_list o1
      exact ⟨a, xs, rfl, .inl ⟨.of ha, fun l hl => k _ _ _ (Evo.new hl) (new_tup hk hl da) hq⟩⟩
theorem c_tupT {ds : List PyData} (hq : Q (.dat (.tuple ds))) : CallD Θ M (.type "tuple") [.dat (.tuple ds)] Q :=
  CallD.of (fun X c => call_tuple_of) fun X c vs H R hk ok k => by
    cases ok with
    | cons o1 o2 =>
      cases o2
      have o3 := o1
      obtain ⟨a, xs, rfl, ha, da⟩ := dat_tup o1
      exact ⟨a, xs, rfl, .inr ⟨by rw [c.K]; exact ha, k _ _ H (Evo.refl H) o3 hq⟩⟩
theorem c_lstL {ds : List PyData} (hq : Q (.dat (.list ds))) : CallD Θ M (.type "list") [.dat (.list ds)] Q :=
  CallD.of (fun X c => call_list_of) fun X c vs H R hk ok k => by
    cases ok with
    | cons o1 o2 =>
      cases o2
      obtain ⟨a, xs, rfl, na, ha, da⟩ := dat_list o1
      exact ⟨a, xs, rfl, .inl (.of ha), fun l hl => k _ _ _ (Evo.new hl) (new_lst hk hl da) hq⟩
theorem c_lstT {ds : List PyData} (hq : Q (.dat (.list ds))) : CallD Θ M (.type "list") [.dat (.tuple ds)] Q :=
  CallD.of (fun X c => call_list_of) fun X c vs H R hk ok k => by
    cases ok with
    | cons o1 o2 =>
      cases o2
      obtain ⟨a, xs, rfl, ha, da⟩ := dat_tup o1
      exact ⟨a, xs, rfl, .inr (by rw [c.K]; exact ha), fun l hl => k _ _ _ (Evo.new hl) (new_lst hk hl da) hq⟩
/-! ### isinstance -/
def tyD : PyData → String
  | .none => "NoneType"
  | .bool _ => "bool"
  | .int _ => "int"
  | .str _ => "str"
  | .list _ => "list"
  | .tuple _ => "tuple"
  | .dict _ => "dict"
theorem tyX_of {K : PySem.W.Frag} {H : Hp} {v : V} {d : PyData} (h : Dv K M H v d) : TyX K H v (.type (tyD d)) := by
  cases h with
  | non => exact .base .non
  | bl b => exact .base (.bl b)
  | int i => exact .base (.int i)
  | str x => exact .base (.str x)
  | lst h1 h2 h3 => exact .base (.lst h2)
  | tup h1 h2 =>
    rcases h1 with (h1 | ⟨o, h1⟩) | ⟨o, its, n, h1, h3, _⟩
    · exact .base (.tup h1)
    · exact .fTuple h1
    · exact .kTuple h1 h3
def isTy (d : PyData) (n : String) : Bool := tyD d == n || (tyD d == "bool" && n == "int")
theorem c_isi {d : PyData} {n : String} (hn : ∀ K : PySem.W.Frag, PySem.W.kitOne K (.type (tyD d)) (.type n) = some (isTy d n)) (hq : Q (.dat (.bool (isTy d n)))) : CallD Θ M (.builtin "isinstance") [.dat d, .ty n] Q :=
  CallD.of (r := fun X => rIsi X.K) (fun X c => call_isi) fun X c vs H R hk ok k => by
    cases ok with
    | cons o1 o2 =>
      cases o2 with
      | cons o2 o3 =>
        cases o3
        cases o2
        exact ⟨_, _, .type (tyD d), .type n, isTy d n, rfl, .ty n, by rw [c.K]; exact tyX_of (dat_d o1), hn _, k _ _ H (Evo.refl H) (.dat (.bl _)) hq⟩
theorem kit_all {d : PyData} {n : String} (h : kitB "NoneType" n = some (isTy .none n) ∧ kitB "bool" n = some (isTy (.bool true) n) ∧ kitB "int" n = some (isTy (.int 0) n) ∧ kitB "str" n = some (isTy (.str Str.empty) n) ∧ kitB "list" n = some (isTy (.list []) n) ∧ kitB "tuple" n = some (isTy (.tuple []) n) ∧ kitB "dict" n = some (isTy (.dict []) n)) (K : PySem.W.Frag) :
    PySem.W.kitOne K (.type (tyD d)) (.type n) = some (isTy d n) := by
  obtain ⟨h1, h2, h3, h4, h5, h6, h7⟩ := h
  cases d with
  | none => exact kit_ty h1
  | bool b => exact kit_ty h2
  | int i => exact kit_ty h3
  | str x => exact kit_ty h4
  | list l => exact kit_ty h5
  | tuple l => exact kit_ty h6
  | dict l => exact kit_ty h7
theorem kit_int {d : PyData} (K : PySem.W.Frag) : PySem.W.kitOne K (.type (tyD d)) (.type "int") = some (isTy d "int") := kit_all ⟨by decide +kernel, by decide +kernel, by decide +kernel, by decide +kernel, by decide +kernel, by decide +kernel, by decide +kernel⟩ K
theorem kit_bool {d : PyData} (K : PySem.W.Frag) : PySem.W.kitOne K (.type (tyD d)) (.type "bool") = some (isTy d "bool") := kit_all ⟨by decide +kernel, by decide +kernel, by decide +kernel, by decide +kernel, by decide +kernel, by decide +kernel, by decide +kernel⟩ K
theorem kit_str {d : PyData} (K : PySem.W.Frag) : PySem.W.kitOne K (.type (tyD d)) (.type "str") = some (isTy d "str") := kit_all ⟨by decide +kernel, by decide +kernel, by decide +kernel, by decide +kernel, by decide +kernel, by decide +kernel, by decide +kernel⟩ K
theorem kit_tuple {d : PyData} (K : PySem.W.Frag) : PySem.W.kitOne K (.type (tyD d)) (.type "tuple") = some (isTy d "tuple") := kit_all ⟨by decide +kernel, by decide +kernel, by decide +kernel, by decide +kernel, by decide +kernel, by decide +kernel, by decide +kernel⟩ K
theorem kit_list {d : PyData} (K : PySem.W.Frag) : PySem.W.kitOne K (.type (tyD d)) (.type "list") = some (isTy d "list") := kit_all ⟨by decide +kernel, by decide +kernel, by decide +kernel, by decide +kernel, by decide +kernel, by decide +kernel, by decide +kernel⟩ K
theorem c_isInt {d : PyData} (hq : Q (.dat (.bool (isTy d "int")))) : CallD Θ M (.builtin "isinstance") [.dat d, .ty "int"] Q := c_isi kit_int hq
theorem c_isBool {d : PyData} (hq : Q (.dat (.bool (isTy d "bool")))) : CallD Θ M (.builtin "isinstance") [.dat d, .ty "bool"] Q := c_isi kit_bool hq
theorem c_isStr {d : PyData} (hq : Q (.dat (.bool (isTy d "str")))) : CallD Θ M (.builtin "isinstance") [.dat d, .ty "str"] Q := c_isi kit_str hq
theorem c_isTuple {d : PyData} (hq : Q (.dat (.bool (isTy d "tuple")))) : CallD Θ M (.builtin "isinstance") [.dat d, .ty "tuple"] Q := c_isi kit_tuple hq
theorem c_isList {d : PyData} (hq : Q (.dat (.bool (isTy d "list")))) : CallD Θ M (.builtin "isinstance") [.dat d, .ty "list"] Q := c_isi kit_list hq

/-! ### subscripts, slices -/
@[irreducible] def wX (X : Cx) (value slice : Expr) (v w : V) (H : Hp) (R : VK) : Prop :=
  ∀ (pins : List (Addr × Obj)) (s : Shared) (σ : L2.St) (u u' : Value), Inv X pins σ H s → RelV v u → RelV w u' → subscripted slice false u u' = operate [u, u'] (getItem u u') → wpAny (model X.prog X.w) X.A (subscriptTail value slice u u') (EP X pins σ R) X.xe s
theorem wX_of {X : Cx} {a b : Expr} {r : R2} (hr : IxR X r) {v w : V} {H : Hp} {R : VK} (h : r v w H R) : wX X a b v w H R := by unfold wX; exact fun pins s σ u u' I rx ry hs => hr a b pins s σ H v w u u' R I rx ry h hs
/-- by values: any subscript expression -/
def IxD (Θ : Th) (M : List Addr) (x y : Sl) (Q : Sl → Prop) : Prop :=
  ∀ X, Cpt Θ X → ∀ (v w : V) (H : Hp) (R : VK), Hk Θ.W M H → SlOk Θ.W M H v x → SlOk Θ.W M H w y → (∀ z s H', Evo Θ.W H H' → SlOk Θ.W M H' z s → Q s → R z H') → ∀ a b, wX X a b v w H R
theorem ixR_all {X : Cx} : IxR X (fun v w H R => ∀ a b, wX X a b v w H R) := fun value slice pins s σ H x y v u Q I rx ry q hs => by have z := q value slice; unfold wX at z; exact z pins s σ v u I rx ry hs
theorem d_ix (h : dE Θ M a Γ Ex fun x => dE Θ M b Γ Ex fun y => IxD Θ M x y Q) (hs : PlainIx b := by intro _ _; rfl) : dE Θ M (.Subscript a b pos) Γ Ex Q := by
  intro X c σ H R E xr k
  refine wE_of (pe_ix ixR_all (pe X a) (pe X b) hs) ?_
  refine h X c σ H _ E xr fun v s H1 e1 ok q => ?_
  refine q X c σ H1 _ (E.evo e1) (xr.evo e1) fun v2 s2 H2 e2 ok2 q2 => ?_
  exact q2 X c v v2 H2 R ((E.hk.evo e1).evo e2) (ok.ev (E.hk.evo e1) e2) ok2 fun z s H' e' ok' q' => k z s H' ((e1.trans e2).trans e') ok' q'
theorem atI_of {ds : List PyData} {vs : List V} {i : Int} {d : PyData} {H : Hp} (h : DvAll Θ.W.K M H vs ds) (e : atI ds i = some d) : ∃ v, atI vs i = some v ∧ Dv Θ.W.K M H v d := by
  unfold atI at e ⊢
  rw [h.length]
  cases q : ixN ds.length i with
  | none => rw [q] at e; cases e
  | some j =>
    rw [q] at e
    exact h.get e
theorem x_T {ds : List PyData} {i : Int} {d : PyData} (e : atI ds i = some d) (hq : Q (.dat d)) : IxD Θ M (.dat (.tuple ds)) (.dat (.int i)) Q := by
  intro X c v w H R hk h1 h2 k a b
  obtain ⟨ad, xs, rfl, ha, da⟩ := dat_tup h1
  obtain ⟨z, e1, e2⟩ := atI_of da e
  exact wX_of (ix_tup (X := X)) ⟨ad, xs, i, z, rfl, dat_int h2, by rw [c.K]; exact ha, e1, k _ _ H (Evo.refl H) (.dat e2) hq⟩
theorem x_L {ds : List PyData} {i : Int} {d : PyData} (e : atI ds i = some d) (hq : Q (.dat d)) : IxD Θ M (.dat (.list ds)) (.dat (.int i)) Q := by
  intro X c v w H R hk h1 h2 k a b
  obtain ⟨ad, xs, rfl, na, ha, da⟩ := dat_list h1
  obtain ⟨z, e1, e2⟩ := atI_of da e
  exact wX_of (ix_list (X := X)) ⟨ad, xs, i, z, rfl, dat_int h2, .of ha, e1, k _ _ H (Evo.refl H) (.dat e2) hq⟩
theorem x_O {ad : Addr} {ds : List PyData} {i : Int} {d : PyData} (e : atI ds i = some d) (hq : Q (.dat d)) : IxD Θ M (.own ad ds) (.dat (.int i)) Q := by
  intro X c v w H R hk h1 h2 k a b
  cases h1 with
  | own q1 q2 q3 q4 =>
    obtain ⟨z, e1, e2⟩ := atI_of q4 e
    exact wX_of (ix_list (X := X)) ⟨ad, _, i, z, rfl, dat_int h2, .of q3, e1, k _ _ H (Evo.refl H) (.dat e2) hq⟩
theorem x_S {z : Str} {i : Int} {ch : Nat} (hz : z.length ≤ sizeLine) (e : atI z.cps.toList i = some ch) (hq : Q (.dat (.str ⟨#[ch]⟩))) : IxD Θ M (.dat (.str z)) (.dat (.int i)) Q := by
  intro X c v w H R hk h1 h2 k a b
  rw [dat_str h1, dat_int h2]
  exact wX_of (ix_str (X := X)) ⟨z, i, ch, rfl, rfl, hz, e, k _ _ H (Evo.refl H) (.dat (.str _)) hq⟩
theorem atD {ds : List PyData} {n : Nat} {d : PyData} (h : ds[n]? = some d) : atI ds (n : Int) = some d := atI_nat h
@[irreducible] def wP (X : Cx) (e : Option Expr) : TO := fun σ H Q => ∀ pins s, Inv X pins σ H s → wpAny (model X.prog X.w) X.A (evalPart e X.env) (fun u s' => ∃ o H', Inv X pins σ H' s' ∧ IsPart u o ∧ Q o H') X.xe s
theorem po (X : Cx) (e : Option Expr) : PO X e (wP X e) := ⟨fun pins s _ _ _ I h => by unfold wP at h; exact h pins s I⟩
def dO (Θ : Th) (M : List Addr) (e : Option Expr) (Γ : Gm) (Ex : Xn → Prop) (T : Option Int → Prop) : Prop :=
  ∀ X, Cpt Θ X → ∀ (σ : L2.St) (H : Hp) (R : Option Int → Hp → Prop), EnvOk Θ.W M Γ σ H → XR Θ X M H Ex σ → (∀ b H', Evo Θ.W H H' → T b → R b H') → wP X e σ H R
theorem p_none {T : Option Int → Prop} (h : T none) : dO Θ M none Γ Ex T := fun X c σ H R E xr k => by unfold wP; exact fun pins s I => po_none.run pins s σ H R I (k none H (Evo.refl H) h)
theorem p_some {T : Option Int → Prop} (h : dE Θ M e Γ Ex fun x => ∃ i, x = .dat (.int i) ∧ T (some i)) : dO Θ M (some e) Γ Ex T := fun X c σ H R E xr k => by
  unfold wP
  exact fun pins s I => (po_some (pe X e)).run pins s σ H R I (h X c σ H _ E xr fun v s H1 e1 ok q => by
    obtain ⟨i, rfl, q⟩ := q
    exact ⟨i, dat_int ok, k _ H1 e1 q⟩)
/-- a slice's items -/
def cutD (xs : List PyData) (lo hi : Option Int) : List PyData := (xs.drop (HT.sIx xs.length 0 lo)).take (HT.sIx xs.length xs.length hi - HT.sIx xs.length 0 lo)
theorem cut_all {ds : List PyData} {vs : List V} {lo hi : Option Int} {H : Hp} (h : DvAll Θ.W.K M H vs ds) : DvAll Θ.W.K M H (cutV vs lo hi) (cutD ds lo hi) := by
  unfold cutV cutD
  rw [h.length]
  exact (h.drop _).take _
def SlD (Θ : Th) (M : List Addr) (x : Sl) (lo hi : Option Int) (Q : Sl → Prop) : Prop := (∃ ds, x = .dat (.list ds) ∧ Q (.dat (.list (cutD ds lo hi)))) ∨ ∃ ds, x = .dat (.tuple ds) ∧ Q (.dat (.tuple (cutD ds lo hi)))
theorem d_slice {lo hi : Option Expr} {p2 : Pos} (h : dE Θ M e Γ Ex fun x => dO Θ M lo Γ Ex fun l => dO Θ M hi Γ Ex fun u => SlD Θ M x l u Q) : dE Θ M (.Subscript e (.Slice lo hi none p2) pos) Γ Ex Q := by
  intro X c σ H R E xr k
  refine wE_of (pe_slice (SlR.or sl_list sl_tupA) (pe X e) (po X lo) (po X hi)) ?_
  refine h X c σ H _ E xr fun v s H1 e1 ok q => ?_
  refine q X c σ H1 _ (E.evo e1) (xr.evo e1) fun l H2 e2 q2 => ?_
  refine q2 X c σ H2 _ ((E.evo e1).evo e2) ((xr.evo e1).evo e2) fun u H3 e3 q3 => ?_
  have hk3 := ((E.hk.evo e1).evo e2).evo e3
  have ok3 := (ok.ev (E.hk.evo e1) e2).ev ((E.hk.evo e1).evo e2) e3
  rcases q3 with ⟨ds, rfl, q3⟩ | ⟨ds, rfl, q3⟩
  · obtain ⟨a, xs, rfl, na, ha, da⟩ := dat_list ok3
    exact .inl ⟨a, xs, rfl, .of ha, fun p hp => k _ _ _ (((e1.trans e2).trans e3).trans (Evo.new hp)) (new_lst hk3 hp (cut_all da)) q3⟩
  · have o4 := ok3
    obtain ⟨a, xs, rfl, ha, da⟩ := dat_tup ok3
    refine .inr ⟨a, xs, rfl, by rw [c.K]; exact ha, fun hall => ?_, fun _ p hp => k _ _ _ (((e1.trans e2).trans e3).trans (Evo.new hp)) (new_tup hk3 hp (cut_all da)) q3⟩
    have e : cutD ds l u = ds := by
      unfold cutD
      rw [da.length] at hall
      rw [hall.1, hall.2, List.drop_zero, Nat.sub_zero, List.take_length]
    rw [e] at q3
    exact k _ _ H3 ((e1.trans e2).trans e3) o4 q3
end
end Dl
set_option Elab.async false
set_option linter.all false
set_option maxRecDepth 100000
set_option maxHeartbeats 2000000
set_option autoImplicit false
namespace Dl
open PySem PySem.Spec PyProof.Rows L2

/-! ### what a def promises -/
structure Spec where
  α : Type
  arg : α → List Sl
  pre : α → Prop
  post : α → Sl → Prop
  exn : α → Xn → Prop := fun _ _ => False
def spOf (Θ : Gd) (S : Spec) : Sp := fun vs H Q E => ∃ (M : List Addr) (a : S.α), Hk Θ.W M H ∧ SlsOk Θ.W M H vs (S.arg a) ∧ S.pre a ∧ (∀ v s H', Evo Θ.W H H' → SlOk Θ.W M H' v s → S.post a s → Q v H') ∧ (∀ x cls d H', Evo Θ.W H H' → XnOk Θ M H' x cls d → S.exn a x → E cls d H')
/-- the def at f keeps S, by at most k levels -/
structure Has (Θ : Gd) (k : Nat) (f : Addr) (S : Spec) : Prop where
  ex : ∃ (fd : FuncData) (ps : List Str), FnOk Θ.P Θ.w Θ.W.K Θ.mg Θ.base (L2.CX Θ.P Θ.w) k f fd ps (spOf Θ S) ∧ Binds Θ.W.K fd ps []
  kp : PySem.W.keepIn Θ.W.K (.ref f) = true
section
variable {Θ : Th} {M : List Addr} {Γ : Gm} {Ex : Xn → Prop} {Q : Sl → Prop} {a b e tg iter elt : Expr} {es : List Expr} {pos p : Pos} {x : Str} {S : Spec} {j : Nat} {f : Addr}
theorem sp_call {X : Cx} {W : WX} {σ : L2.St} {vs : List V} {ss : List Sl} {H H1 : Hp} {R : VK} (E : EnvOk Θ.W M Γ σ H) (e1 : Evo Θ.W H H1) (ok : SlsOk Θ.W M H1 vs ss) (hW : ∀ x cls d H', Evo Θ.W H H' → XnOk Θ.g M H' x cls d → Ex x → W cls d σ H')
    (k : ∀ v s H', Evo Θ.W H H' → SlOk Θ.W M H' v s → Q s → R v H') (h : ∃ a, ss = S.arg a ∧ S.pre a ∧ (∀ s, S.post a s → Q s) ∧ (∀ x, S.exn a x → Ex x)) : spOf Θ.g S vs H1 R (fun cls d H' => W cls d σ H') := by
  obtain ⟨a, rfl, hp, hq, hx⟩ := h
  exact ⟨M, a, E.hk.evo e1, ok, hp, fun v s H' e' ok' q => k v s H' (e1.trans e') ok' (hq s q), fun x cls d H' e' ok' q => hW x cls d H' (e1.trans e') ok' (hx x q)⟩
theorem d_call (F : Has Θ.g j f S) (hj : j ≤ Θ.k) (hg : Θ.sc.names.lookup x = some .globalImplicit) (hm : Θ.mg x = some (.ref f))
    (h : dA Θ M (e :: es) Γ Ex fun ss => ∃ a, ss = S.arg a ∧ S.pre a ∧ (∀ s, S.post a s → Q s) ∧ (∀ x, S.exn a x → Ex x)) (hdb : (x == ("__debug__" : Str)) = false := by decide)
    (he : ∀ env, starEach (e :: es) env = (false, eval e env) :: starEach es env := by intro _; rfl) (hpl : ∀ env, (backTo pos (starEach es env)).any (·.1) = false := by intro _; rfl) : dE Θ M (.Call (.Name x p) (e :: es) [] pos) Γ Ex Q := by
  intro X c σ H R E xr k
  obtain ⟨W, tk, hW⟩ := id xr
  obtain ⟨fd, ps, F1, hb⟩ := F.ex
  have F2 : FnOk X.prog X.w X.K X.mg X.base (L2.CX X.prog X.w) j f fd ps (spOf Θ.g S) := by rw [c.prog, c.w, c.K, c.mg, c.base]; exact F1
  refine wE_of (pe_callS F2 (c.room.mono hj) (gl_of c hg) (by rw [c.mg]; exact hm) (by rw [c.K]; exact F.kp) (by rw [c.K]; exact hb) (fun σ => passAt tk σ) (pa X (e :: es)) hdb (he _) (hpl _)) ?_
  refine h X c σ H _ E xr fun vs ss H1 e1 ok q => ?_
  exact sp_call (X := X) E e1 ok hW k q
/-- a call of a slot that holds a def -/
theorem d_callL {i : Nat} (F : Has Θ.g j f S) (hj : j ≤ Θ.k) (hN : Θ.N[i]? = some x) (hv : Vis Θ.sc x) (hΓ : Γ[i]? = some (some (.fn f)))
    (h : dA Θ M (e :: es) Γ Ex fun ss => ∃ a, ss = S.arg a ∧ S.pre a ∧ (∀ s, S.post a s → Q s) ∧ (∀ x, S.exn a x → False)) (hdb : (x == ("__debug__" : Str)) = false := by decide) (hcd : (x == ("__classdict__" : Str)) = false := by decide)
    (he : ∀ env, starEach (e :: es) env = (false, eval e env) :: starEach es env := by intro _; rfl) (hpl : ∀ env, (backTo pos (starEach es env)).any (·.1) = false := by intro _; rfl) : dE Θ M (.Call (.Name x p) (e :: es) [] pos) Γ Ex Q := by
  intro X c σ H R E xr k
  obtain ⟨fd, ps, F1, hb⟩ := F.ex
  have F2 : FnOk X.prog X.w X.K X.mg X.base (L2.CX X.prog X.w) j f fd ps (spOf Θ.g S) := by rw [c.prog, c.w, c.K, c.mg, c.base]; exact F1
  refine wE_of (pe_callL (i := i) (dvs := []) (E := E0) F2 (c.room.mono hj) (by rw [c.N]; exact hN) (by rw [c.sc]; exact hv) (by rw [c.K]; exact F.kp) (by rw [c.K]; exact hb) .nil passL (pa X (e :: es)) hdb hcd (he _) (hpl _)) ?_
  obtain ⟨v, h1, h2⟩ := E.at_ i _ hΓ
  cases h2
  refine ⟨h1, h X c σ H _ E xr fun vs ss H1 e1 ok q => ?_⟩
  rw [List.append_nil]
  obtain ⟨a, rfl, hp, hq, hx⟩ := q
  exact ⟨M, a, E.hk.evo e1, ok, hp, fun v s H' e' ok' q => k v s H' (e1.trans e') ok' (hq s q), fun x cls d H' e' ok' q => (hx x q).elim⟩
end

/-! ### statements -/
/-- facts of the heap that the caller carries through -/
structure Frame (F : List Addr → Hp → Prop) : Prop where
  st : ∀ M H H', F M H → Stay M H H' → F M H'
  fr : ∀ M H p, F M H → H p = none → F (p :: M) H
  ls : ∀ M M' H, F M H → (∀ a ∈ M', a ∈ M) → F M' H
theorem Frame.true : Frame (fun _ _ => True) := ⟨fun _ _ _ _ _ => True.intro, fun _ _ _ _ _ => True.intro, fun _ _ _ _ _ => True.intro⟩
theorem Frame.and {F G : List Addr → Hp → Prop} (f : Frame F) (g : Frame G) : Frame (fun M H => F M H ∧ G M H) :=
  ⟨fun M H H' h s => ⟨f.st M H H' h.1 s, g.st M H H' h.2 s⟩, fun M H p h n => ⟨f.fr M H p h.1 n, g.fr M H p h.2 n⟩, fun M M' H h s => ⟨f.ls M M' H h.1 s, g.ls M M' H h.2 s⟩⟩
/-- the state between statements: M0 the caller's lists, H0 the heap at the def's entry -/
structure StK (W : Wd) (M0 M : List Addr) (Γ : Gm) (σ : L2.St) (H0 H : Hp) (F : List Addr → Hp → Prop) : Prop where
  env : EnvOk W M Γ σ H
  g0 : Hk W M0 H0
  ev : Evo W H0 H
  sub : ∀ a ∈ M0, a ∈ M
  new : ∀ a ∈ M, a ∈ M0 ∨ H0 a = none
  fr : F M H
theorem StK.evo {W : Wd} {M0 M : List Addr} {Γ : Gm} {σ : L2.St} {H0 H H' : Hp} {F : List Addr → Hp → Prop} (s : StK W M0 M Γ σ H0 H F) (hF : Frame F) (e : Evo W H H') : StK W M0 M Γ σ H0 H' F :=
  ⟨s.env.evo e, s.g0, s.ev.trans e, s.sub, s.new, hF.st _ _ _ s.fr (s.env.hk.stay e)⟩
theorem StK.set {W : Wd} {M0 M : List Addr} {Γ : Gm} {σ : L2.St} {H0 H : Hp} {F : List Addr → Hp → Prop} {i : Nat} {t : Sl} {v : V} (s : StK W M0 M Γ σ H0 H F) (h : SlOk W M H v t) : StK W M0 M (Γ.set i (some t)) (σ.set i (some v)) H0 H F where
  env := by
    have E := s.env
    refine ⟨E.good, by rw [List.length_set, List.length_set]; exact E.len, E.bM, E.trk, fun j u hj => ?_⟩
    by_cases hij : i = j
    · subst hij
      have hl : i < Γ.length := by
        have q := (List.getElem?_eq_some_iff.mp hj).1
        rwa [List.length_set] at q
      rw [List.getElem?_set_self hl] at hj
      cases hj
      exact ⟨v, List.getElem?_set_self (by rw [E.len]; exact hl), h⟩
    · rw [List.getElem?_set_ne hij] at hj
      obtain ⟨w, h1, h2⟩ := E.at_ j u hj
      exact ⟨w, by rw [List.getElem?_set_ne hij]; exact h1, h2⟩
  g0 := s.g0
  ev := s.ev
  sub := s.sub
  new := s.new
  fr := s.fr
def XT (Θ : Th) (X : Cx) (M0 : List Addr) (H0 : Hp) (Ex : Xn → Prop) : Prop := ∃ W : WX, Takes X W ∧ ∀ x cls d σ H', Evo Θ.W H0 H' → XnOk Θ.g M0 H' x cls d → Ex x → W cls d σ H'
theorem XnOk.less {Θ : Gd} {M M0 : List Addr} {H : Hp} {x : Xn} {cls : Value} {d : Option Addr} (h : XnOk Θ M H x cls d) (s : ∀ a ∈ M0, a ∈ M) : XnOk Θ M0 H x cls d := by
  obtain ⟨C, h1, h2, h3⟩ := h
  refine ⟨C, h1, h2, h3.imp id fun ⟨dd, fs, q1, q2, q3⟩ => ⟨dd, fs, q1, q2, fun f e he => ?_⟩⟩
  obtain ⟨v, z1, z2⟩ := q3 f e he
  exact ⟨v, z1, Dv.less s _ _ z2⟩
theorem XT.xr {Θ : Th} {X : Cx} {M0 M : List Addr} {H0 H : Hp} {Ex : Xn → Prop} {σ : L2.St} (h : XT Θ X M0 H0 Ex) (s : ∀ a ∈ M0, a ∈ M) (e : Evo Θ.W H0 H) : XR Θ X M H Ex σ := by
  obtain ⟨W, tk, hW⟩ := h
  exact ⟨W, tk, fun x cls d H' e' ok q => hW x cls d σ H' (e.trans e') (ok.less s) q⟩
/-- one statement; statements -/
def dS (Θ : Th) (M0 M : List Addr) (st : Stmt) (Γ : Gm) (Ex : Xn → Prop) (Rt : Sl → Prop) (Kn : List Addr → Gm → Prop) : Prop :=
  ∀ X, Cpt Θ X → ∀ F, Frame F → ∀ (H0 : Hp) (σ : L2.St) (H : Hp) (D : Ends), StK Θ.W M0 M Γ σ H0 H F → XT Θ X M0 H0 Ex →
    (∀ M' Γ' σ' H', StK Θ.W M0 M' Γ' σ' H0 H' F → Kn M' Γ' → D.nx σ' H') → (∀ v s H', Evo Θ.W H0 H' → SlOk Θ.W M0 H' v s → Rt s → D.rt v H') → wS X st D σ H
def dSs (Θ : Th) (M0 M : List Addr) (sts : List Stmt) (Γ : Gm) (Ex : Xn → Prop) (Rt : Sl → Prop) (Kn : List Addr → Gm → Prop) : Prop :=
  ∀ X, Cpt Θ X → ∀ F, Frame F → ∀ (H0 : Hp) (σ : L2.St) (H : Hp) (D : Ends), StK Θ.W M0 M Γ σ H0 H F → XT Θ X M0 H0 Ex →
    (∀ M' Γ' σ' H', StK Θ.W M0 M' Γ' σ' H0 H' F → Kn M' Γ' → D.nx σ' H') → (∀ v s H', Evo Θ.W H0 H' → SlOk Θ.W M0 H' v s → Rt s → D.rt v H') → wSs X sts D σ H
def Sl.pure : Sl → Bool
  | .own _ _ => false
  | _ => true
theorem SlOk.less {W : Wd} {M M0 : List Addr} {H : Hp} {v : V} {s : Sl} (h : SlOk W M H v s) (hs : ∀ a ∈ M0, a ∈ M) (hp : s.pure = true) : SlOk W M0 H v s := by
  cases h with
  | dat h => exact .dat (Dv.less hs _ _ h)
  | own q1 q2 q3 q4 => cases hp
  | bag => exact .bag
  | fn f => exact .fn f
  | ty n => exact .ty n
  | kn h1 h2 => exact .kn h1 h2
section
variable {Θ : Th} {M0 M : List Addr} {Γ : Gm} {Ex : Xn → Prop} {Q : Sl → Prop} {a b e tg iter elt : Expr} {es : List Expr} {pos p p2 p3 : Pos} {x y z : Str} {Kn : List Addr → Gm → Prop} {Rt : Sl → Prop} {st : Stmt} {sts body orelse : List Stmt}
theorem s_nil (h : Kn M Γ) : dSs Θ M0 M [] Γ Ex Rt Kn := fun X c F hF H0 σ H D s xt kn rt => wSs_of pss_nil (kn M Γ σ H s h)
theorem s_cons (h : dS Θ M0 M st Γ Ex Rt fun M' Γ' => dSs Θ M0 M' sts Γ' Ex Rt Kn) : dSs Θ M0 M (st :: sts) Γ Ex Rt Kn := fun X c F hF H0 σ H D s xt kn rt =>
  wSs_of (pss_cons (ps X st) (pss X sts)) (h X c F hF H0 σ H { D with nx := wSs X sts D } s xt (fun M' Γ' σ' H' s' q => q X c F hF H0 σ' H' D s' xt kn rt) rt)
theorem s_ret (h : dE Θ M e Γ Ex fun s => s.pure = true ∧ Rt s) : dS Θ M0 M (.Return (some e) pos) Γ Ex Rt Kn := fun X c F hF H0 σ H D s xt kn rt =>
  wS_of (ps_ret (pe X e)) (h X c σ H _ s.env (xt.xr s.sub s.ev) fun v t H' e' ok q => rt v t H' (s.ev.trans e') (ok.less s.sub q.1) q.2)
theorem s_retN (h : Rt (.dat .none)) : dS Θ M0 M (.Return none pos) Γ Ex Rt Kn := fun X c F hF H0 σ H D s xt kn rt => wS_of ps_retN (rt _ _ H s.ev (.dat .non) h)
/-- return of the frame's own list -/
theorem s_retO {i : Nat} {ad : Addr} {ds : List PyData} (hN : Θ.N[i]? = some x) (hv : Vis Θ.sc x) (hΓ : Γ[i]? = some (some (.own ad ds))) (ha : ad ∉ M0) (h : Rt (.dat (.list ds))) (hd : (x == ("__debug__" : Str)) = false := by decide) (hcd : (x == ("__classdict__" : Str)) = false := by decide) : dS Θ M0 M (.Return (some (.Name x p)) pos) Γ Ex Rt Kn := by
  intro X c F hF H0 σ H D s xt kn rt
  obtain ⟨v, h1, h2⟩ := s.env.at_ i _ hΓ
  refine wS_of (ps_ret (pe_var (i := i) (by rw [c.N]; exact hN) (by rw [c.sc]; exact hv) hd hcd)) ⟨v, h1, ?_⟩
  cases h2 with
  | own q1 q2 q3 q4 => exact rt _ _ H s.ev (.dat (.lst ha q3 (DvAll.less s.sub _ _ q4))) h
theorem s_expr (h : dE Θ M e Γ Ex fun _ => Kn M Γ) (hs : ∀ env, swapsWith e none pos.line env = pure false := by intro _; rfl) : dS Θ M0 M (.Expr e pos) Γ Ex Rt Kn := fun X c F hF H0 σ H D s xt kn rt =>
  wS_of (ps_expr (pe X e) (hs _)) (h X c σ H _ s.env (xt.xr s.sub s.ev) fun v t H' e' ok q => kn M Γ σ H' (s.evo hF e') q)
theorem s_if (h : dT Θ M e Γ Ex fun c => (c = true → dSs Θ M0 M body Γ Ex Rt Kn) ∧ (c = false → dSs Θ M0 M orelse Γ Ex Rt Kn)) : dS Θ M0 M (.If e body orelse pos) Γ Ex Rt Kn := by
  intro X c F hF H0 σ H D s xt kn rt
  refine wS_of (ps_if (pt X e) (pss X body) (pss X orelse)) (h X c σ H _ s.env (xt.xr s.sub s.ev) fun d H1 e1 q => ?_)
  cases d with
  | true => exact q.1 rfl X c F hF H0 σ H1 D (s.evo hF e1) xt kn rt
  | false => exact q.2 rfl X c F hF H0 σ H1 D (s.evo hF e1) xt kn rt
theorem s_set {i : Nat} (hN : Θ.N[i]? = some x) (hx : Loc Θ.sc x) (h : dE Θ M e Γ Ex fun s => s.pure = true ∧ Kn M (Γ.set i (some s))) (hf : Θ.full = true := by rfl)
    (hs : ∀ env : Env, env.scope = Θ.sc → swapsWith e (some (.Name x p)) pos.line env = pure false := by intro _ _; rfl) : dS Θ M0 M (.Assign [.Name x p] e pos) Γ Ex Rt Kn := fun X c F hF H0 σ H D s xt kn rt =>
  wS_of (ps_set (i := i) c.nd (by rw [c.N]; exact hN) (by rw [c.sc]; exact hx) (pe X e) (hs _ c.sc) (.inl (c.cel hf x))) (h X c σ H _ s.env (xt.xr s.sub s.ev) fun v t H' e' ok q => kn M _ _ H' ((s.evo hF e').set ok) q.2)
/-- a, b = .. of one value -/
theorem s_asg {is : List Nat} (h : dE Θ M e Γ Ex fun s => s.pure = true ∧ dG Θ M tg s Γ is fun Γ' => Kn M Γ')
    (hs : ∀ env, swapsWithSole [tg] e pos.line env = pure false := by intro _; rfl) (hw : ∀ env, swappedStores [tg] e env = pure none := by intro _; rfl) (h1 : ∀ env, (assignEach [tg] env).map (·.2) = [assign tg env] := by intro _; rfl) : dS Θ M0 M (.Assign [tg] e pos) Γ Ex Rt Kn := by
  intro X c F hF H0 σ H D s xt kn rt
  refine wS_of (ps_asg (pe X e) (pg X tg) (hs _) (hw _) (h1 _)) (h X c σ H _ s.env (xt.xr s.sub s.ev) fun v t H' e' ok q => ?_)
  have s' := s.evo hF e'
  exact q.2 X c v σ H' _ s'.env ok fun Γ' σ' E' _ g => kn M Γ' σ' H' ⟨E', s'.g0, s'.ev, s'.sub, s'.new, s'.fr⟩ g
theorem s_par {i j : Nat} {px py pt : Pos} {kt k2 : Nat} {pt2 : Pos} (hN : Θ.N[i]? = some x) (hN2 : Θ.N[j]? = some y) (hij : i ≠ j) (hx : Θ.sc.names.lookup x = some .local) (hy : Θ.sc.names.lookup y = some .local)
    (h : dA Θ M [a, b] Γ Ex fun ss => ∃ s t, ss = [s, t] ∧ s.pure = true ∧ t.pure = true ∧ Kn M ((Γ.set i (some s)).set j (some t)))
    (hw : ∀ env : Env, env.scope = Θ.sc → swappedStores [.Tuple [.Name x px, .Name y py] kt pt] (.Tuple [a, b] k2 pt2) env = pure (some [x, y]))
    (hs : ∀ env : Env, env.scope = Θ.sc → swapsWithSole [.Tuple [.Name x px, .Name y py] kt pt] (.Tuple [a, b] k2 pt2) pos.line env = pure false := by intro _ _; rfl) : dS Θ M0 M (.Assign [.Tuple [.Name x px, .Name y py] kt pt] (.Tuple [a, b] k2 pt2) pos) Γ Ex Rt Kn := by
  intro X c F hF H0 σ H D s xt kn rt
  refine wS_of (ps_par c.calm c.nd (by rw [c.N]; exact hN) (by rw [c.N]; exact hN2) hij (by rw [c.sc]; exact hx) (by rw [c.sc]; exact hy) (pa X [a, b]) (hw _ c.sc) (hs _ c.sc)) (h X c σ H _ s.env (xt.xr s.sub s.ev) fun vs ss H' e' ok q => ?_)
  obtain ⟨s1, t1, rfl, _, _, q⟩ := q
  cases ok with
  | cons o1 o2 =>
    cases o2 with
    | cons o2 o3 =>
      cases o3
      exact ⟨_, _, rfl, kn M _ _ H' (((s.evo hF e').set o1).set o2) q⟩
theorem s_par3 {i j l : Nat} {c0 : Expr} {px py pz pt : Pos} {kt k2 : Nat} {pt2 : Pos} (hN : Θ.N[i]? = some x) (hN2 : Θ.N[j]? = some y) (hN3 : Θ.N[l]? = some z) (hij : i ≠ j) (hil : i ≠ l) (hjl : j ≠ l) (hx : Θ.sc.names.lookup x = some .local) (hy : Θ.sc.names.lookup y = some .local) (hz : Θ.sc.names.lookup z = some .local)
    (h : dA Θ M [a, b, c0] Γ Ex fun ss => ∃ s t u, ss = [s, t, u] ∧ s.pure = true ∧ t.pure = true ∧ u.pure = true ∧ Kn M (((Γ.set i (some s)).set j (some t)).set l (some u)))
    (hw : ∀ env : Env, env.scope = Θ.sc → swappedStores [.Tuple [.Name x px, .Name y py, .Name z pz] kt pt] (.Tuple [a, b, c0] k2 pt2) env = pure (some [x, y, z]))
    (hs : ∀ env : Env, env.scope = Θ.sc → swapsWithSole [.Tuple [.Name x px, .Name y py, .Name z pz] kt pt] (.Tuple [a, b, c0] k2 pt2) pos.line env = pure false := by intro _ _; rfl) : dS Θ M0 M (.Assign [.Tuple [.Name x px, .Name y py, .Name z pz] kt pt] (.Tuple [a, b, c0] k2 pt2) pos) Γ Ex Rt Kn := by
  intro X c F hF H0 σ H D s xt kn rt
  refine wS_of (ps_par3 c.calm c.nd (by rw [c.N]; exact hN) (by rw [c.N]; exact hN2) (by rw [c.N]; exact hN3) hij hil hjl (by rw [c.sc]; exact hx) (by rw [c.sc]; exact hy) (by rw [c.sc]; exact hz) (pa X _) (hw _ c.sc) (hs _ c.sc)) (h X c σ H _ s.env (xt.xr s.sub s.ev) fun vs ss H' e' ok q => ?_)
  obtain ⟨s1, t1, u1, rfl, _, _, _, q⟩ := q
  cases ok with
  | cons o1 o2 =>
    cases o2 with
    | cons o2 o3 =>
      cases o3 with
      | cons o3 o4 =>
        cases o4
        exact ⟨_, _, _, rfl, kn M _ _ H' ((((s.evo hF e').set o1).set o2).set o3) q⟩
/-- while: I by a measure -/
theorem s_while (I : Nat → List Addr → Gm → Prop) (m0 : Nat) (h0 : I m0 M Γ)
    (h : ∀ m M Γ, I m M Γ → dT Θ M e Γ Ex fun c => (c = true → dSs Θ M0 M body Γ Ex Rt fun M' Γ' => ∃ m', m' < m ∧ I m' M' Γ') ∧ (c = false → Kn M Γ)) : dS Θ M0 M (.While e body [] pos) Γ Ex Rt Kn := by
  intro X c F hF H0 σ H D s xt kn rt
  refine wS_of (ps_while c.pas (pt X e) (pss X body)) ⟨fun m σ H => ∃ M Γ, StK Θ.W M0 M Γ σ H0 H F ∧ I m M Γ, ⟨m0, M, Γ, s, h0⟩, fun m σ1 H1 ⟨M1, Γ1, s1, i1⟩ => ?_⟩
  refine h m M1 Γ1 i1 X c σ1 H1 _ s1.env (xt.xr s1.sub s1.ev) fun d H2 e2 q => ?_
  have s2 := s1.evo hF e2
  cases d with
  | false => exact kn M1 Γ1 σ1 H2 s2 (q.2 rfl)
  | true =>
    refine ⟨fun σ' H' => ∃ M' Γ', StK Θ.W M0 M' Γ' σ' H0 H' F ∧ ∃ m', m' < m ∧ I m' M' Γ', fun σ' H' ⟨M', Γ', s', m', hm, i'⟩ => ⟨m', hm, M', Γ', s', i'⟩, ?_⟩
    exact q.1 rfl X c F hF H0 σ1 H2 { D with nx := _, ct := _, bk := D.nx } s2 xt (fun M' Γ' σ' H' s' q' => ⟨M', Γ', s', q'⟩) rt
/-- for: I behind i turns -/
theorem s_for (is : List Nat) (h : dI Θ M tg iter Γ Ex fun ds => ∃ I : Nat → List Addr → Gm → Prop, I 0 M Γ ∧
      (∀ (i : Nat) (d : PyData) M Γ, ds[i]? = some d → I i M Γ → dG Θ M tg (.dat d) Γ is fun Γ' => dSs Θ M0 M body Γ' Ex Rt fun M' Γ' => I (i + 1) M' Γ') ∧ (∀ M Γ, I ds.length M Γ → Kn M Γ))
    (hs : ∀ env x, foldedSetIterable iter env x = pure x := by intro _ _; rfl) : dS Θ M0 M (.For tg iter body [] pos) Γ Ex Rt Kn := by
  intro X c F hF H0 σ H D s xt kn rt
  refine wS_of (ps_for c.pas c.calm (pi X tg iter) (pg X tg) (pss X body) (hs _)) (h X c σ H _ s.env (xt.xr s.sub s.ev) fun J H1 ds G e1 hP Wk hG => ?_)
  obtain ⟨I, i0, hstep, hend⟩ := hP
  have s1 := s.evo hF e1
  have hG2 : Frame (fun M H => F M H ∧ G M H) := hF.and ⟨Wk.st, Wk.fr, Wk.ls⟩
  refine for_it (Y := fun i H x H' => ∀ M, G M H → Hk Θ.W M H → Evo Θ.W H H' ∧ ∃ d, ds[i]? = some d ∧ Dv Θ.W.K M H' x d) (G := fun H => ∃ M, G M H) (n := ds.length) ⟨fun i H hi ⟨M, g⟩ => (Wk.w M).goes i H hi g, fun H ⟨M, g⟩ => (Wk.w M).stops H g, fun i H x H' hi _ y M g hk => (Wk.w M).yields i H x H' hi g y hk⟩
    (fun i σ' H' => ∃ M' Γ', StK Θ.W M0 M' Γ' σ' H0 H' (fun M H => F M H ∧ G M H) ∧ I i M' Γ') ⟨M, Γ, ⟨s1.env, s1.g0, s1.ev, s1.sub, s1.new, s1.fr, hG⟩, i0⟩ (fun i σ' H' _ ⟨M', Γ', s', _⟩ => ⟨M', s'.fr.2⟩)
    (fun i x σ' H' H2 hi ⟨M', Γ', s', iq⟩ y => ?_) (fun σ' H' ⟨M', Γ', s', iq⟩ => kn M' Γ' σ' H' ⟨s'.env, s'.g0, s'.ev, s'.sub, s'.new, s'.fr.1⟩ (hend M' Γ' iq))
  obtain ⟨ey, d, hd, hx⟩ := y M' s'.fr.2 s'.env.hk
  have s2 := s'.evo hG2 ey
  refine hstep i d M' Γ' hd iq X c x σ' H2 _ s2.env (.dat hx) fun Γ2 σ2 E2 _ q => ?_
  exact q X c _ hG2 H0 σ2 H2 { D with nx := _, ct := _, bk := D.nx } ⟨E2, s2.g0, s2.ev, s2.sub, s2.new, s2.fr⟩ xt (fun M3 Γ3 σ3 H3 s3 q3 => ⟨M3, Γ3, s3, q3⟩) rt
end
end Dl
set_option Elab.async false
set_option linter.all false
set_option maxRecDepth 100000
set_option maxHeartbeats 2000000
set_option autoImplicit false
namespace Dl
open PySem PySem.Spec PyProof.Rows L2

/-! ### a def keeps its promise, by its body -/
def Gd.fn (G : Gd) (N : List Str) (scope : Scope) (k : Nat) (qual : Str) (cdv : Value) : Th := { g := G, N := N, sc := scope, k := k, own := some (qual ++ ".<locals>.", cdv), full := true }
def startG (N : List Str) (ss : List Sl) : Gm := ss.map some ++ List.replicate (N.length - ss.length) none
theorem SlsOk.len {W : Wd} {M : List Addr} {H : Hp} : ∀ {vs : List V} {ss : List Sl}, SlsOk W M H vs ss → vs.length = ss.length
  | _, _, .nil => rfl
  | _, _, .cons _ t => by rw [List.length_cons, List.length_cons, SlsOk.len t]
theorem SlsOk.get {W : Wd} {M : List Addr} {H : Hp} : ∀ {vs : List V} {ss : List Sl} {i : Nat} {s : Sl}, SlsOk W M H vs ss → ss[i]? = some s → ∃ v, vs[i]? = some v ∧ SlOk W M H v s
  | _, _, _, _, .nil, e => by simp at e
  | _, _, 0, _, .cons h _, e => by simp at e; subst e; exact ⟨_, rfl, h⟩
  | _, _, i + 1, _, .cons _ t, e => by
    obtain ⟨v, q1, q2⟩ := SlsOk.get t (i := i) (by simpa using e)
    exact ⟨v, by simpa using q1, q2⟩
theorem start_ok {W : Wd} {M : List Addr} {H : Hp} {N : List Str} {vs : List V} {ss : List Sl} (hk : Hk W M H) (ok : SlsOk W M H vs ss) : EnvOk W M (startG N ss) (L2.start N vs) H := by
  have hl := ok.len
  refine ⟨hk.good, ?_, hk.bM, hk.trk, fun i s h => ?_⟩
  · unfold startG L2.start
    simp [hl]
  · unfold startG at h
    unfold L2.start
    by_cases hi : i < ss.length
    · rw [List.getElem?_append_left (by simpa using hi), List.getElem?_map] at h
      cases q : ss[i]? with
      | none => rw [q] at h; cases h
      | some t =>
        rw [q] at h
        cases h
        obtain ⟨v, h1, h2⟩ := ok.get q
        exact ⟨v, by rw [List.getElem?_append_left (by simpa [hl] using hi), List.getElem?_map, h1]; rfl, h2⟩
    · rw [List.getElem?_append_right (by simpa using hi), List.getElem?_replicate] at h
      split at h <;> cases h
theorem Has.of_fn {G : Gd} {k : Nat} {f : Addr} {name qual : Str} {params : Arguments} {body : List Stmt} {scope : Scope} {dV kV doc pm cdv ct oc : Value} {an od : Option Addr} {osl : Array (Option Value)} {N ps : List Str} {S : Spec}
    (lk : G.W.K.lookup f = some ⟨oc, od, .func (PySem.W.fnOf name qual params body scope dV kV doc pm an cdv ct), osl⟩) (hcd : PySem.W.codeIn G.W.K cdv qual = true) (kp : PySem.W.keepIn G.W.K (.ref f) = true) (Sc : FnScope N ps scope)
    (hb : Binds G.W.K (PySem.W.fnOf name qual params body scope dV kV doc pm an cdv ct) ps []) (hl : ∀ a, (S.arg a).length = ps.length)
    (h : ∀ (M0 : List Addr) (a : S.α), S.pre a → dSs (G.fn N scope k qual cdv) M0 M0 body (startG N (S.arg a)) (S.exn a) (S.post a) fun _ _ => S.post a (.dat .none)) : Has G (k + 1) f S := by
  refine ⟨⟨_, ps, fn_of lk hcd Sc (fun vs H Q E hs => ?_) (fun A outer s H vs Q E hr hs => ?_), hb⟩, kp⟩
  · obtain ⟨M, a, hk, ok, _⟩ := hs
    rw [ok.len, hl]
  · obtain ⟨M, a, hk, ok, hp, hq, hx⟩ := hs
    refine ⟨wSs (cxOf (L2.CX G.P G.w) G.P G.w G.W.K G.mg G.base N qual scope f cdv A outer s H E) body, pss _ _, ?_⟩
    have c : Cpt (G.fn N scope k qual cdv) (cxOf (L2.CX G.P G.w) G.P G.w G.W.K G.mg G.base N qual scope f cdv A outer s H E) :=
      ⟨rfl, rfl, rfl, rfl, rfl, rfl, rfl, hr, rfl, Sc.nd, fun _ _ => rfl, passes_of rfl, fun q e => by cases e; exact ⟨rfl, rfl⟩, fun _ => ⟨rfl, rfl⟩, fun _ _ => rfl⟩
    have tk : Takes (cxOf (L2.CX G.P G.w) G.P G.w G.W.K G.mg G.base N qual scope f cdv A outer s H E) (fun cls d _ H => E cls d H) := takes_of rfl rfl rfl rfl
    refine h M a hp _ c (fun _ _ => True) Frame.true H (L2.start N vs) H _ ⟨start_ok hk ok, hk, Evo.refl H, fun _ h => h, fun _ h => .inl h, True.intro⟩ ⟨_, tk, fun x cls d σ H' e ok' q => hx x cls d H' e ok' q⟩ (fun M' Γ' σ' H' s' q => ?_) (fun v t H' e ok' q => hq v t H' e ok' q)
    exact hq _ _ H' s'.ev (.dat .non) q
theorem Has.of_def {G : Gd} {k : Nat} {f : Addr} {fd : FuncData} {name qual : Str} {params : Arguments} {body : List Stmt} {scope : Scope} {N ps : List Str} {S : Spec} (F : FunD G.W.K name qual params body scope [] [] f fd) (Sc : FnScope N ps scope)
    (hb : ∀ (kV doc pm : Value) (an : Option Addr) (cdv ct : Value) (us : List Value), us.length = ps.length → bindArgs (PySem.W.fnOf name qual params body scope .none kV doc pm an cdv ct) ⟨us, []⟩ = pure (ps.zip us)) (hl : ∀ a, (S.arg a).length = ps.length)
    (h : ∀ (cdv : Value) (M0 : List Addr) (a : S.α), S.pre a → dSs (G.fn N scope k qual cdv) M0 M0 body (startG N (S.arg a)) (S.exn a) (S.post a) fun _ _ => S.post a (.dat .none)) : Has G (k + 1) f S := by
  have B := F.bindsN hb
  obtain ⟨oc, od, dV, kV, doc, pm, an, cdv, ct, osl, rfl, lk, hcd, _, _⟩ := F.ex
  exact Has.of_fn lk hcd F.kp Sc B hl (h cdv)
theorem Has.mono {G : Gd} {j k : Nat} {f : Addr} {S : Spec} (F : Has G j f S) (h : j ≤ k) : Has G k f S := by
  obtain ⟨fd, ps, F1, hb⟩ := F.ex
  exact ⟨⟨fd, ps, F1.mono h, hb⟩, F.kp⟩
/-- a weaker promise -/
theorem Has.imp {G : Gd} {k : Nat} {f : Addr} {S S' : Spec} (F : Has G k f S) (h : ∀ a', S'.pre a' → ∃ a, S.arg a = S'.arg a' ∧ S.pre a ∧ (∀ s, S.post a s → S'.post a' s) ∧ ∀ x, S.exn a x → S'.exn a' x) : Has G k f S' := by
  obtain ⟨fd, ps, F1, hb⟩ := F.ex
  refine ⟨⟨fd, ps, F1.imp fun vs H Q E ⟨M, a', hk, ok, hp, hq, hx⟩ => ?_, hb⟩, F.kp⟩
  obtain ⟨a, e, p, q, x⟩ := h a' hp
  exact ⟨M, a, hk, by rw [e]; exact ok, p, fun v s H' ev o z => hq v s H' ev o (q s z), fun y cls d H' ev o z => hx y cls d H' ev o (x y z)⟩

/-! ### the top of a law's text -/
structure TopG (G : Gd) (fa : List He.Fa) (fn : List He.DefD) : Prop where
  kin : G.W.K.In G.base
  ns : G.base.Ns mainGlobals G.mg
  says : He.SaysD fa fn G.W.K
/-- the name x stands for a def that keeps S -/
structure Fn (G : Gd) (k : Nat) (x : Str) (S : Spec) : Prop where
  glo : G.mg x = some (.ref (He.ga G.W.K x))
  has : Has G k (He.ga G.W.K x) S
theorem Fn.mono {G : Gd} {j k : Nat} {x : Str} {S : Spec} (F : Fn G j x S) (h : j ≤ k) : Fn G k x S := ⟨F.glo, F.has.mono h⟩
section
variable {G : Gd} {fa : List He.Fa} {fn : List He.DefD}
theorem TopG.free (T : TopG G fa fn) {x : Str} (i : Nat) (h : fa[i]? = some (.free x) := by rfl) : G.mg x = none := He.free_ok T.kin T.ns (T.says.fact i h)
theorem TopG.glo (T : TopG G fa fn) {x : Str} (i : Nat) (h : fa[i]? = some (.glo x) := by rfl) : G.mg x = some (.ref (He.ga G.W.K x)) := He.glo_ok T.kin T.ns (T.says.fact i h)
theorem TopG.int (T : TopG G fa fn) {x : Str} {n : Int} (i : Nat) (h : fa[i]? = some (.int x n) := by rfl) : ∃ t, G.mg x = some (.int n t) := He.int_ok T.kin T.ns (T.says.fact i h)
theorem TopG.str (T : TopG G fa fn) {x z : Str} (i : Nat) (h : fa[i]? = some (.str x z) := by rfl) : ∃ t, G.mg x = some (.str z t) := He.str_ok T.kin T.ns (T.says.fact i h)
/-- a def of the top keeps its promise, by its body -/
theorem TopG.fn_ok (T : TopG G fa fn) {x : Str} {params : Arguments} {body : List Stmt} {scope : Scope} {N ps : List Str} {S : Spec} {k : Nat} (i j : Nat) (hd : fn[i]? = some ⟨(x, none), x, x, params, body, scope, [], []⟩) (hg : fa[j]? = some (.glo x)) (Sc : FnScope N ps scope)
    (hb : ∀ (kV doc pm : Value) (an : Option Addr) (cdv ct : Value) (us : List Value), us.length = ps.length → bindArgs (PySem.W.fnOf x x params body scope .none kV doc pm an cdv ct) ⟨us, []⟩ = pure (ps.zip us)) (hl : ∀ a, (S.arg a).length = ps.length)
    (h : ∀ (cdv : Value) (M0 : List Addr) (a : S.α), S.pre a → dSs (G.fn N scope k x cdv) M0 M0 body (startG N (S.arg a)) (S.exn a) (S.post a) fun _ _ => S.post a (.dat .none)) : Fn G (k + 1) x S := by
  refine ⟨T.glo j hg, ?_⟩
  obtain ⟨fd, F⟩ := T.says.def_ i hd
  exact Has.of_def F Sc hb hl h
end
section
variable {Θ : Th} {M : List Addr} {Γ : Gm} {Ex : Xn → Prop} {Q : Sl → Prop} {e : Expr} {es : List Expr} {pos p : Pos} {x : Str} {S : Spec} {j : Nat}
theorem d_fn (F : Fn Θ.g j x S) (hj : j ≤ Θ.k) (hg : Θ.sc.names.lookup x = some .globalImplicit)
    (h : dA Θ M (e :: es) Γ Ex fun ss => ∃ a, ss = S.arg a ∧ S.pre a ∧ (∀ s, S.post a s → Q s) ∧ (∀ x, S.exn a x → Ex x)) (hdb : (x == ("__debug__" : Str)) = false := by decide)
    (he : ∀ env, starEach (e :: es) env = (false, eval e env) :: starEach es env := by intro _; rfl) (hpl : ∀ env, (backTo pos (starEach es env)).any (·.1) = false := by intro _; rfl) : dE Θ M (.Call (.Name x p) (e :: es) [] pos) Γ Ex Q :=
  d_call F.has hj hg F.glo h hdb he hpl
end
end Dl
set_option Elab.async false
set_option linter.all false
set_option maxRecDepth 100000
set_option maxHeartbeats 2000000
set_option autoImplicit false
namespace Dl
open PySem PySem.Spec PyProof.Rows L2
/-- what the name x holds -/
def lookG : List Str → Gm → Str → Option Sl
  | n :: N, g :: Γ, x => if n = x then g else lookG N Γ x
  | _, _, _ => none
theorem lookG_ok : ∀ {N : List Str} {Γ : Gm} {x : Str} {s : Sl}, lookG N Γ x = some s → ∃ i : Nat, N[i]? = some x ∧ Γ[i]? = some (some s)
  | [], _, _, _, h => by simp [lookG] at h
  | _ :: _, [], _, _, h => by simp [lookG] at h
  | n :: N, g :: Γ, x, s, h => by
    unfold lookG at h
    by_cases e : n = x
    · rw [if_pos e] at h
      exact ⟨0, by simp [e], by simp [h]⟩
    · rw [if_neg e] at h
      obtain ⟨i, h1, h2⟩ := lookG_ok h
      exact ⟨i + 1, by simpa using h1, by simpa using h2⟩
def visB (sc : Scope) (x : Str) : Bool := match sc.names.lookup x with
  | some .local => true
  | some .cell => true
  | some .free => true
  | _ => false
theorem visB_ok {sc : Scope} {x : Str} (h : visB sc x = true) : Vis sc x := by
  unfold visB at h
  unfold Vis
  split at h
  · exact .inl ‹_›
  · exact .inr (.inl ‹_›)
  · exact .inr (.inr ‹_›)
  · cases h
/-- the place of the name x -/
def posN : List Str → Str → Option Nat
  | n :: N, x => if n = x then some 0 else (posN N x).map (· + 1)
  | [], _ => none
theorem posN_ok : ∀ {N : List Str} {x : Str} {i : Nat}, posN N x = some i → N[i]? = some x
  | [], _, _, h => by simp [posN] at h
  | n :: N, x, i, h => by
    unfold posN at h
    by_cases e : n = x
    · rw [if_pos e] at h
      cases h
      simp [e]
    · rw [if_neg e] at h
      cases q : posN N x with
      | none => rw [q] at h; cases h
      | some j =>
        rw [q] at h
        cases h
        simpa using posN_ok q
section
variable {Θ : Th} {M0 M : List Addr} {Γ : Gm} {Ex : Xn → Prop} {Q : Sl → Prop} {Rt : Sl → Prop} {Kn : List Addr → Gm → Prop} {pos p : Pos} {x : Str} {e : Expr} {es : List Expr} {s : Sl}
theorem d_nm (hl : lookG Θ.N Γ x = some s) (hv : visB Θ.sc x = true) (hq : Q s) (hd : (x == ("__debug__" : Str)) = false := by decide) (hcd : (x == ("__classdict__" : Str)) = false := by decide) : dE Θ M (.Name x pos) Γ Ex Q := by
  obtain ⟨i, h1, h2⟩ := lookG_ok hl
  exact d_name h1 (visB_ok hv) h2 hq hd hcd
def locB (sc : Scope) (x : Str) : Bool := match sc.names.lookup x with
  | some .local => true
  | some .cell => true
  | _ => false
theorem locB_ok {sc : Scope} {x : Str} (h : locB sc x = true) : L2.Loc sc x := by
  unfold locB at h
  unfold L2.Loc
  split at h
  · exact .inl ‹_›
  · exact .inr ‹_›
  · cases h
theorem s_st {i : Nat} (hN : posN Θ.N x = some i) (hx : locB Θ.sc x = true) (hf : Θ.full = true) (h : dE Θ M e Γ Ex fun s => s.pure = true ∧ Kn M (Γ.set i (some s)))
    (hs : ∀ env : Env, env.scope = Θ.sc → swapsWith e (some (.Name x p)) pos.line env = pure false := by intro _ _; rfl) : dS Θ M0 M (.Assign [.Name x p] e pos) Γ Ex Rt Kn := s_set (posN_ok hN) (locB_ok hx) h hf hs
theorem g_nm {i : Nat} {G : Gm → Prop} (hN : posN Θ.N x = some i) (hx : Θ.sc.names.lookup x = some .local) (hq : G (Γ.set i (some s))) : dG Θ M (.Name x pos) s Γ [i] G := g_name (posN_ok hN) (.inl hx) (.inr hx) hq
end
/-- a predicate on data -/
def predSpec (p : PyData → Bool) : Spec where
  α := PyData
  arg d := [.dat d]
  pre _ := True
  post d s := s = .dat (.bool (p d))
section
variable {Θ : Th} {M : List Addr} {Γ : Gm} {Ex : Xn → Prop} {Q : Sl → Prop} {pos p : Pos} {e : Expr} {es : List Expr}
theorem bb_isinstance : bootBuiltins "isinstance" = some (.builtin "isinstance") := by decide +kernel
theorem d_b_isinstance (hm : Θ.mg "isinstance" = none) (hg : Θ.sc.names.lookup ("isinstance" : Str) = some .globalImplicit) (h : dA Θ M (e :: es) Γ Ex fun xs => CallD Θ M (.builtin "isinstance") xs Q)
    (he : ∀ env, starEach (e :: es) env = (false, eval e env) :: starEach es env := by intro _; rfl) (hpl : ∀ env, (backTo pos (starEach es env)).any (·.1) = false := by intro _; rfl) : dE Θ M (.Call (.Name "isinstance" p) (e :: es) [] pos) Γ Ex Q := d_callB hg hm bb_isinstance h (by decide) (by decide) he hpl
theorem bb_len : bootBuiltins "len" = some (.builtin "len") := by decide +kernel
theorem d_b_len (hm : Θ.mg "len" = none) (hg : Θ.sc.names.lookup ("len" : Str) = some .globalImplicit) (h : dA Θ M (e :: es) Γ Ex fun xs => CallD Θ M (.builtin "len") xs Q)
    (he : ∀ env, starEach (e :: es) env = (false, eval e env) :: starEach es env := by intro _; rfl) (hpl : ∀ env, (backTo pos (starEach es env)).any (·.1) = false := by intro _; rfl) : dE Θ M (.Call (.Name "len" p) (e :: es) [] pos) Γ Ex Q := d_callB hg hm bb_len h (by decide) (by decide) he hpl
theorem bb_all : bootBuiltins "all" = some (.builtin "all") := by decide +kernel
theorem d_b_all (hm : Θ.mg "all" = none) (hg : Θ.sc.names.lookup ("all" : Str) = some .globalImplicit) (h : dA Θ M (e :: es) Γ Ex fun xs => CallD Θ M (.builtin "all") xs Q)
    (he : ∀ env, starEach (e :: es) env = (false, eval e env) :: starEach es env := by intro _; rfl) (hpl : ∀ env, (backTo pos (starEach es env)).any (·.1) = false := by intro _; rfl) : dE Θ M (.Call (.Name "all" p) (e :: es) [] pos) Γ Ex Q := d_callB hg hm bb_all h (by decide) (by decide) he hpl
theorem bb_any : bootBuiltins "any" = some (.builtin "any") := by decide +kernel
theorem d_b_any (hm : Θ.mg "any" = none) (hg : Θ.sc.names.lookup ("any" : Str) = some .globalImplicit) (h : dA Θ M (e :: es) Γ Ex fun xs => CallD Θ M (.builtin "any") xs Q)
    (he : ∀ env, starEach (e :: es) env = (false, eval e env) :: starEach es env := by intro _; rfl) (hpl : ∀ env, (backTo pos (starEach es env)).any (·.1) = false := by intro _; rfl) : dE Θ M (.Call (.Name "any" p) (e :: es) [] pos) Γ Ex Q := d_callB hg hm bb_any h (by decide) (by decide) he hpl
theorem bb_abs : bootBuiltins "abs" = some (.builtin "abs") := by decide +kernel
theorem d_b_abs (hm : Θ.mg "abs" = none) (hg : Θ.sc.names.lookup ("abs" : Str) = some .globalImplicit) (h : dA Θ M (e :: es) Γ Ex fun xs => CallD Θ M (.builtin "abs") xs Q)
    (he : ∀ env, starEach (e :: es) env = (false, eval e env) :: starEach es env := by intro _; rfl) (hpl : ∀ env, (backTo pos (starEach es env)).any (·.1) = false := by intro _; rfl) : dE Θ M (.Call (.Name "abs" p) (e :: es) [] pos) Γ Ex Q := d_callB hg hm bb_abs h (by decide) (by decide) he hpl
theorem bb_sum : bootBuiltins "sum" = some (.builtin "sum") := by decide +kernel
theorem d_b_sum (hm : Θ.mg "sum" = none) (hg : Θ.sc.names.lookup ("sum" : Str) = some .globalImplicit) (h : dA Θ M (e :: es) Γ Ex fun xs => CallD Θ M (.builtin "sum") xs Q)
    (he : ∀ env, starEach (e :: es) env = (false, eval e env) :: starEach es env := by intro _; rfl) (hpl : ∀ env, (backTo pos (starEach es env)).any (·.1) = false := by intro _; rfl) : dE Θ M (.Call (.Name "sum" p) (e :: es) [] pos) Γ Ex Q := d_callB hg hm bb_sum h (by decide) (by decide) he hpl
theorem bb_min : bootBuiltins "min" = some (.builtin "min") := by decide +kernel
theorem d_b_min (hm : Θ.mg "min" = none) (hg : Θ.sc.names.lookup ("min" : Str) = some .globalImplicit) (h : dA Θ M (e :: es) Γ Ex fun xs => CallD Θ M (.builtin "min") xs Q)
    (he : ∀ env, starEach (e :: es) env = (false, eval e env) :: starEach es env := by intro _; rfl) (hpl : ∀ env, (backTo pos (starEach es env)).any (·.1) = false := by intro _; rfl) : dE Θ M (.Call (.Name "min" p) (e :: es) [] pos) Γ Ex Q := d_callB hg hm bb_min h (by decide) (by decide) he hpl
theorem bb_max : bootBuiltins "max" = some (.builtin "max") := by decide +kernel
theorem d_b_max (hm : Θ.mg "max" = none) (hg : Θ.sc.names.lookup ("max" : Str) = some .globalImplicit) (h : dA Θ M (e :: es) Γ Ex fun xs => CallD Θ M (.builtin "max") xs Q)
    (he : ∀ env, starEach (e :: es) env = (false, eval e env) :: starEach es env := by intro _; rfl) (hpl : ∀ env, (backTo pos (starEach es env)).any (·.1) = false := by intro _; rfl) : dE Θ M (.Call (.Name "max" p) (e :: es) [] pos) Γ Ex Q := d_callB hg hm bb_max h (by decide) (by decide) he hpl
theorem bb_sorted : bootBuiltins "sorted" = some (.builtin "sorted") := by decide +kernel
theorem d_b_sorted (hm : Θ.mg "sorted" = none) (hg : Θ.sc.names.lookup ("sorted" : Str) = some .globalImplicit) (h : dA Θ M (e :: es) Γ Ex fun xs => CallD Θ M (.builtin "sorted") xs Q)
    (he : ∀ env, starEach (e :: es) env = (false, eval e env) :: starEach es env := by intro _; rfl) (hpl : ∀ env, (backTo pos (starEach es env)).any (·.1) = false := by intro _; rfl) : dE Θ M (.Call (.Name "sorted" p) (e :: es) [] pos) Γ Ex Q := d_callB hg hm bb_sorted h (by decide) (by decide) he hpl
theorem bt_int : bootBuiltins "int" = some (.type "int") := by decide +kernel
theorem d_c_int (hm : Θ.mg "int" = none) (hg : Θ.sc.names.lookup ("int" : Str) = some .globalImplicit) (h : dA Θ M (e :: es) Γ Ex fun xs => CallD Θ M (.type "int") xs Q)
    (he : ∀ env, starEach (e :: es) env = (false, eval e env) :: starEach es env := by intro _; rfl) (hpl : ∀ env, (backTo pos (starEach es env)).any (·.1) = false := by intro _; rfl) : dE Θ M (.Call (.Name "int" p) (e :: es) [] pos) Γ Ex Q := d_callTy hg hm bt_int h (by decide) (by decide) he hpl
theorem d_t_int (hm : Θ.mg "int" = none) (hg : Θ.sc.names.lookup ("int" : Str) = some .globalImplicit) (hq : Q (.ty "int")) : dE Θ M (.Name "int" pos) Γ Ex Q := d_ty hg hm bt_int hq (by decide) (by decide)
theorem bt_tuple : bootBuiltins "tuple" = some (.type "tuple") := by decide +kernel
theorem d_c_tuple (hm : Θ.mg "tuple" = none) (hg : Θ.sc.names.lookup ("tuple" : Str) = some .globalImplicit) (h : dA Θ M (e :: es) Γ Ex fun xs => CallD Θ M (.type "tuple") xs Q)
    (he : ∀ env, starEach (e :: es) env = (false, eval e env) :: starEach es env := by intro _; rfl) (hpl : ∀ env, (backTo pos (starEach es env)).any (·.1) = false := by intro _; rfl) : dE Θ M (.Call (.Name "tuple" p) (e :: es) [] pos) Γ Ex Q := d_callTy hg hm bt_tuple h (by decide) (by decide) he hpl
theorem d_t_tuple (hm : Θ.mg "tuple" = none) (hg : Θ.sc.names.lookup ("tuple" : Str) = some .globalImplicit) (hq : Q (.ty "tuple")) : dE Θ M (.Name "tuple" pos) Γ Ex Q := d_ty hg hm bt_tuple hq (by decide) (by decide)
theorem bt_list : bootBuiltins "list" = some (.type "list") := by decide +kernel
theorem d_c_list (hm : Θ.mg "list" = none) (hg : Θ.sc.names.lookup ("list" : Str) = some .globalImplicit) (h : dA Θ M (e :: es) Γ Ex fun xs => CallD Θ M (.type "list") xs Q)
    (he : ∀ env, starEach (e :: es) env = (false, eval e env) :: starEach es env := by intro _; rfl) (hpl : ∀ env, (backTo pos (starEach es env)).any (·.1) = false := by intro _; rfl) : dE Θ M (.Call (.Name "list" p) (e :: es) [] pos) Γ Ex Q := d_callTy hg hm bt_list h (by decide) (by decide) he hpl
theorem d_t_list (hm : Θ.mg "list" = none) (hg : Θ.sc.names.lookup ("list" : Str) = some .globalImplicit) (hq : Q (.ty "list")) : dE Θ M (.Name "list" pos) Γ Ex Q := d_ty hg hm bt_list hq (by decide) (by decide)
theorem bt_str : bootBuiltins "str" = some (.type "str") := by decide +kernel
theorem d_c_str (hm : Θ.mg "str" = none) (hg : Θ.sc.names.lookup ("str" : Str) = some .globalImplicit) (h : dA Θ M (e :: es) Γ Ex fun xs => CallD Θ M (.type "str") xs Q)
    (he : ∀ env, starEach (e :: es) env = (false, eval e env) :: starEach es env := by intro _; rfl) (hpl : ∀ env, (backTo pos (starEach es env)).any (·.1) = false := by intro _; rfl) : dE Θ M (.Call (.Name "str" p) (e :: es) [] pos) Γ Ex Q := d_callTy hg hm bt_str h (by decide) (by decide) he hpl
theorem d_t_str (hm : Θ.mg "str" = none) (hg : Θ.sc.names.lookup ("str" : Str) = some .globalImplicit) (hq : Q (.ty "str")) : dE Θ M (.Name "str" pos) Γ Ex Q := d_ty hg hm bt_str hq (by decide) (by decide)
theorem bt_bool : bootBuiltins "bool" = some (.type "bool") := by decide +kernel
theorem d_c_bool (hm : Θ.mg "bool" = none) (hg : Θ.sc.names.lookup ("bool" : Str) = some .globalImplicit) (h : dA Θ M (e :: es) Γ Ex fun xs => CallD Θ M (.type "bool") xs Q)
    (he : ∀ env, starEach (e :: es) env = (false, eval e env) :: starEach es env := by intro _; rfl) (hpl : ∀ env, (backTo pos (starEach es env)).any (·.1) = false := by intro _; rfl) : dE Θ M (.Call (.Name "bool" p) (e :: es) [] pos) Γ Ex Q := d_callTy hg hm bt_bool h (by decide) (by decide) he hpl
theorem d_t_bool (hm : Θ.mg "bool" = none) (hg : Θ.sc.names.lookup ("bool" : Str) = some .globalImplicit) (hq : Q (.ty "bool")) : dE Θ M (.Name "bool" pos) Γ Ex Q := d_ty hg hm bt_bool hq (by decide) (by decide)
theorem bt_set : bootBuiltins "set" = some (.type "set") := by decide +kernel
theorem d_c_set (hm : Θ.mg "set" = none) (hg : Θ.sc.names.lookup ("set" : Str) = some .globalImplicit) (h : dA Θ M (e :: es) Γ Ex fun xs => CallD Θ M (.type "set") xs Q)
    (he : ∀ env, starEach (e :: es) env = (false, eval e env) :: starEach es env := by intro _; rfl) (hpl : ∀ env, (backTo pos (starEach es env)).any (·.1) = false := by intro _; rfl) : dE Θ M (.Call (.Name "set" p) (e :: es) [] pos) Γ Ex Q := d_callTy hg hm bt_set h (by decide) (by decide) he hpl
theorem d_t_set (hm : Θ.mg "set" = none) (hg : Θ.sc.names.lookup ("set" : Str) = some .globalImplicit) (hq : Q (.ty "set")) : dE Θ M (.Name "set" pos) Γ Ex Q := d_ty hg hm bt_set hq (by decide) (by decide)
end
end Dl
set_option Elab.async false
set_option linter.all false
set_option maxRecDepth 100000
set_option maxHeartbeats 2000000
set_option autoImplicit false
namespace Dl
open PySem PySem.Spec PyProof.Rows L2
section
variable {Θ : Th} {M M0 : List Addr} {Γ : Gm} {Ex : Xn → Prop} {Q : Sl → Prop} {T : Bool → Prop} {P : List PyData → Prop} {a b c0 e tg iter elt : Expr} {es : List Expr} {pos p : Pos} {x : Str}
/-! ### a < b < c -/
theorem d_chain {op op' : CmpOp} (h : dE Θ M a Γ Ex fun x => dE Θ M b Γ Ex fun y => OpD Θ M (compareOp op) x y fun z => ∃ k, z = .dat (.bool k) ∧ (k = true → dE Θ M c0 Γ Ex fun w => OpD Θ M (compareOp op') y w Q) ∧ (k = false → Q (.dat (.bool false))))
    (hm : lastMarks [op, op'] [b, c0] = false := by with_unfolding_all rfl) : dE Θ M (.Compare a [op, op'] [b, c0] pos) Γ Ex Q := by
  intro X c σ H R E xr k
  refine wE_of (pe_chain wO.rule wO.rule (pe X a) (pe X b) (pe X c0) hm) ?_
  refine h X c σ H _ E xr fun v s H1 e1 ok q => ?_
  refine q X c σ H1 _ (E.evo e1) (xr.evo e1) fun v2 s2 H2 e2 ok2 q2 => ?_
  have hk1 := E.hk.evo e1
  have hk2 := hk1.evo e2
  refine q2 X c v v2 H2 _ hk2 (ok.ev hk1 e2) ok2 fun z s3 H3 e3 ok3 q3 => ?_
  obtain ⟨d, rfl, h1, h2⟩ := q3
  refine ⟨d, dat_bool ok3, ?_⟩
  cases d with
  | false => exact k _ _ H3 ((e1.trans e2).trans e3) (.dat (.bl false)) (h2 rfl)
  | true =>
    refine h1 rfl X c σ H3 _ (((E.evo e1).evo e2).evo e3) (((xr.evo e1).evo e2).evo e3) fun v4 s4 H4 e4 ok4 q4 => ?_
    have hk3 := hk2.evo e3
    exact q4 X c v2 v4 H4 _ (hk3.evo e4) ((ok2.ev hk2 e3).ev hk3 e4) ok4 fun z s H' e' ok' q' => k z s H' ((((e1.trans e2).trans e3).trans e4).trans e') ok' q'
/-! ### more operations -/
theorem o_mul {i j : Int} (h : CMul i j) (hq : Q (.dat (.int (i * j)))) : OpD Θ M (binaryOp .Mult) (.dat (.int i)) (.dat (.int j)) Q := OpD.ints (fun X => op_mul) h (fun H => .int _) hq
theorem o_fdiv {i j : Int} (h : CDiv i j) (hq : Q (.dat (.int (i / j)))) : OpD Θ M (binaryOp .FloorDiv) (.dat (.int i)) (.dat (.int j)) Q := OpD.ints (fun X => op_fdiv) h (fun H => .int _) hq
theorem o_pow {i j : Int} (h : CPow i j) (hq : Q (.dat (.int (i ^ j.toNat)))) : OpD Θ M (binaryOp .Pow) (.dat (.int i)) (.dat (.int j)) Q := OpD.ints (fun X => op_pow) h (fun H => .int _) hq
theorem o_inS {ch : Nat} {z : Str} (hq : Q (.dat (.bool (decide (ch ∈ z.cps.toList))))) : OpD Θ M (compareOp .In) (.dat (.str ⟨#[ch]⟩)) (.dat (.str z)) Q :=
  OpD.of (fun X c => op_in_sign) fun X c v w H R hk h1 h2 k => ⟨ch, z, dat_str h1, dat_str h2, k _ _ H (Evo.refl H) (.dat (.bl _)) hq⟩
theorem o_notInS {ch : Nat} {z : Str} (hq : Q (.dat (.bool (!decide (ch ∈ z.cps.toList))))) : OpD Θ M (compareOp .NotIn) (.dat (.str ⟨#[ch]⟩)) (.dat (.str z)) Q :=
  OpD.of (fun X c => op_notIn_sign) fun X c v w H R hk h1 h2 k => ⟨ch, z, dat_str h1, dat_str h2, k _ _ H (Evo.refl H) (.dat (.bl _)) hq⟩
theorem Cpt.units65 {X : Cx} (c : Cpt Θ X) : X.A.units + 65 < cLine := by
  have := c.room.un
  omega
theorem o_inL {d : PyData} {ds : List PyData} (sd : SeqAt.shaped d = true) (se : SeqAt.shaped (.list ds) = true) (hq : Q (.dat (.bool (ds.any fun z => PyData.eqv z d)))) : OpD Θ M (compareOp .In) (.dat d) (.dat (.list ds)) Q :=
  OpD.of (r := fun X => rInD X.K) (fun X c => op_inD c.units65) fun X c v w H R hk h1 h2 k => ⟨d, ds, by rw [c.K]; exact Dv.dp _ _ (dat_d h1), by rw [c.K]; exact Dv.dp _ _ (dat_d h2), sd, se, k _ _ H (Evo.refl H) (.dat (.bl _)) hq⟩
theorem o_notInL {d : PyData} {ds : List PyData} (sd : SeqAt.shaped d = true) (se : SeqAt.shaped (.list ds) = true) (hq : Q (.dat (.bool (!ds.any fun z => PyData.eqv z d)))) : OpD Θ M (compareOp .NotIn) (.dat d) (.dat (.list ds)) Q :=
  OpD.of (r := fun X => rNotInD X.K) (fun X c => op_notInD c.units65) fun X c v w H R hk h1 h2 k => ⟨d, ds, by rw [c.K]; exact Dv.dp _ _ (dat_d h1), by rw [c.K]; exact Dv.dp _ _ (dat_d h2), sd, se, k _ _ H (Evo.refl H) (.dat (.bl _)) hq⟩
def rInT (K : PySem.W.Frag) : R2 := fun x y H Q => ∃ d ds, Dp K H x d ∧ Dp K H y (.tuple ds) ∧ SeqAt.shaped d = true ∧ SeqAt.shaped (.tuple ds) = true ∧ Q (.bl (ds.any fun z => PyData.eqv z d)) H
def rNotInT (K : PySem.W.Frag) : R2 := fun x y H Q => ∃ d ds, Dp K H x d ∧ Dp K H y (.tuple ds) ∧ SeqAt.shaped d = true ∧ SeqAt.shaped (.tuple ds) = true ∧ Q (.bl (!ds.any fun z => PyData.eqv z d)) H
theorem op_inT {X : Cx} (hu : X.A.units + 65 < cLine) : OpR X (compareOp .In) (rInT X.K) := by
  intro pins s σ H x y v u Q I rx ry h
  obtain ⟨d, ds, hd, he, sd, se, q⟩ := h
  obtain ⟨as, r1⟩ := Dp.reads I d x v hd rx
  obtain ⟨bs, r2⟩ := Dp.reads I (.tuple ds) y u he ry
  exact SeqAt.in_tuple_reads r2 r1 (SeqAt.canLay_of_shaped se) (SeqAt.canLay_of_shaped sd) (room_in_shaped sd hu) ⟨.bl _, H, I, rfl, q⟩
theorem op_notInT {X : Cx} (hu : X.A.units + 65 < cLine) : OpR X (compareOp .NotIn) (rNotInT X.K) := by
  intro pins s σ H x y v u Q I rx ry h
  obtain ⟨d, ds, hd, he, sd, se, q⟩ := h
  obtain ⟨as, r1⟩ := Dp.reads I d x v hd rx
  obtain ⟨bs, r2⟩ := Dp.reads I (.tuple ds) y u he ry
  exact SeqAt.notIn_tuple_reads r2 r1 (SeqAt.canLay_of_shaped se) (SeqAt.canLay_of_shaped sd) (room_in_shaped sd hu) ⟨.bl _, H, I, rfl, q⟩
theorem o_inT {d : PyData} {ds : List PyData} (sd : SeqAt.shaped d = true) (se : SeqAt.shaped (.tuple ds) = true) (hq : Q (.dat (.bool (ds.any fun z => PyData.eqv z d)))) : OpD Θ M (compareOp .In) (.dat d) (.dat (.tuple ds)) Q :=
  OpD.of (r := fun X => rInT X.K) (fun X c => op_inT c.units65) fun X c v w H R hk h1 h2 k => ⟨d, ds, by rw [c.K]; exact Dv.dp _ _ (dat_d h1), by rw [c.K]; exact Dv.dp _ _ (dat_d h2), sd, se, k _ _ H (Evo.refl H) (.dat (.bl _)) hq⟩
theorem o_notInT {d : PyData} {ds : List PyData} (sd : SeqAt.shaped d = true) (se : SeqAt.shaped (.tuple ds) = true) (hq : Q (.dat (.bool (!ds.any fun z => PyData.eqv z d)))) : OpD Θ M (compareOp .NotIn) (.dat d) (.dat (.tuple ds)) Q :=
  OpD.of (r := fun X => rNotInT X.K) (fun X c => op_notInT c.units65) fun X c v w H R hk h1 h2 k => ⟨d, ds, by rw [c.K]; exact Dv.dp _ _ (dat_d h1), by rw [c.K]; exact Dv.dp _ _ (dat_d h2), sd, se, k _ _ H (Evo.refl H) (.dat (.bl _)) hq⟩
/-! ### a text is walked -/
def signsD (z : Str) : List PyData := z.cps.toList.map fun c => .str ⟨#[c]⟩
theorem walkD_str {Θ : Wd} {z : Str} : WalkD Θ (Its z) (signsD z) (fun _ _ => True) := by
  refine ⟨fun M => ?_, fun _ _ _ _ _ => True.intro, fun _ _ _ _ _ => True.intro, fun _ _ _ _ _ => True.intro⟩
  have e : (signsD z).length = z.cps.size := by simp [signsD]
  rw [e]
  refine ⟨fun i H hi g => hi, fun H g => Nat.le_refl _, fun i H x H' hi g y hk => ?_⟩
  obtain ⟨e, ch, hc, hx⟩ := y
  subst e
  refine ⟨Evo.refl _, .str ⟨#[ch]⟩, ?_, ?_⟩
  · unfold signsD
    rw [List.getElem?_map, Array.getElem?_toList, hc]
    rfl
  · rw [hx]; exact .str _
theorem i_str (h : dE Θ M e Γ Ex fun s => ∃ z, s = .dat (.str z) ∧ P (signsD z)) : dI Θ M tg e Γ Ex P := by
  intro X c σ H R E xr k
  refine wI_of (pi_str (pe X e)) (h X c σ H _ E xr fun v s H1 e1 ok q => ?_)
  obtain ⟨z, rfl, q⟩ := q
  exact ⟨z, dat_str ok, k _ H1 _ _ e1 q walkD_str True.intro⟩
/-! ### typed data: comprehensions, loops -/
theorem l_T {QL : List PyData → Prop} {α : Type} (enc : α → PyData) (f : α → PyData) {scope : Scope} {own : List (Str × Nat)} {is : List Nat} (ok : blkC Θ.N Θ.sc scope own = true) (his : ∀ i ∈ is, i ∈ own.map (·.2))
    (h : dI Θ M tg iter Γ Ex fun ds => ∃ xs : List α, ds = xs.map enc ∧ ds.length ≤ sizeLine ∧ (∀ (D : Addr) (x : α), x ∈ xs → dG (Θ.blk scope) (D :: M) tg (.dat (enc x)) (wipeG Γ (own.map (·.2))) is fun Γ' => dE (Θ.blk scope) (D :: M) elt Γ' (fun _ => False) fun y => y = .dat (f x)) ∧ QL (xs.map f)) : LcO Θ M elt tg iter [] scope Γ Ex QL := by
  refine l_A (fun X => tYes) ok his (fun X c s H C cl fp => pts_nil) (h.mono fun ds ⟨xs, h0, h1, h2, h3⟩ => ⟨fun i acc => acc = (xs.take i).map f, h1, rfl, fun D i d acc hd hA => ?_, fun acc hA _ => ?_⟩)
  · rw [h0, List.getElem?_map] at hd
    cases hx : xs[i]? with
    | none => rw [hx] at hd; cases hd
    | some x =>
      rw [hx] at hd
      cases hd
      intro X c v σ H R E ok k
      refine h2 D x (List.mem_of_getElem? hx) X c v σ H R E ok fun Γ' σ' E' hw q => k Γ' σ' E' hw fun X2 c2 σ2 H2 R2 E2 k2 => ?_
      refine k2 true H2 (Evo.refl _) (fun _ => dE.mono q fun s hs => ⟨f x, hs, ?_⟩) (fun z => by cases z)
      show acc ++ [f x] = (xs.take (i + 1)).map f
      rw [hA, List.take_add_one, hx, List.map_append]
      rfl
  · have hA' : acc = (xs.take ds.length).map f := hA
    rw [hA', h0, List.length_map, List.take_length]
    exact h3
theorem l_TF {QL : List PyData → Prop} {α : Type} (enc : α → PyData) (g : α → Bool) (f : α → PyData) {c0 : Expr} {scope : Scope} {own : List (Str × Nat)} {is : List Nat} (ok : blkC Θ.N Θ.sc scope own = true) (his : ∀ i ∈ is, i ∈ own.map (·.2))
    (h : dI Θ M tg iter Γ Ex fun ds => ∃ xs : List α, ds = xs.map enc ∧ ds.length ≤ sizeLine ∧ (∀ (D : Addr) (x : α), x ∈ xs → dG (Θ.blk scope) (D :: M) tg (.dat (enc x)) (wipeG Γ (own.map (·.2))) is fun Γ' => dT (Θ.blk scope) (D :: M) c0 Γ' (fun _ => False) fun b => b = g x ∧ (b = true → dE (Θ.blk scope) (D :: M) elt Γ' (fun _ => False) fun y => y = .dat (f x))) ∧ QL ((xs.filter g).map f)) : LcO Θ M elt tg iter [c0] scope Γ Ex QL := by
  refine l_A (fun X => fun σ H R => ∀ s0 H0 C cl fp, wT (X.blk s0 H0 scope (compEnvC scope cl C X.env) fp) c0 σ H R) ok his (fun X c s H C cl fp => pts_one ⟨fun pins s' σ H' Q I q => (pt _ _).run pins s' σ H' Q I (q s H C cl fp)⟩) (h.mono fun ds ⟨xs, h0, h1, h2, h3⟩ => ⟨fun i acc => acc = ((xs.take i).filter g).map f, h1, rfl, fun D i d acc hd hA => ?_, fun acc hA _ => ?_⟩)
  · rw [h0, List.getElem?_map] at hd
    cases hx : xs[i]? with
    | none => rw [hx] at hd; cases hd
    | some x =>
      rw [hx] at hd
      cases hd
      intro X c v σ H R E ok k
      refine h2 D x (List.mem_of_getElem? hx) X c v σ H R E ok fun Γ' σ' E' hw q => k Γ' σ' E' hw fun X2 c2 σ2 H2 R2 E2 k2 s0 H0 C cl fp => ?_
      refine q _ (c2.blk s0 H0 scope C cl fp) σ2 H2 R2 E2 XR.none fun b H' e' ⟨hb, hy⟩ => k2 b H' e' (fun hbt => dE.mono (hy hbt) fun s hs => ⟨f x, hs, ?_⟩) (fun hbf => ?_)
      · show acc ++ [f x] = ((xs.take (i + 1)).filter g).map f
        rw [hA, List.take_add_one, hx, List.filter_append, List.map_append]
        have : g x = true := by rw [← hb]; exact hbt
        simp [this]
      · show acc = ((xs.take (i + 1)).filter g).map f
        rw [hA, List.take_add_one, hx, List.filter_append, List.map_append]
        have : g x = false := by rw [← hb]; exact hbf
        simp [this]
  · have hA' : acc = ((xs.take ds.length).filter g).map f := hA
    rw [hA', h0, List.length_map, List.take_length]
    exact h3
/-- each turn draws: r x y tells what may come -/
theorem l_TR {QL : List PyData → Prop} {α β : Type} (enc : α → PyData) (enc' : β → PyData) (r : α → β → Prop) {scope : Scope} {own : List (Str × Nat)} {is : List Nat} (ok : blkC Θ.N Θ.sc scope own = true) (his : ∀ i ∈ is, i ∈ own.map (·.2))
    (h : dI Θ M tg iter Γ Ex fun ds => ∃ xs : List α, ds = xs.map enc ∧ ds.length ≤ sizeLine ∧ (∀ (D : Addr) (x : α), x ∈ xs → dG (Θ.blk scope) (D :: M) tg (.dat (enc x)) (wipeG Γ (own.map (·.2))) is fun Γ' => dE (Θ.blk scope) (D :: M) elt Γ' (fun _ => False) fun y => ∃ z, y = .dat (enc' z) ∧ r x z) ∧
      (∀ zs : List β, zs.length = xs.length → (∀ (i : Nat) (x : α) (z : β), xs[i]? = some x → zs[i]? = some z → r x z) → QL (zs.map enc'))) : LcO Θ M elt tg iter [] scope Γ Ex QL := by
  refine l_A (fun X => tYes) ok his (fun X c s H C cl fp => pts_nil) (h.mono fun ds ⟨xs, h0, h1, h2, h3⟩ => ⟨fun i acc => i ≤ xs.length → ∃ zs : List β, acc = zs.map enc' ∧ zs.length = i ∧ ∀ (j : Nat) (x : α) (z : β), xs[j]? = some x → zs[j]? = some z → r x z, h1, fun _ => ⟨[], rfl, rfl, fun j x z _ q => by simp at q⟩, fun D i d acc hd hA => ?_, fun acc hA _ => ?_⟩)
  · rw [h0, List.getElem?_map] at hd
    cases hx : xs[i]? with
    | none => rw [hx] at hd; cases hd
    | some x =>
      rw [hx] at hd
      cases hd
      have hi : i < xs.length := (List.getElem?_eq_some_iff.mp hx).1
      obtain ⟨zs, a0, a1, a2⟩ := hA (Nat.le_of_lt hi)
      intro X c v σ H R E ok k
      refine h2 D x (List.mem_of_getElem? hx) X c v σ H R E ok fun Γ' σ' E' hw q => k Γ' σ' E' hw fun X2 c2 σ2 H2 R2 E2 k2 => ?_
      refine k2 true H2 (Evo.refl _) (fun _ => dE.mono q fun s ⟨z, hs, hr⟩ => ⟨enc' z, hs, fun _ => ⟨zs ++ [z], by rw [a0, List.map_append]; rfl, by rw [List.length_append, a1]; rfl, fun j x' z' e1 e2 => ?_⟩⟩) (fun z => by cases z)
      by_cases hj : j < zs.length
      · rw [List.getElem?_append_left hj] at e2
        exact a2 j x' z' e1 e2
      · rw [List.getElem?_append_right (by omega)] at e2
        have e3 : j - zs.length = 0 := by
          cases q : j - zs.length with
          | zero => rfl
          | succ n => rw [q] at e2; simp at e2
        have e4 : j = i := by omega
        subst e4
        rw [hx] at e1
        cases e1
        rw [e3] at e2
        simp at e2
        rw [← e2]
        exact hr
  · rw [h0, List.length_map] at hA
    obtain ⟨zs, a0, a1, a2⟩ := hA (Nat.le_refl _)
    rw [a0]
    exact h3 zs a1 a2
theorem c_allT {α : Type} {xs : List α} {g : α → Bool} (hq : Q (.dat (.bool (xs.all g)))) : CallD Θ M (.builtin "all") [.dat (.list (xs.map fun d => PyData.bool (g d)))] Q := by
  have e : (xs.map fun d => PyData.bool (g d)) = (xs.map g).map PyData.bool := by rw [List.map_map]; rfl
  rw [e]
  refine c_all ?_
  rw [List.all_map]
  exact hq
theorem s_forT {α : Type} {Rt : Sl → Prop} {Kn : List Addr → Gm → Prop} {body : List Stmt} (xs : List α) (enc : α → PyData) (is : List Nat) (I : Nat → List Addr → Gm → Prop) (h : dI Θ M tg iter Γ Ex fun ds => ds = xs.map enc ∧ I 0 M Γ ∧
      (∀ (i : Nat) (x : α) M Γ, xs[i]? = some x → I i M Γ → dG Θ M tg (.dat (enc x)) Γ is fun Γ' => dSs Θ M0 M body Γ' Ex Rt fun M' Γ' => I (i + 1) M' Γ') ∧ (∀ M Γ, I xs.length M Γ → Kn M Γ))
    (hs : ∀ env x, foldedSetIterable iter env x = pure x := by intro _ _; rfl) : dS Θ M0 M (.For tg iter body [] pos) Γ Ex Rt Kn := by
  refine s_for is (h.mono fun ds ⟨h0, h1, h2, h3⟩ => ⟨I, h1, fun i d M Γ hd hI => ?_, fun M Γ hI => h3 M Γ (by rw [h0, List.length_map] at hI; exact hI)⟩) hs
  rw [h0, List.getElem?_map] at hd
  cases hx : xs[i]? with
  | none => rw [hx] at hd; cases hd
  | some x =>
    rw [hx] at hd
    cases hd
    exact h2 i x M Γ hx hI
/-- pairs of typed data -/
theorem pairsT {α β : Type} (xs : List α) (ys : List β) (f : α → PyData) (g : β → PyData) : pairsD (xs.map f) (ys.map g) = (xs.zip ys).map fun p => .tuple [f p.1, g p.2] := by
  unfold pairsD
  rw [List.zipWith_map, List.zip, List.map_zipWith]
theorem rngT (lo : Int) (n : Nat) : rngD lo n = (List.range n).map fun i => .int (lo + (i : Nat)) := rfl
end
end Dl
set_option Elab.async false
set_option linter.all false
set_option maxRecDepth 100000
set_option maxHeartbeats 2000000
set_option autoImplicit false
namespace Dl
open PySem PySem.Spec PyProof.Rows L2
/-! ### lists of the frame's own -/
theorem EnvOk.adopt {W : Wd} {M : List Addr} {Γ : Gm} {σ : L2.St} {H H' : Hp} {D : Addr} {xs : List V} (E : EnvOk W M Γ σ H) (hD : H D = none) (e : Evo W H H') (hH : H' D = some (.lst xs)) : EnvOk W (D :: M) Γ σ H' := by
  have E1 := E.evo e
  refine ⟨E1.good, E1.len, List.mem_cons_of_mem _ E.bM, fun m hm => ?_, fun i s h => ?_⟩
  · rcases List.mem_cons.mp hm with rfl | hm
    · exact ⟨xs, hH⟩
    · exact E1.trk m hm
  · obtain ⟨v, h1, h2⟩ := E.at_ i s h
    refine ⟨v, h1, ?_⟩
    have h3 := h2.fresh hD
    have st : Stay (D :: M) H H' := (E.hk.stay e).more fun a ha => List.mem_cons_of_mem _ ha
    cases h3 with
    | dat hd => exact .dat (Dv.stay st _ _ hd)
    | own q1 q2 q3 q4 => exact .own q1 q2 (e.keep _ _ q3 q2 (fun _ z => by cases z)) (DvAll.stay st _ _ q4)
    | bag => exact .bag
    | fn f => exact .fn f
    | ty n => exact .ty n
    | kn z1 z2 => exact .kn z1 (z1 _ _ (fun a o h n t => st a o h (fun _ => n) t) z2)
theorem StK.adopt {W : Wd} {M0 M : List Addr} {Γ : Gm} {σ : L2.St} {H0 H H' : Hp} {F : List Addr → Hp → Prop} {D : Addr} {xs : List V} (s : StK W M0 M Γ σ H0 H F) (hF : Frame F) (hD : H D = none) (e : Evo W H H') (hH : H' D = some (.lst xs)) : StK W M0 (D :: M) Γ σ H0 H' F where
  env := s.env.adopt hD e hH
  g0 := s.g0
  ev := s.ev.trans e
  sub := fun a ha => List.mem_cons_of_mem _ (s.sub a ha)
  new := fun a ha => by
    rcases List.mem_cons.mp ha with rfl | ha
    · exact .inr (s.ev.has _ hD)
    · exact s.new a ha
  fr := hF.st _ _ _ (hF.fr _ _ _ s.fr hD) ((s.env.hk.stay e).more fun a ha => List.mem_cons_of_mem _ ha)
def noOwnAt : Nat → Gm → Bool
  | _, [] => true
  | 0, _ :: Γ => noOwnAt' Γ
  | i + 1, some (.own _ _) :: _ => false
  | i + 1, _ :: Γ => noOwnAt i Γ
where noOwnAt' : Gm → Bool
  | [] => true
  | some (.own _ _) :: _ => false
  | _ :: Γ => noOwnAt' Γ
theorem noOwn' : ∀ {Γ : Gm}, noOwnAt.noOwnAt' Γ = true → ∀ (j : Nat) (a : Addr) (ds : List PyData), Γ[j]? ≠ some (some (.own a ds))
  | [], _, j, a, ds => by simp
  | g :: Γ, h, j, a, ds => by
    cases j with
    | zero =>
      intro e
      simp at e
      subst e
      simp [noOwnAt.noOwnAt'] at h
    | succ j =>
      have h' : noOwnAt.noOwnAt' Γ = true := by
        unfold noOwnAt.noOwnAt' at h
        split at h
        · simp at *
        · cases h
        · rename_i e1 e2
          cases e2
          exact h
      simpa using noOwn' h' j a ds
theorem noOwn_ok : ∀ {i : Nat} {Γ : Gm}, noOwnAt i Γ = true → ∀ (j : Nat) (a : Addr) (ds : List PyData), j ≠ i → Γ[j]? ≠ some (some (.own a ds))
  | _, [], _, j, a, ds, _ => by simp
  | 0, g :: Γ, h, j, a, ds, hj => by
    cases j with
    | zero => exact absurd rfl hj
    | succ j => simpa using noOwn' (show noOwnAt.noOwnAt' Γ = true from h) j a ds
  | i + 1, g :: Γ, h, j, a, ds, hj => by
    cases j with
    | zero =>
      intro e
      simp at e
      subst e
      simp [noOwnAt] at h
    | succ j =>
      have h' : noOwnAt i Γ = true := by
        unfold noOwnAt at h
        split at h
        · simp at *
        · simp at *
        · cases h
        · rename_i e1 e2
          cases e1
          cases e2
          exact h
      simpa using noOwn_ok h' j a ds (fun z => hj (by rw [z]))
/-- the own list is written -/
theorem StK.wr {W : Wd} {M0 M : List Addr} {Γ : Gm} {σ : L2.St} {H0 H : Hp} {F : List Addr → Hp → Prop} {i : Nat} {a : Addr} {ds ds' : List PyData} {xs ys : List V} (s : StK W M0 M Γ σ H0 H F) (hF : Frame F) (hi : Γ[i]? = some (some (.own a ds))) (no : noOwnAt i Γ = true) (h0 : a ∉ M0)
    (hH : H a = some (.lst ys)) (hx : DvAll W.K M H xs ds') : StK W M0 M (Γ.set i (some (.own a ds'))) σ H0 (upd H a (.lst xs)) F := by
  obtain ⟨v, h1, h2⟩ := s.env.at_ i _ hi
  have hM : a ∈ M := by cases h2 with | own q1 _ _ _ => exact q1
  have hb : a ≠ W.b := by cases h2 with | own _ q2 _ _ => exact q2
  have hv : v = .ref a := by cases h2 with | own _ _ _ _ => rfl
  have hn : H0 a = none := (s.new a hM).elim (fun z => absurd z h0) id
  have st : Stay M H (upd H a (.lst xs)) := fun b o h n t => by
    by_cases hb : b = a
    · subst hb
      rw [hH] at h
      cases h
      exact absurd rfl (n hM ys)
    · rw [upd_ne hb]
      exact h
  have ev := s.ev.write (xs := xs) hn hH s.g0.good
  refine ⟨⟨ev.good s.g0.good, by rw [List.length_set]; exact s.env.len, s.env.bM, fun m hm => ?_, fun j t hj => ?_⟩, s.g0, ev, s.sub, s.new, hF.st _ _ _ s.fr st⟩
  · by_cases hm2 : m = a
    · subst hm2
      exact ⟨xs, upd_same⟩
    · obtain ⟨zs, hz⟩ := s.env.trk m hm
      exact ⟨zs, by rw [upd_ne hm2]; exact hz⟩
  · by_cases hij : i = j
    · subst hij
      have hl : i < Γ.length := by
        have q := (List.getElem?_eq_some_iff.mp hj).1
        rwa [List.length_set] at q
      rw [List.getElem?_set_self hl] at hj
      cases hj
      refine ⟨v, h1, ?_⟩
      rw [hv]
      exact .own hM hb upd_same (DvAll.stay st _ _ hx)
    · rw [List.getElem?_set_ne hij] at hj
      obtain ⟨w, e1, e2⟩ := s.env.at_ j t hj
      refine ⟨w, e1, ?_⟩
      cases e2 with
      | dat hd => exact .dat (Dv.stay st _ _ hd)
      | @own a2 zs es q1 q2 q3 q4 =>
        have ha : a2 ≠ a := fun z => noOwn_ok no j a2 es (Ne.symm hij) hj
        exact .own q1 q2 (by rw [upd_ne ha]; exact q3) (DvAll.stay st _ _ q4)
      | bag => exact .bag
      | fn f => exact .fn f
      | ty n => exact .ty n
      | kn z1 z2 => exact .kn z1 (z1 _ _ (fun a o h n t => st a o h (fun _ => n) t) z2)
/-- the own list is changed no more -/
theorem StK.freeze {W : Wd} {M0 M : List Addr} {Γ : Gm} {σ : L2.St} {H0 H : Hp} {F : List Addr → Hp → Prop} {i : Nat} {a : Addr} {ds : List PyData} (s : StK W M0 (a :: M) Γ σ H0 H F) (hF : Frame F) (hi : Γ[i]? = some (some (.own a ds))) (no : noOwnAt i Γ = true) (h0 : a ∉ M0) (hM : a ∉ M) :
    StK W M0 M (Γ.set i (some (.dat (.list ds)))) σ H0 H F := by
  have ls : ∀ b ∈ M, b ∈ a :: M := fun b hb => List.mem_cons_of_mem _ hb
  have un : ∀ b ∈ a :: M, b ≠ a → b ∈ M := fun b hb n => (List.mem_cons.mp hb).elim (fun z => absurd z n) id
  obtain ⟨v, h1, h2⟩ := s.env.at_ i _ hi
  have hb : a ≠ W.b := by cases h2 with | own _ q2 _ _ => exact q2
  refine ⟨⟨s.env.good, by rw [List.length_set]; exact s.env.len, un _ s.env.bM (Ne.symm hb), fun m hm => s.env.trk m (ls m hm), fun j t hj => ?_⟩, ⟨s.g0.good, s.g0.bM, s.g0.trk⟩, s.ev, fun b hb' => un b (s.sub b hb') (fun z => h0 (by rw [← z]; exact hb')), fun b hb' => s.new b (ls b hb'), hF.ls _ _ _ s.fr ls⟩
  by_cases hij : i = j
  · subst hij
    have hl : i < Γ.length := by
      have q := (List.getElem?_eq_some_iff.mp hj).1
      rwa [List.length_set] at q
    rw [List.getElem?_set_self hl] at hj
    cases hj
    refine ⟨v, h1, ?_⟩
    cases h2 with
    | own q1 q2 q3 q4 => exact .dat (.lst hM q3 (DvAll.less ls _ _ q4))
  · rw [List.getElem?_set_ne hij] at hj
    obtain ⟨w, e1, e2⟩ := s.env.at_ j t hj
    refine ⟨w, e1, ?_⟩
    cases e2 with
    | dat hd => exact .dat (Dv.less ls _ _ hd)
    | @own a2 zs es q1 q2 q3 q4 => exact absurd hj (noOwn_ok no j a2 es (Ne.symm hij))
    | bag => exact .bag
    | fn f => exact .fn f
    | ty n => exact .ty n
    | kn z1 z2 => exact .kn z1 z2
section
variable {Θ : Th} {M0 M : List Addr} {Γ : Gm} {Ex : Xn → Prop} {Q : Sl → Prop} {a b e tg iter elt : Expr} {es : List Expr} {pos p p2 p3 : Pos} {x y z : Str} {Kn : List Addr → Gm → Prop} {Rt : Sl → Prop} {sts : List Stmt} {i : Nat} {ad : Addr} {ds : List PyData}
theorem StK.setOwn {W : Wd} {σ : L2.St} {H0 H : Hp} {F : List Addr → Hp → Prop} {D : Addr} {xs : List V} (s : StK W M0 (D :: M) Γ σ H0 H F) (g : W.b ∈ M) (hM : D ∉ M) (hH : H D = some (.lst xs)) (da : DvAll W.K (D :: M) H xs ds) : StK W M0 (D :: M) (Γ.set i (some (.own D ds))) (σ.set i (some (.ref D))) H0 H F :=
  s.set (.own List.mem_cons_self (fun z => hM (by rw [z]; exact g)) hH da)
/-- y = [a, b, ..], to be changed -/
theorem s_new (hN : posN Θ.N x = some i) (hx : locB Θ.sc x = true) (hf : Θ.full = true) (h : dA Θ M es Γ Ex fun ss => ∃ ds, Dats ss ds ∧ ds.length ≤ sizeLine ∧ ∀ D, D ∉ M0 → D ∉ M → Kn (D :: M) (Γ.set i (some (.own D ds))))
    (hs : ∀ env : Env, env.scope = Θ.sc → swapsWith (.List es p2) (some (.Name x p)) pos.line env = pure false := by intro _ _; rfl) : dS Θ M0 M (.Assign [.Name x p] (.List es p2) pos) Γ Ex Rt Kn := by
  intro X c F hF H0 σ H D s xt kn rt
  refine wS_of (ps_set (i := i) c.nd (by rw [c.N]; exact posN_ok hN) (by rw [c.sc]; exact locB_ok hx) (pe_lst (pa X es)) (hs _ c.sc) (.inl (c.cel hf x))) (h X c σ H _ s.env (xt.xr s.sub s.ev) fun vs ss H1 e1 ok q => ?_)
  obtain ⟨ds, hd, hl, hq⟩ := q
  have da := hd.all ok
  refine ⟨by rw [da.length]; exact hl, fun p hp => ?_⟩
  have s1 := s.evo hF e1
  have nM := s1.env.hk.nin hp
  have s2 := s1.adopt hF hp (Evo.new (o := .lst vs) hp) upd_same
  have st : Stay (p :: M) H1 (upd H1 p (.lst vs)) := (s1.env.hk.stay (Evo.new hp)).more fun a ha => List.mem_cons_of_mem _ ha
  exact kn _ _ _ _ (s2.setOwn s1.env.bM nM upd_same (DvAll.stay st _ _ (DvAll.fresh hp _ _ da))) (hq p (fun z => nM (s.sub p z)) nM)
/-- y = [.. for ..], on one line -/
theorem s_lcO {ifs : List Expr} {scope : Scope} {Q' : List PyData → Prop} (hN : posN Θ.N x = some i) (hx : Θ.sc.names.lookup x = some .local) (h : LcO Θ M elt tg iter ifs scope Γ Ex Q') (hq : ∀ ds, Q' ds → ∀ D, D ∉ M0 → D ∉ M → Kn (D :: M) (Γ.set i (some (.own D ds))))
    (hk : Θ.sc.kind = .function) (hl : (p.line == p2.line) = true) (ha : (scope.names.any fun (n, k) => n == x && (k == .local || k == .cell)) = false)
    (hs : ∀ env x, foldedSetIterable iter env x = pure x := by intro _ _; rfl) : dS Θ M0 M (.Assign [.Name x p] (.ListComp elt [⟨tg, iter, ifs, 0⟩] scope p2) pos) Γ Ex Rt Kn := by
  intro X c F hF H0 σ H D s xt kn rt
  obtain ⟨wi, g, tt, te, own, h1, h2, h3, h4, h5, h6⟩ := h X c σ H (fun v H1 => gName i v σ H1 D.nx) s.env (xt.xr s.sub s.ev) fun D xs ds H' hD e hH da q => by
    have s2 := s.adopt hF hD e hH
    have nM := s.env.hk.nin hD
    exact kn _ _ _ _ (s2.setOwn s.env.bM nM hH da) (hq ds q D (fun z => nM (s.sub D z)) nM)
  exact wS_of (ps_setLc c.calm c.nd (by rw [c.N]; exact posN_ok hN) (by rw [c.sc]; exact hx) (sw_true (by rw [c.sc]; exact hk) (by rw [c.sc]; exact hx) hl ha) h1 h2 h3 h4 h5 (hs _)) h6
theorem s_lc {ifs : List Expr} {scope : Scope} {Q' : List PyData → Prop} (hN : posN Θ.N x = some i) (hx : Θ.sc.names.lookup x = some .local) (h : LcO Θ M elt tg iter ifs scope Γ Ex Q') (hq : ∀ ds, Q' ds → Kn M (Γ.set i (some (.dat (.list ds)))))
    (hk : Θ.sc.kind = .function) (hl : (p.line == p2.line) = true) (ha : (scope.names.any fun (n, k) => n == x && (k == .local || k == .cell)) = false)
    (hs : ∀ env x, foldedSetIterable iter env x = pure x := by intro _ _; rfl) : dS Θ M0 M (.Assign [.Name x p] (.ListComp elt [⟨tg, iter, ifs, 0⟩] scope p2) pos) Γ Ex Rt Kn := by
  intro X c F hF H0 σ H D s xt kn rt
  obtain ⟨wi, g, tt, te, own, h1, h2, h3, h4, h5, h6⟩ := h X c σ H (fun v H1 => gName i v σ H1 D.nx) s.env (xt.xr s.sub s.ev) fun D xs ds H' hD e hH da q =>
    kn _ _ _ _ ((s.evo hF e).set (.dat (.lst (s.env.hk.nin hD) hH (DvAll.less (fun a ha => List.mem_cons_of_mem _ ha) _ _ da)))) (hq ds q)
  exact wS_of (ps_setLc c.calm c.nd (by rw [c.N]; exact posN_ok hN) (by rw [c.sc]; exact hx) (sw_true (by rw [c.sc]; exact hk) (by rw [c.sc]; exact hx) hl ha) h1 h2 h3 h4 h5 (hs _)) h6
theorem s_freeze (hN : posN Θ.N x = some i) (hΓ : Γ[i]? = some (some (.own ad ds))) (no : noOwnAt i Γ = true) (h0 : ad ∉ M0) (hM : ad ∉ M) (h : dSs Θ M0 M sts (Γ.set i (some (.dat (.list ds)))) Ex Rt Kn) : dSs Θ M0 (ad :: M) sts Γ Ex Rt Kn :=
  fun X c F hF H0 σ H D s xt kn rt => h X c F hF H0 σ H D (s.freeze hF hΓ no h0 hM) xt kn rt
/-- y.append(e) -/
theorem s_append {apos : Pos} (hN : posN Θ.N x = some i) (hv : visB Θ.sc x = true) (hΓ : Γ[i]? = some (some (.own ad ds))) (no : noOwnAt i Γ = true) (h0 : ad ∉ M0) (hl : ds.length < sizeLine)
    (h : dE Θ M e Γ Ex fun s => ∃ d, s = .dat d ∧ Kn M (Γ.set i (some (.own ad (ds ++ [d])))))
    (hbase : ∀ env, attributeBase (.Name x p) "append" env (eval (.Name x p) env) = eval (.Name x p) env := by intro _; rfl)
    (hfew : ∀ env, ((backTo p2 (starEach [e] env)).all (fun x => !x.1) && (backToKw p2 (keywordEach [] env)).all (fun x => x.1.isSome)
      && decide ([e].length + ([] : List Keyword).length + (if ([] : List Keyword).isEmpty then 0 else 1) < 30)) = true := by intro _; rfl)
    (hline : (apos.endLine == p2.line) = true := by rfl) (hs : ∀ env, starEach [e] env = (false, eval e env) :: starEach [] env := by intro _; rfl) (hplain : ∀ env, (backTo p2 (starEach [] env)).any (·.1) = false := by intro _; rfl)
    (hd : (x == ("__debug__" : Str)) = false := by decide) (hcd : (x == ("__classdict__" : Str)) = false := by decide) (hsw : ∀ env, swapsWith (.Call (.Attribute (.Name x p) "append" apos) [e] [] p2) none pos.line env = pure false := by intro _; rfl) :
    dS Θ M0 M (.Expr (.Call (.Attribute (.Name x p) "append" apos) [e] [] p2) pos) Γ Ex Rt Kn := by
  intro X c F hF H0 σ H D s xt kn rt
  obtain ⟨v, h1, h2⟩ := s.env.at_ i _ hΓ
  have hv' : v = .ref ad := by cases h2 with | own _ _ _ _ => rfl
  have hlst : ∃ xs, H ad = some (.lst xs) := by cases h2 with | own _ _ q3 _ => exact ⟨_, q3⟩
  refine wS_of (ps_expr (pe_bm PySem.F.plainAttrs_list PySem.F.slot_list_append rfl mt_append (pe_var (i := i) (by rw [c.N]; exact posN_ok hN) (by rw [c.sc]; exact visB_ok hv) hd hcd) (pa_cons (pe X e) pa_nil (hs _)) (hbase _) (hfew _) hline (hs _) (hplain _)) (hsw _)) ?_
  refine ⟨v, h1, ?_, h X c σ H _ s.env (xt.xr s.sub s.ev) fun w t H' e' ok q => ?_⟩
  · obtain ⟨xs, hx⟩ := hlst
    rw [hv']
    exact .inl ⟨rfl, xs, .of hx⟩
  · obtain ⟨d, rfl, q⟩ := q
    have s' := s.evo hF e'
    obtain ⟨v2, g1, g2⟩ := s'.env.at_ i _ hΓ
    cases g2 with
    | @own _ xs _ q1 q2 q3 q4 =>
      exact ⟨ad, xs, w, hv', rfl, q3, by rw [q4.length]; exact hl, kn _ _ _ _ (s'.wr hF hΓ no h0 q3 (q4.append (.cons (dat_d ok) .nil))) q⟩
/-- y.insert(a, b) -/
theorem s_insert {apos : Pos} (hN : posN Θ.N x = some i) (hv : visB Θ.sc x = true) (hΓ : Γ[i]? = some (some (.own ad ds))) (no : noOwnAt i Γ = true) (h0 : ad ∉ M0) (hl : ds.length < sizeLine)
    (h : dE Θ M a Γ Ex fun s => dE Θ M b Γ Ex fun t => ∃ (k : Nat) (d : PyData), s = .dat (.int (k : Int)) ∧ k < 2 ^ 63 ∧ t = .dat d ∧ Kn M (Γ.set i (some (.own ad (ds.take k ++ [d] ++ ds.drop k)))))
    (hbase : ∀ env, attributeBase (.Name x p) "insert" env (eval (.Name x p) env) = eval (.Name x p) env := by intro _; rfl)
    (hfew : ∀ env, ((backTo p2 (starEach [a, b] env)).all (fun x => !x.1) && (backToKw p2 (keywordEach [] env)).all (fun x => x.1.isSome)
      && decide ([a, b].length + ([] : List Keyword).length + (if ([] : List Keyword).isEmpty then 0 else 1) < 30)) = true := by intro _; rfl)
    (hline : (apos.endLine == p2.line) = true := by rfl) (hs : ∀ env, starEach [a, b] env = (false, eval a env) :: starEach [b] env := by intro _; rfl) (hs2 : ∀ env, starEach [b] env = (false, eval b env) :: starEach [] env := by intro _; rfl) (hplain : ∀ env, (backTo p2 (starEach [b] env)).any (·.1) = false := by intro _; rfl)
    (hd : (x == ("__debug__" : Str)) = false := by decide) (hcd : (x == ("__classdict__" : Str)) = false := by decide) (hsw : ∀ env, swapsWith (.Call (.Attribute (.Name x p) "insert" apos) [a, b] [] p2) none pos.line env = pure false := by intro _; rfl) :
    dS Θ M0 M (.Expr (.Call (.Attribute (.Name x p) "insert" apos) [a, b] [] p2) pos) Γ Ex Rt Kn := by
  intro X c F hF H0 σ H D s xt kn rt
  obtain ⟨v, h1, h2⟩ := s.env.at_ i _ hΓ
  have hv' : v = .ref ad := by cases h2 with | own _ _ _ _ => rfl
  have hlst : ∃ xs, H ad = some (.lst xs) := by cases h2 with | own _ _ q3 _ => exact ⟨_, q3⟩
  refine wS_of (ps_expr (pe_bm PySem.F.plainAttrs_list PySem.F.slot_list_insert rfl mt_insert (pe_var (i := i) (by rw [c.N]; exact posN_ok hN) (by rw [c.sc]; exact visB_ok hv) hd hcd) (pa_cons (pe X a) (pa_cons (pe X b) pa_nil (hs2 _)) (hs _)) (hbase _) (hfew _) hline (hs _) (hplain _)) (hsw _)) ?_
  refine ⟨v, h1, ?_, h X c σ H _ s.env (xt.xr s.sub s.ev) fun w t H1 e1 ok1 q => q X c σ H1 _ (s.env.evo e1) ((xt.xr s.sub s.ev).evo e1) fun u t2 H2 e2 ok2 q => ?_⟩
  · obtain ⟨xs, hx⟩ := hlst
    rw [hv']
    exact .inl ⟨rfl, xs, .of hx⟩
  · obtain ⟨k, d, rfl, hk, rfl, q⟩ := q
    have s' := (s.evo hF e1).evo hF e2
    obtain ⟨v2, g1, g2⟩ := s'.env.at_ i _ hΓ
    cases g2 with
    | @own _ xs _ q1 q2 q3 q4 =>
      refine ⟨ad, xs, (k : Int), u, hv', by rw [dat_int ok1], q3, by rw [q4.length]; exact hl, Int.natCast_nonneg k, by exact_mod_cast hk, ?_⟩
      exact kn _ _ _ _ (s'.wr hF hΓ no h0 q3 (((q4.take k).append (.cons (dat_d ok2) .nil)).append (q4.drop k))) q
/-- y[a] = e -/
theorem s_store {k0 : Nat} (hN : posN Θ.N x = some i) (hv : visB Θ.sc x = true) (hΓ : Γ[i]? = some (some (.own ad ds))) (no : noOwnAt i Γ = true) (h0 : ad ∉ M0)
    (h : dE Θ M e Γ Ex fun s => dE Θ M a Γ Ex fun t => ∃ (k : Nat) (d : PyData), t = .dat (.int (k : Int)) ∧ k < ds.length ∧ s = .dat d ∧ Kn M (Γ.set i (some (.own ad (ds.set k d)))))
    (hs : ∀ env, swapsWithSole [.Subscript (.Name x p) a p2] e pos.line env = pure false := by intro _; rfl) (hw : ∀ env, swappedStores [.Subscript (.Name x p) a p2] e env = pure none := by intro _; rfl) (h1 : ∀ env, (assignEach [.Subscript (.Name x p) a p2] env).map (·.2) = [assign (.Subscript (.Name x p) a p2) env] := by intro _; rfl)
    (ha : ∀ env v, assign (.Subscript (.Name x p) a p2) env v = (do
      let ov ← holding [v] (eval (.Name x p) env)
      let iv ← holding [v, ov] (eval a env)
      standAt p2
      holding [v, ov, iv] (setItem ov iv v)
      release [v, ov, iv] []) := by intro _ _; rfl)
    (hd : (x == ("__debug__" : Str)) = false := by decide) (hcd : (x == ("__classdict__" : Str)) = false := by decide) : dS Θ M0 M (.Assign [.Subscript (.Name x p) a p2] e pos) Γ Ex Rt Kn := by
  intro X c F hF H0 σ H D s xt kn rt
  refine wS_of (ps_asg (pe X e) (pg_sub (pe_var (i := i) (by rw [c.N]; exact posN_ok hN) (by rw [c.sc]; exact visB_ok hv) hd hcd) (pe X a) set_list (ha _)) (hs _) (hw _) (h1 _)) (h X c σ H _ s.env (xt.xr s.sub s.ev) fun w t H1 e1 ok1 q => ?_)
  have s1 := s.evo hF e1
  obtain ⟨v, g1, g2⟩ := s1.env.at_ i _ hΓ
  have hv' : v = .ref ad := by cases g2 with | own _ _ _ _ => rfl
  refine ⟨v, g1, q X c σ H1 _ s1.env ((xt.xr s.sub s.ev).evo e1) fun u t2 H2 e2 ok2 q => ?_⟩
  obtain ⟨k, d, rfl, hk, rfl, qk⟩ := q
  have s2 := s1.evo hF e2
  obtain ⟨v2, f1, f2⟩ := s2.env.at_ i _ hΓ
  cases f2 with
  | @own _ xs _ q1 q2 q3 q4 =>
    have ok1' := ok1.ev s1.env.hk e2
    exact ⟨ad, xs, (k : Int), k, hv', dat_int ok2, q3, by unfold ixN; rw [if_pos (by omega), if_pos (by rw [q4.length]; omega), Int.toNat_natCast], kn _ _ _ _ (s2.wr hF hΓ no h0 q3 (DvAll.set (dat_d ok1') k q4)) qk⟩
/-- l.index(e) -/
theorem d_index {apos : Pos} {o : Expr} (h : dE Θ M o Γ Ex fun s => ∃ ds : List PyData, s = .dat (.list ds) ∧ dE Θ M e Γ Ex fun t => ∃ (d : PyData) (j : Nat) (z : PyData), t = .dat d ∧ SeqAt.shaped (.list ds) = true ∧ SeqAt.shaped d = true ∧ ds[j]? = some z ∧ PyData.eqv z d = true ∧ (∀ (m : Nat) (z' : PyData), m < j → ds[m]? = some z' → PyData.eqv z' d = false) ∧ Q (.dat (.int (j : Nat))))
    (hbase : ∀ env, attributeBase o "index" env (eval o env) = eval o env := by intro _; rfl)
    (hfew : ∀ env, ((backTo p2 (starEach [e] env)).all (fun x => !x.1) && (backToKw p2 (keywordEach [] env)).all (fun x => x.1.isSome)
      && decide ([e].length + ([] : List Keyword).length + (if ([] : List Keyword).isEmpty then 0 else 1) < 30)) = true := by intro _; rfl)
    (hline : (apos.endLine == p2.line) = true := by rfl) (hs : ∀ env, starEach [e] env = (false, eval e env) :: starEach [] env := by intro _; rfl) (hplain : ∀ env, (backTo p2 (starEach [] env)).any (·.1) = false := by intro _; rfl) :
    dE Θ M (.Call (.Attribute o "index" apos) [e] [] p2) Γ Ex Q := by
  intro X c σ H R E xr k
  refine wE_of (pe_bm PySem.F.plainAttrs_list PySem.F.slot_list_index rfl (mt_indexD c.units65) (pe X o) (pa_cons (pe X e) pa_nil (hs _)) (hbase _) (hfew _) hline (hs _) (hplain _)) ?_
  refine h X c σ H _ E xr fun v s H1 e1 ok1 q => ?_
  have E1 := E.evo e1
  obtain ⟨ds, rfl, q⟩ := q
  refine ⟨?_, q X c σ H1 _ E1 (xr.evo e1) fun w t H2 e2 ok2 q2 => ?_⟩
  · obtain ⟨a, xs, rfl, na, ha, da⟩ := dat_list ok1
    exact .inl ⟨rfl, xs, .of ha⟩
  · obtain ⟨d, j, z, rfl, sl, sd, hz, hzj, hno, hq⟩ := q2
    have ok1' := ok1.ev E1.hk e2
    have d1 := dat_d ok1'
    obtain ⟨a, xs, rfl, na, ha, da⟩ := dat_list ok1'
    exact ⟨a, w, d, ds, j, z, rfl, rfl, by rw [c.K]; exact Dv.dp _ _ d1, by rw [c.K]; exact Dv.dp _ _ (dat_d ok2), sl, sd, hz, hzj, hno, k _ _ H2 (e1.trans e2) (.dat (.int _)) hq⟩
end
end Dl
set_option Elab.async false
set_option linter.all false
set_option maxRecDepth 100000
set_option maxHeartbeats 2000000
set_option autoImplicit false
namespace Dl
open PySem PySem.Spec PyProof.Rows L2
/-! ### a lambda without captured names, as a value -/
structure LamI where
  q : Str
  params : Arguments
  body : Expr
  scope : Scope
def lamO (f c : Addr) (L : LamI) : HO := .ext fun h => ∃ pm ctv, h.get? f = some (PySem.W.kla_obj "<lambda>" L.q L.params L.body L.scope [] pm c ctv)
def lamφ (f : Addr) (L : LamI) (H : Hp) : Prop := ∃ c, H f = some (lamO f c L) ∧ H c = some (LamX.CodeO c L.q)
theorem lam_kno {f : Addr} {L : LamI} : Kno (lamφ f L) := fun H H' k ⟨c, h1, h2⟩ => ⟨c, k _ _ h1 (fun _ z => by unfold lamO at z; cases z) (fun _ z => by unfold lamO at z; cases z), k _ _ h2 (fun _ z => by unfold LamX.CodeO at z; cases z) (fun _ z => by unfold LamX.CodeO at z; cases z)⟩
section
variable {X : Cx} {pins : List (Addr × Obj)} {σ : L2.St} {H : Hp} {s : Shared}
theorem lam_new {f c' : Addr} {L : LamI} {pm ctv : Value} {h' : Heap} {t' : Nat} (I : Inv X pins σ H { s with heap := h', toks := t' }) (hf : f = h'.objs.size) : 
    Inv X pins σ (upd H f (lamO f c' L)) { s with heap := h'.push (PySem.W.kla_obj "<lambda>" L.q L.params L.body L.scope [] pm c' ctv), toks := t' } := by
  subst hf
  refine I.laid (fun b u q => Heap.get?_push_of_some _ q) (Nat.le_refl _) ⟨⟨pm, ctv, Heap.get?_push_size _ rfl⟩, ⟨_, Heap.get?_push_size _ rfl⟩, fun h1 h2 ⟨pm, ctv, e⟩ k => ⟨pm, ctv, k _ e⟩⟩
/-- the lambda is made -/
theorem lam_make {T : List (Addr × Str)} {c P : Addr} {L : LamI} {pos : Pos} {E : Value → Shared → Prop} {Q : Value → Shared → Prop} (I : Inv X pins σ H s) (TB : LamX.TabB X.base X.mg c P) (hcode : X.env.code = .ref c) (hq : X.env.qual ++ "<lambda>" = L.q)
    (hm : (P, L.q) ∈ T) (hu : ∀ p ∈ T, p.1 = P → p.2 = L.q) (hT : LamX.Tabs T H) (hdef : defaultsOf L.params X.env = ([], [])) (hfree : ∀ y ∈ L.scope.names, y.2 ≠ .free) (hclo : cloFrom X.env.cells L.scope.names [] = [])
    (h : ∀ (f c' : Addr) (H1 : Hp) (s' : Shared), Inv X pins σ (upd H1 f (lamO f c' L)) s' → LamX.ExtN H H1 → LamX.Tabs T H1 → (∀ a, H1 a = none → H a = none) → H1 f = none → H1 c' = some (LamX.CodeO c' L.q) → Q (.ref f) s') :
    wpAny (model X.prog X.w) X.A (eval (.Lambda L.params L.body L.scope pos) X.env) Q E s := by
  obtain ⟨ps, hP, ht, ha⟩ := hT _ hm
  refine PySem.W.kla_eval hdef ?_
  rw [hq]
  have bP : s.heap.BuiltinsAt X.mg P := TB.bm.keeps I.bk
  have hP' : s.heap.get? P = some { cls := .none, data := .fields ps } := I.hok P _ hP
  have hcl : closureFor L.scope X.env = pure [] := by
    rw [← hclo]
    exact closure_ok fun y hy e => absurd e (hfree y hy)
  cases hc : codeAmong pos ps.toList with
  | none =>
    refine PySem.W.kla_makeFunction (mg := X.mg) (c := c) (P := P) (ps := ps) hcl I.ok.glob (I.mod.glob.keeps I.bk) hcode (TB.code.keeps I.bk) hP' ht hc TB.gP bP fun c' ctv h' tk hx hge hlt hrec htb => ?_
    obtain ⟨c2, oc, vs, t, e2, hoc, hd, hv⟩ := hrec
    cases e2
    have nC : H c' = none := I.hok.fresh hge
    have I1 := LamX.inv_table (t' := tk) (more := #[rawInt pos.line, rawInt pos.col, .ref c']) (h' := h') I hP hx htb hge ⟨oc, vs, t, hoc, hd, hv⟩
    have hE : LamX.ExtN H (upd (upd H P (.tbl (ps ++ #[rawInt pos.line, rawInt pos.col, .ref c']))) c' (LamX.CodeO c' L.q)) := fun b o e n => by
      rw [upd_ne (ne_of_none e nC), upd_ne (fun z => n ps (Option.some.inj (e.symm.trans (by rw [z]; exact hP))))]
      exact e
    have eL : (ps ++ #[rawInt pos.line, rawInt pos.col, .ref c']).toList = ps.toList ++ [rawInt pos.line, rawInt pos.col, .ref c'] := by simp
    refine h h'.objs.size c' _ _ (lam_new I1 rfl) hE (fun p hp => ?_) (fun a ha => ?_) (I1.hok.fresh (Nat.le_refl _)) upd_same
    · by_cases hb : p.1 = P
      · rw [hu p hp hb, hb]
        refine ⟨_, by rw [upd_ne (ne_of_none hP nC), upd_same], by rw [eL]; exact PySem.TriplesOk_snoc _ _ _ _ ht, fun p' cv hcv => ?_⟩
        rw [eL] at hcv
        rcases LamX.among_app _ ht hcv with z | z
        · obtain ⟨c0, e1, e2⟩ := ha p' cv z
          exact ⟨c0, e1, hE _ _ e2 LamX.codeO_ne⟩
        · exact ⟨c', z, upd_same⟩
      · obtain ⟨ps', a1, a2, a3⟩ := hT p hp
        refine ⟨ps', by rw [upd_ne (ne_of_none a1 nC), upd_ne hb]; exact a1, a2, fun p' cv hcv => ?_⟩
        obtain ⟨c0, e1, e2⟩ := a3 p' cv hcv
        exact ⟨c0, e1, hE _ _ e2 LamX.codeO_ne⟩
    · by_cases h1 : a = c'
      · rw [h1]; exact nC
      · rw [upd_ne h1] at ha
        by_cases h2 : a = P
        · rw [h2, upd_same] at ha; cases ha
        · rw [upd_ne h2] at ha; exact ha
  | some cv =>
    obtain ⟨c', e, hco⟩ := ha pos cv hc
    subst e
    refine PySem.W.kla_makeFunctionHit (mg := X.mg) (c := c) (P := P) (ps := ps) hcl I.ok.glob (I.mod.glob.keeps I.bk) hcode (TB.code.keeps I.bk) hP' ht hc bP fun ctv h' tk hx hsz => ?_
    have I1 : Inv X pins σ H { s with heap := h', toks := tk } := I.kept hx
    exact h h'.objs.size c' H _ (lam_new I1 rfl) (LamX.ExtN.refl H) hT (fun _ z => z) (I1.hok.fresh (Nat.le_refl _)) hco
end
structure LamHas (G : Gd) (k : Nat) (L : LamI) (S : Spec) : Prop where
  ex : ∃ (k' : Nat) (N ps : List Str), k = k' + 1 ∧ FnScope N ps L.scope ∧ (∀ (pm cdv ctv : Value) (us : List Value), us.length = ps.length → bindArgs (PySem.W.kla_fn "<lambda>" L.q L.params L.body L.scope [] pm cdv ctv) ⟨us, []⟩ = pure (ps.zip us)) ∧ (∀ a, (S.arg a).length = ps.length) ∧
    ∀ (cdv : Value) (M0 : List Addr) (a : S.α), S.pre a → dE (G.fn N L.scope k' L.q cdv) M0 L.body (startG N (S.arg a)) (S.exn a) (S.post a)
/-- the lambda's run -/
theorem lam_run {G : Gd} {k : Nat} {L : LamI} {S : Spec} (LH : LamHas G k L S) {A : Around} {outer : List Env} {s : Shared} {H : Hp} {us : List Value} {vs : List V} {Q : VK} {E : XK} {f : Addr} (hr : Room k A) (e0 : Env0 G.P G.w G.W.K G.mg G.base A outer s H) (r : Vals vs us) (hf : lamφ f L H) (hs : spOf G S vs H Q E) :
    codeAny (model G.P G.w) A (.call (.ref f) ⟨us, []⟩) (CR (L2.CX G.P G.w) outer G.P G.w H s Q E) s := by
  obtain ⟨k', N, ps, rfl, Sc, hb, hl, hbody⟩ := LH.ex
  obtain ⟨c, h1, h2⟩ := hf
  obtain ⟨⟨pm, ctv, ho⟩, _, _⟩ := e0.hok f _ h1
  obtain ⟨⟨oc, vc, t, hoc, hdc, hvc⟩, _, _⟩ := e0.hok c _ h2
  obtain ⟨M, a, hk, ok, hp, hq, hx⟩ := hs
  have hlen : vs.length = ps.length := by rw [ok.len, hl]
  have hlu : us.length = ps.length := by rw [← r.length, hlen]
  have lim : s.heap.NoLimit := e0.mod.nolimit.keeps fun b o e => (e0.bs b o e).1
  have hkind : ∀ y ∈ ps.zip us, L.scope.names.lookup y.1 = some .local ∨ (L.scope.names.lookup y.1 = some .cell ∧ ((cellsFrom (s.heap.objs.size + 1) L.scope.names []).lookup y.1).isSome = true) := fun ⟨n, v⟩ hy => by
    rcases Sc.par n (List.of_mem_zip hy).1 with q | q
    · exact .inl q
    · exact .inr ⟨q, PySem.W.cellsFrom_some _ _ _ (.inl q)⟩
  refine PySem.W.kla_callFunE hr.depth ho rfl Sc.co Sc.gen rfl ⟨c, oc, vc, t, rfl, hoc, hdc, hvc⟩ ?_
  rw [hb _ _ _ _ hlu]
  refine wpAny_pure (wpAny_newFunctionEnv_cells Sc.kind hkind fun env he s1 x => ?_)
  subst he
  refine ⟨lim.keeps x.toInCall.keep, PySem.W.kla_codeExpr ?_⟩
  have I : Inv (cxOf (L2.CX G.P G.w) G.P G.w G.W.K G.mg G.base N L.q L.scope f (.ref c) A outer s H E) [] (L2.start N vs) H s1 := inv_start Sc hr.hd e0 hlen r x
  have cp : Cpt (G.fn N L.scope k' L.q (.ref c)) (cxOf (L2.CX G.P G.w) G.P G.w G.W.K G.mg G.base N L.q L.scope f (.ref c) A outer s H E) :=
    ⟨rfl, rfl, rfl, rfl, rfl, rfl, rfl, hr.deeper _, rfl, Sc.nd, fun _ _ => rfl, passes_of rfl, fun q e => by cases e; exact ⟨rfl, rfl⟩, fun _ => ⟨rfl, rfl⟩, fun _ _ => rfl⟩
  have tk : Takes (cxOf (L2.CX G.P G.w) G.P G.w G.W.K G.mg G.base N L.q L.scope f (.ref c) A outer s H E) (fun cls d _ H => E cls d H) := takes_of rfl rfl rfl rfl
  have hw := hbody (.ref c) M a hp _ cp (L2.start N vs) H (fun v H' => Q v H') (start_ok hk ok) ⟨_, tk, fun x cls d H' e ok' q => hx x cls d H' e ok' q⟩ (fun v t H' e ok' q => hq v t H' e ok' q)
  refine wpAny_mono ((pe _ _).run [] s1 (L2.start N vs) H _ I hw) (fun v s' hs => ?_) fun e s' hs => hs
  obtain ⟨w', H', J, rv, q⟩ := hs
  exact ⟨w', H', J.os, J.bare, J.base, J.hok, rv, q⟩
/-- a slot that may be called -/
inductive Can (G : Gd) (k : Nat) : Sl → Spec → Prop
  | fn {f : Addr} {S : Spec} : Has G k f S → Can G k (.fn f) S
  | lam {f : Addr} {L : LamI} {S : Spec} : LamHas G k L S → Can G k (.kn (.ref f) (lamφ f L)) S
theorem LamHas.mono {G : Gd} {j k : Nat} {L : LamI} {S : Spec} (F : LamHas G j L S) (h : j ≤ k) : LamHas G k L S := by
  obtain ⟨k', N, ps, rfl, Sc, hb, hl, hbody⟩ := F.ex
  obtain ⟨k2, rfl⟩ : ∃ k2, k = k2 + 1 := ⟨k - 1, by omega⟩
  refine ⟨k2, N, ps, rfl, Sc, hb, hl, fun cdv M0 a hp X c => ?_⟩
  refine hbody cdv M0 a hp X ⟨c.prog, c.w, c.K, c.mg, c.base, c.N, c.sc, ?_, c.calm, c.nd, c.cel, c.pas, c.own, c.stk, c.clo⟩
  exact c.room.mono (by show k' ≤ k2; omega)
theorem Can.mono {G : Gd} {j k : Nat} {s : Sl} {S : Spec} (F : Can G j s S) (h : j ≤ k) : Can G k s S := by
  cases F with
  | fn F => exact .fn (F.mono h)
  | lam F => exact .lam (F.mono h)
section
variable {Θ : Th} {M M0 : List Addr} {Γ : Gm} {Ex : Xn → Prop} {Q : Sl → Prop} {e : Expr} {es : List Expr} {pos p : Pos} {x : Str} {S : Spec} {j : Nat}
theorem d_callK {i : Nat} {f : Addr} {L : LamI} (F : LamHas Θ.g j L S) (hj : j ≤ Θ.k) (hN : Θ.N[i]? = some x) (hv : Vis Θ.sc x) (hΓ : Γ[i]? = some (some (.kn (.ref f) (lamφ f L))))
    (h : dA Θ M (e :: es) Γ Ex fun ss => ∃ a, ss = S.arg a ∧ S.pre a ∧ (∀ s, S.post a s → Q s) ∧ (∀ x, S.exn a x → False)) (hdb : (x == ("__debug__" : Str)) = false := by decide) (hcd : (x == ("__classdict__" : Str)) = false := by decide)
    (he : ∀ env, starEach (e :: es) env = (false, eval e env) :: starEach es env := by intro _; rfl) (hpl : ∀ env, (backTo pos (starEach es env)).any (·.1) = false := by intro _; rfl) : dE Θ M (.Call (.Name x p) (e :: es) [] pos) Γ Ex Q := by
  intro X c σ H R E xr k
  refine wE_of (t := fun σ' H' Q' => σ' = σ ∧ H' = H ∧ Q' = R) ?_ ⟨rfl, rfl, rfl⟩
  refine ⟨fun pins s σ' H' Q' I hh => ?_⟩
  obtain ⟨rfl, rfl, rfl⟩ := hh
  obtain ⟨v, h1, h2⟩ := E.at_ i _ hΓ
  have hv' : v = .ref f := by cases h2 with | kn _ _ => rfl
  have hf : lamφ f L H' := by cases h2 with | kn _ z => exact z
  subst hv'
  refine wpAny_Call_Name_kw (thn ((pe_var (pos := p) (i := i) (by rw [c.N]; exact hN) (by rw [c.sc]; exact hv) hdb hcd).run pins s σ' H' (fun v H1 => v = .ref f ∧ H1 = H') I ⟨.ref f, h1, rfl, rfl⟩) fun u s1 ⟨v, H1, I1, r1, q1⟩ => ?_)
  obtain ⟨rfl, rfl⟩ := q1
  cases r1
  have hfn : ∀ {H2 : Hp} {s2 : Shared}, lamφ f L H2 → HOk X.prog X.w H2 s2.heap → PySem.W.FnAt f s2.heap := fun ⟨c', a1, a2⟩ hok => by
    obtain ⟨⟨pm, ctv, ho⟩, _, _⟩ := hok f _ a1
    exact ⟨_, _, _, _, ho⟩
  refine PySem.W.callWith_F (hfn hf I1.hok) (thn ((pa X (e :: es)).run pos pins s1 σ' H1 _ I1 (h X c σ' H1 (fun vs H2 => ∃ ss, Evo Θ.W H1 H2 ∧ SlsOk Θ.W M H2 vs ss ∧ ∃ a, ss = S.arg a ∧ S.pre a ∧ (∀ s, S.post a s → Q s) ∧ (∀ x, S.exn a x → False)) E xr fun vs ss H2 e2 ok q => ⟨ss, e2, ok, q⟩)) fun us s2 ⟨vs, H2, I2, r, q⟩ => ?_) (he _) (hpl _)
  obtain ⟨ss, e2, ok, a, rfl, hp, hq, hx⟩ := q
  have hf2 : lamφ f L H2 := lam_kno _ _ (fun a o h n t => E.hk.stay e2 a o h (fun _ => n) t) hf
  refine ⟨hfn hf2 I2.hok, ?_⟩
  have hs : spOf Θ.g S vs H2 Q' (fun _ _ _ => False) := ⟨M, a, E.hk.evo e2, ok, hp, fun v s H' e' ok' q => k v s H' (e2.trans e') ok' (hq s q), fun x cls d H' e' ok' q => (hx x q).elim⟩
  have env0 : Env0 Θ.g.P Θ.g.w Θ.g.W.K Θ.g.mg Θ.g.base X.A X.stack s2 H2 := by
    have z := I2.env0
    rw [c.prog, c.w, c.K, c.mg, c.base] at z
    exact z
  have rc := lam_run F (c.room.mono hj) env0 r hf2 hs
  have rc' : codeAny (model X.prog X.w) X.A (.call (.ref f) ⟨us, []⟩) (CR (L2.CX X.prog X.w) X.stack X.prog X.w H2 s2 Q' (fun _ _ _ => False)) s2 := by
    rw [c.prog, c.w]
    exact rc
  refine wpAny_call (codeAny_mono rc' fun r s' hq => ?_)
  cases r with
  | error e => exact passL pins σ' H2 s2 e s' I2 hq
  | ok fl =>
    cases fl with
    | ret u => exact I2.after hq
    | next => exact False.elim hq
    | brk => exact False.elim hq
    | cont => exact False.elim hq
theorem d_callC {i : Nat} {s : Sl} (F : Can Θ.g j s S) (hj : j ≤ Θ.k) (hN : posN Θ.N x = some i) (hv : visB Θ.sc x = true) (hΓ : Γ[i]? = some (some s))
    (h : dA Θ M (e :: es) Γ Ex fun ss => ∃ a, ss = S.arg a ∧ S.pre a ∧ (∀ s, S.post a s → Q s) ∧ (∀ x, S.exn a x → False)) (hdb : (x == ("__debug__" : Str)) = false := by decide) (hcd : (x == ("__classdict__" : Str)) = false := by decide)
    (he : ∀ env, starEach (e :: es) env = (false, eval e env) :: starEach es env := by intro _; rfl) (hpl : ∀ env, (backTo pos (starEach es env)).any (·.1) = false := by intro _; rfl) : dE Θ M (.Call (.Name x p) (e :: es) [] pos) Γ Ex Q := by
  cases F with
  | fn F => exact d_callL F hj (posN_ok hN) (visB_ok hv) hΓ h hdb hcd he hpl
  | lam F => exact d_callK F hj (posN_ok hN) (visB_ok hv) hΓ h hdb hcd he hpl
/-- lambda ..: .. -/
theorem d_lam {c P : Addr} {q0 : Str} {params : Arguments} {body : Expr} {scope : Scope} (ho : Θ.own = some (q0, .ref c)) (TB : LamX.TabB Θ.base Θ.mg c P) (hm : (P, q0 ++ "<lambda>") ∈ Θ.W.T) (hu : ∀ p ∈ Θ.W.T, p.1 = P → p.2 = q0 ++ "<lambda>")
    (hq : ∀ f, Q (.kn (.ref f) (lamφ f ⟨q0 ++ "<lambda>", params, body, scope⟩))) (hdef : ∀ env, defaultsOf params env = ([], []) := by intro _; rfl) (hfree : ∀ y ∈ scope.names, y.2 ≠ .free := by decide +kernel) (hclo : ∀ cells, cloFrom cells scope.names [] = [] := by intro _; rfl) : dE Θ M (.Lambda params body scope pos) Γ Ex Q := by
  intro X c' σ H R E xr k
  obtain ⟨o1, o2⟩ := c'.own _ ho
  refine wE_of (t := fun σ' H' Q' => σ' = σ ∧ H' = H ∧ Q' = R) ?_ ⟨rfl, rfl, rfl⟩
  refine ⟨fun pins s σ' H' Q' I hh => ?_⟩
  obtain ⟨rfl, rfl, rfl⟩ := hh
  refine lam_make (T := Θ.W.T) (c := c) (P := P) (L := ⟨q0 ++ "<lambda>", params, body, scope⟩) I (by rw [c'.base, c'.mg]; exact TB) o2 (by rw [o1]) hm hu E.good.tabs (hdef _) hfree (hclo _) fun f c1 H1 s' I' hE hT hn hf hc => ?_
  have ev : Evo Θ.W H' (upd H1 f (lamO f c1 ⟨q0 ++ "<lambda>", params, body, scope⟩)) := by
    have kp : ∀ a o, H' a = some o → (∀ ps, o ≠ .tbl ps) → upd H1 f (lamO f c1 ⟨q0 ++ "<lambda>", params, body, scope⟩) a = some o := fun a o h t => by
      have h1 := hE a o h t
      rw [upd_ne (ne_of_none h1 hf)]
      exact h1
    refine ⟨fun a o h _ t => kp a o h t, fun g => ⟨?_, fun p hp => ?_⟩, fun a ha => ?_⟩
    · obtain ⟨x, y, z, b1, bx⟩ := g.bag.at_
      exact ⟨⟨x, y, z, kp _ _ b1 (fun _ z => by cases z), bx⟩, kp _ _ g.bag.cells (fun _ z => by cases z), g.bag.ne, g.bag.pos, g.bag.few⟩
    · exact (hT p hp).ext fun b o e => by rw [upd_ne (ne_of_none e hf)]; exact e
    · refine hn a ?_
      by_cases z : a = f
      · rw [z]; exact hf
      · rw [upd_ne z] at ha; exact ha
  exact ⟨.ref f, _, I', rfl, k _ _ _ ev (.kn lam_kno ⟨c1, upd_same, by rw [upd_ne (ne_of_none hc hf)]; exact hc⟩) (hq f)⟩
end
end Dl
set_option Elab.async false
set_option linter.all false
set_option maxRecDepth 100000
set_option maxHeartbeats 4000000
set_option autoImplicit false
/-! An own error class over one whose __init__ says super().__init__(a, b) and stores two fields. -/
namespace FlX
open PySem PySem.W PySem.Spec PySem.Calls PyProof.Rows PySem.HandSPX
/-- the text of __init__(self, where, fault) -/
structure Ps where
  p1 : Pos
  p2 : Pos
  p3 : Pos
  p4 : Pos
  p5 : Pos
  p6 : Pos
  p7 : Pos
  p8 : Pos
  p9 : Pos
  p10 : Pos
  p11 : Pos
  p12 : Pos
  p13 : Pos
  p14 : Pos
  p15 : Pos
  q1 : Pos
  q2 : Pos
  q3 : Pos
def iA (q : Ps) : Arguments := { posonlyargs := [], args := [{ arg := "self", annotation := none, pos := q.q1 }, { arg := "where", annotation := none, pos := q.q2 }, { arg := "fault", annotation := none, pos := q.q3 }], vararg := none, kwonlyargs := [], kw_defaults := [], kwarg := none, defaults := [] }
def iB (q : Ps) : List Stmt := [.Expr (.Call (.Attribute (.Call (.Name "super" q.p1) [] [] q.p2) "__init__" q.p3) [.Name "where" q.p4, .Name "fault" q.p5] [] q.p6) q.p7,
  .Assign [.Attribute (.Name "self" q.p8) "where" q.p9] (.Name "where" q.p10) q.p11, .Assign [.Attribute (.Name "self" q.p12) "fault" q.p13] (.Name "fault" q.p14) q.p15]
def iS (ns : List (Str × NameKind)) : Scope := { kind := .function, names := ns, isGenerator := false, isCoroutine := false, more := [] }
structure Txt (P : Program) (K : Frag) (q : Ps) (ns : List (Str × NameKind)) (C D fI : Addr) : Prop where
  cls : ∃ nm qn N bs bm sn sub ab col dd k0 k1 k2 k3 k5, K.lookup C = some (excClassObj nm qn C N bs bm true sn sub ab col dd k0 k1 k2 k3 k5 "ValueError.__new__") ∧ refsVE bm = true
  sa : findIn K (.ref C) "__setattr__" = some (some (.builtin "object.__setattr__"))
  noW : findIn K (.ref C) "where" = some none
  noF : findIn K (.ref C) "fault" = some none
  iC : findIn K (.ref C) "__init__" = some (some (.ref fI))
  tI : typeIn K (.ref fI) = some (.type "function")
  kC : keepIn K (.ref C) = true
  exC : subIn K (.ref C) (.type "BaseException") = some true
  tyC : typeIn K (.ref C) = some (.type "type")
  ga : findIn K (.ref C) "__getattribute__" = some (some (.builtin "BaseException.__getattribute__"))
  gg : findIn K (.ref C) "__getattr__" = some none
  hdC : hasDictIn K C = true
  veC : subIn K (.ref C) (.type "ValueError") = some true
  opq : nsIn K cStatics "thirdparty.any" = some none
  sup : ks_superIn K C D "__init__" = some (some (.builtin "ValueError.__init__"))
  dD : ∃ cd, clsIn K D = some cd
  subD : mroIn K C (.ref D) = some true
  noS : nsIn K mainGlobals "super" = some none
  top : (P.main.scope.names.lookup ("super" : Str)).isSome = false
  fn : ∃ (oc : Value) (od : Option Addr) (doc pm : Value) (an : Option Addr) (cda : Addr) (ct : Value) (cc : Addr) (osl : Array (Option Value)),
    K.lookup fI = some ⟨oc, od, .func (ksFn "__init__" "Faulty.__init__" (iA q) (iB q) (iS ns) .none .none doc pm an (.ref cda) ct cc), osl⟩ ∧ codeIn K (.ref cda) "Faulty.__init__" = true ∧
    (∃ ccl cdd vs ccs file tf, K.lookup cda = some ⟨ccl, cdd, .fields vs, ccs⟩ ∧ vs[2]? = some (.str file tf) ∧ ((P.main.file : Str) == file) = true) ∧ ∃ cl cld csl, K.lookup cc = some ⟨cl, cld, .cell (some (.ref D)), csl⟩
/-- what the names are -/
structure NsOk (ns : List (Str × NameKind)) : Prop where
  s : ns.lookup ("super" : Str) = some .globalImplicit
  c : ns.lookup ("__class__" : Str) = some .free
  x : ns.lookup ("self" : Str) = some .local
  w : ns.lookup ("where" : Str) = some .local
  f : ns.lookup ("fault" : Str) = some .local
  noc : ∀ x ∈ ns, x.2 ≠ .cell
/-- what the lines are -/
structure LnOk (P : Program) (q : Ps) (ns : List (Str × NameKind)) : Prop where
  he : ∀ env, eval (.Call (.Attribute (.Call (.Name "super" q.p1) [] [] q.p2) "__init__" q.p3) [.Name "where" q.p4, .Name "fault" q.p5] [] q.p6) env = (do
      let ov ← attributeBase (.Call (.Name "super" q.p1) [] [] q.p2) "__init__" env (eval (.Call (.Name "super" q.p1) [] [] q.p2) env)
      standAt q.p3.atName
      let (f, first) ← holding [ov] (getMethod ov "__init__" (pure false))
      callWith q.p6 f first (backTo q.p6 (starEach [.Name "where" q.p4, .Name "fault" q.p5] env)) [])
  sw1 : ∀ env, swapsWith (.Call (.Attribute (.Call (.Name "super" q.p1) [] [] q.p2) "__init__" q.p3) [.Name "where" q.p4, .Name "fault" q.p5] [] q.p6) none q.p7.line env = pure false
structure InitEnd (h h' : Heap) (x C dx t1 : Addr) (w f : Value) : Prop where
  keep : ∀ b o, b ≠ x → h.get? b = some o → h'.get? b = some o
  obj : h'.get? x = some { cls := .ref C, dict := some dx, data := .fields #[.ref t1, .none, .none, .none, .bool false, .none] }
  dbig : h.objs.size ≤ dx
  dne : dx ≠ x
  ns : h'.Ns1 dx (fun y => if y = "fault" then some f else if y = "where" then some w else none)
section
variable {P : Program} {wd : World} {A : Around} {E : Value → Shared → Prop} {R : Result → Shared → Prop} {s : Shared} {K : Frag} {mg mb : Str → Option Value} {C D fI : Addr} {q : Ps} {ns : List (Str × NameKind)}
theorem flt_init (T : Txt P K q ns C D fI) (N : NsOk ns) (L : LnOk P q ns) {x t0 : Addr} {vw vf : Value} (X : K.In s.heap) (hlim : s.heap.NoLimit) (hG : s.heap.Ns mainGlobals mg) (hB : s.heap.Ns builtinsNs mb) (hbb : ∀ x : Str, x ≠ "__name__" → mb x = bootBuiltins x)
    (hx : s.heap.get? x = some (excO C t0)) (hnx : K.lookup x = none) (hroom : A.depth < recursionLimit)
    (hq : ∀ h' tk dx t1, InitEnd s.heap h' x C dx t1 vw vf → R (.ok (.ret .none)) { s with heap := h', toks := tk }) :
    codeAny (model P wd) A (.call (.ref fI) ⟨[.ref x, vw, vf], []⟩) R s := by
  obtain ⟨oc, od, doc, pm, an, cda, ct, cc, osl, ho, hcd, ⟨ccl, cdd, vs, ccs, file, tf, hcda, hvs, hfile⟩, ⟨cl, cld, csl, hcc⟩⟩ := T.fn
  obtain ⟨nm, qn, Nn, bs, bm, sn, sub, ab, col, dd, k0, k1, k2, k3, k5, hC, hbm⟩ := T.cls
  have hcl : clsIn K C = some { name := nm, bases := bs, mro := .ref C :: bm, ns := Nn, qualname := qn, hasDict := true, slotNames := sn, subclasses := sub, abstract := ab, collection := col, hasDel := false } := by unfold clsIn; rw [hC] <;> rfl
  obtain ⟨cdD, hD⟩ := T.dD
  obtain ⟨hh, g, d, t, os⟩ := s
  have hsup := T.sup
  unfold ks_superIn at hsup
  rw [hcl] at hsup
  refine ks_codeAny_call_defAt (fd := ksFn "__init__" "Faulty.__init__" (iA q) (iB q) (iS ns) .none .none doc pm an (.ref cda) ct cc) (body := iB q) (binds := [("self", .ref x), ("where", vw), ("fault", vf)]) hroom (X _ _ ho) rfl hlim (codeRec_of X hcd) rfl (BindsTo.of_eq (by first | rfl | with_unfolding_all rfl)) N.noc
    (fun y hy => by
      simp only [List.mem_cons, List.not_mem_nil, or_false] at hy
      rcases hy with rfl | rfl | rfl
      · exact N.x
      · exact N.w
      · exact N.f) (fun h₁ hns hk₁ => ?_)
  have X₁ : K.In h₁ := X.keeps hk₁
  have hx₁ := hk₁ _ _ hx
  obtain ⟨oD, hD1, hD2⟩ : ∃ oD, h₁.get? D = some oD ∧ oD.data = .cls cdD := by
    unfold clsIn at hD
    split at hD
    · rename_i c d cd' sl ho
      cases hD
      exact ⟨_, X₁ _ _ ho, rfl⟩
    · cases hD
  refine ks_wpAt_execs_cons (ks_wpAt_Expr_any (ks_wpAt_MethodCall (pl := pure false) ?_ (L.he _)) rfl (L.sw1 _))
  refine ks_wpAt_super_base (ar := { arg := "self", annotation := none, pos := q.q1 }) N.s N.c (by decide) rfl (X₁ _ _ ho) rfl rfl rfl (X₁ _ _ hcda) rfl hvs hfile T.top ?_
  have bS : mb "super" = some (.type "super") := (hbb _ (by decide)).trans PyProof.Rows.Boot.«super»
  have hne : x ≠ C := fun z => by
    have e := X₁ _ _ hC
    rw [← z, hx₁] at e
    cases e
  refine ks_loadName_global rfl N.s (loadGlobal_builtin (hG.keeps hk₁) (mg_none_of X hG T.noS) (hB.keeps hk₁) bS ⟨rfl, ?_⟩)
  refine wpAny_loadName_free rfl N.c rfl ⟨_, X₁ _ _ hcc, rfl⟩ ?_
  refine wpAny_loadName_local rfl N.x hns rfl ?_
  refine ks_wpAny_isType_cls hD1 hD2 ⟨rfl, ?_⟩
  refine ks_wpAny_call_super hD1 hD2 hx₁ rfl (fun c e => by cases e) (looks_mroIn X₁ T.subD) (fun h₂ e₂ k₂ => ?_)
  have X₂ : K.In h₂ := X₁.keeps k₂
  have hx₂ := k₂ _ _ hx₁
  have hI : Looks (model P wd) h₂ (isInstance (.ref x) (.type "ValueError")) true := (show InstAt h₂ x (excO C t0) C none from ⟨hx₂, rfl, rfl, trivial⟩).type.andThen (looks_subIn X₂ T.veC)
  refine kxs_getMethod kxs_ValueError e₂ (looks_opaque X₂ T.opq) (l₀ := .ref C :: bm) (fun A Q E s k q => wpAny_bind ((looks_clsIn X₂ hcl) A _ E s k (wpAny_pure q))) rfl X₂ hsup hI hne (by decide) ?_
  have n2 := (hns.keeps k₂).push (kxs_mw "ValueError.__init__" x)
  have k₃ : ∀ b o, h₁.get? b = some o → (h₂.push (kxs_mw "ValueError.__init__" x)).get? b = some o := fun b o e => Heap.get?_push_of_some _ (k₂ b o e)
  have hu : (h₂.push (kxs_mw "ValueError.__init__" x)).get? h₂.objs.size = some (kxs_mw "ValueError.__init__" x) := Heap.get?_push_size _ rfl
  refine kxs_callWith (i := "ValueError.__init__") (x := x) rfl (evalArgs_plain (Calls.spliced_cons (wpAny_Name (wpAny_loadName_local rfl N.w n2 rfl (Calls.spliced_cons (wpAny_Name (wpAny_loadName_local rfl N.f n2 rfl (Calls.spliced_nil ⟨hu, ?_⟩)) (by decide))))  (by decide))))
  have hx₃ := k₃ _ _ hx₁
  refine wpAny_call (codeAny_of_tree ?_)
  show wpAny _ _ (callAny (.ref h₂.objs.size) ⟨[vw, vf], []⟩) _ _ _
  simp only [callAny]
  refine wpAny_bind (wpAny_load hu ?_)
  simp only [kxs_mw, show (Value.type "method-wrapper" == Value.type "method" || Value.type "method-wrapper" == Value.type "builtin_function_or_method" || Value.type "method-wrapper" == Value.type "method-wrapper") = true by decide, if_true]
  refine KFB.if_so (by decide) ?_
  refine wpAny_bind (check_bound_init F.excBase_ValueError.toExcCallFacts (Heap.get?_push_of_some _ (k₂ _ _ (X₁ _ _ hC))) hx₃ rfl ?_)
  refine wpAny_bind (wpAny_pure (wpAny_pure ?_))
  refine ⟨plainId_quiet F.excBase_ValueError.init.plain _, codeAny_builtin F.excBase_ValueError.initEntry ?_⟩
  refine exc_init_tree (cls := .ref C) (t0 := t0) (dv := none) (c2 := .none) (c3 := .none) (b4 := .bool false) hx₃ (by rw [sizeLine_eq]; show 2 ≤ 16777216; omega) (fun h₄ k₄ hx₄ _ => ?_)
  have hLx : hh.objs.size ≠ x := Nat.ne_of_gt (Heap.lt_size hx)
  have n4 : h₄.Ns hh.objs.size (fun y => (([("self", .ref x), ("where", vw), ("fault", vf)] : List (Str × Value)).reverse.lookup y)) := by
    obtain ⟨oL, es, ep, hL, r⟩ := n2
    exact ⟨oL, es, ep, k₄ _ _ hLx hL, r⟩
  have k14 : ∀ b o, b ≠ x → hh.get? b = some o → h₄.get? b = some o := fun b o hb e => k₄ b o hb (k₃ b o (hk₁ b o e))
  have nK : ∀ b o, K.lookup b = some o → b ≠ x := fun b o e z => by
    rw [z, hnx] at e
    cases e
  have X₄ : K.In h₄ := fun b o e => k14 b o (nK b o e) (X b o e)
  show _root_.PySem.wpAt _ _ _ (execs [.Assign [.Attribute (.Name "self" q.p8) "where" q.p9] (.Name "where" q.p10) q.p11, .Assign [.Attribute (.Name "self" q.p12) "fault" q.p13] (.Name "fault" q.p14) q.p15] _) _ _ _
  refine ks_wpAt_execs_cons (wpAt_of_wpAny (plainObj_wpAny_Assign_Attribute ?_))
  refine wpAny_Name (wpAny_loadName_local rfl N.w n4 rfl (wpAny_Name (wpAny_loadName_local rfl N.x n4 rfl ?_) (by decide))) (by decide)
  refine set_plain X₄ (ox := excO C _) (od := none) ⟨hx₄, rfl, rfl, trivial⟩ T.sa ?_
  refine exc_osa X₄ hx₄ hcl (show refsVE (.ref C :: bm) = true from hbm) rfl T.noW (fun h₅ tk₅ dx k₅ dn dne hx₅ hn₅ => ?_)
  have sz4 : hh.objs.size < h₄.objs.size := by
    obtain ⟨oL, es, ep, hL, r⟩ := n4
    exact Heap.lt_size hL
  have hLd : hh.objs.size ≠ dx := Nat.ne_of_lt (Nat.lt_of_lt_of_le sz4 dn)
  have n5 : h₅.Ns hh.objs.size (fun y => (([("self", .ref x), ("where", vw), ("fault", vf)] : List (Str × Value)).reverse.lookup y)) := by
    obtain ⟨oL, es, ep, hL, r⟩ := n4
    exact ⟨oL, es, ep, k₅ _ _ hLx hL, r⟩
  have X₅ : K.In h₅ := fun b o e => k₅ b o (nK b o e) (X₄ b o e)
  show _root_.PySem.wpAt _ _ _ (execs [.Assign [.Attribute (.Name "self" q.p12) "fault" q.p13] (.Name "fault" q.p14) q.p15] _) _ _ _
  refine ks_wpAt_execs_cons (wpAt_of_wpAny (plainObj_wpAny_Assign_Attribute ?_))
  refine wpAny_Name (wpAny_loadName_local rfl N.f n5 rfl (wpAny_Name (wpAny_loadName_local rfl N.x n5 rfl ?_) (by decide))) (by decide)
  obtain ⟨oD5, _, _, hoD5, _⟩ := id hn₅
  refine set_plain X₅ (ox := { cls := .ref C, dict := some dx, data := .fields #[.ref _, .none, .none, .none, .bool false, .none] }) (od := some oD5) ⟨hx₅, rfl, rfl, hoD5⟩ T.sa ?_
  have hw : Within (fun y => if y = "where" then some vw else none) ["where"] := fun y hy => by
    by_cases e : y = "where"
    · rw [e]; simp
    · simp [e] at hy
  refine PySem.OEX.osa_old X₅ hx₅ hn₅ hw (by decide) hcl (show refsVE (.ref C :: bm) = true from hbm) rfl T.noF (fun h₆ tk₆ k₆ hn₆ => ?_)
  refine wpAt_of_wpAny (wpAny_execs_nil (hq h₆ tk₆ dx _ ⟨fun b o hb e => ?_, k₆ _ _ (Ne.symm dne) hx₅, Nat.le_of_lt (Nat.lt_of_lt_of_le sz4 dn), dne, hn₆⟩))
  have hbd : b ≠ dx := by
    have := Heap.lt_size e
    have z : b < hh.objs.size := this
    exact Nat.ne_of_lt (Nat.lt_of_lt_of_le (Nat.lt_trans z sz4) dn)
  exact k₆ b o hbd (k₅ b o hb (k14 b o hb e))
/-- a made error -/
structure OwnMade (h h' : Heap) (e C d : Addr) (w f : Value) : Prop where
  keep : ∀ b o, h.get? b = some o → h'.get? b = some o
  new : h.objs.size ≤ e
  obj : ∃ oe vs, h'.get? e = some oe ∧ oe.cls = .ref C ∧ oe.dict = some d ∧ oe.data = .fields vs ∧ vs[1]? = some .none
  dbig : h.objs.size ≤ d
  dne : d ≠ e
  ns : h'.Ns1 d (fun y => if y = "fault" then some f else if y = "where" then some w else none)
theorem flt_made (T : Txt P K q ns C D fI) (N : NsOk ns) (L : LnOk P q ns) {vw vf : Value} (X : K.In s.heap) (hlim : s.heap.NoLimit) (hG : s.heap.Ns mainGlobals mg) (hB : s.heap.Ns builtinsNs mb) (hbb : ∀ x : Str, x ≠ "__name__" → mb x = bootBuiltins x) (hroom : A.depth + 1 < recursionLimit)
    (hq : ∀ h' tk e d, OwnMade s.heap h' e C d vw vf → R (.ok (.ret (.ref e))) { s with heap := h', toks := tk }) :
    codeAny (model P wd) A (.call (.ref C) ⟨[vw, vf], []⟩) R s := by
  obtain ⟨nm, qn, N', bs, bm, sn, sub, ab, col, dd, k0, k1, k2, k3, k5, hC, hbm⟩ := T.cls
  obtain ⟨hp, g, dr, tk, os⟩ := s
  have k : ∀ b o, hp.get? b = some o → ((hp.push (kdv_tup [vw, vf])).push (excO C hp.objs.size)).get? b = some o := fun b o e => Heap.get?_push_of_some _ (Heap.get?_push_of_some _ e)
  have hget : ((hp.push (kdv_tup [vw, vf])).push (excO C hp.objs.size)).get? (hp.objs.size + 1) = some (excO C hp.objs.size) := by heap_get
  have hnx : K.lookup (hp.objs.size + 1) = none := by
    cases e : K.lookup (hp.objs.size + 1) with
    | none => rfl
    | some o =>
      have z : hp.get? (hp.objs.size + 1) = some o := X _ _ e
      exact absurd (Nat.lt_of_succ_lt (Heap.lt_size z)) (Nat.lt_irrefl _)
  refine call_own F.excBase_ValueError (fun X => refsVE_contains X bm hbm) (X _ _ hC) (looks_findIn X T.iC) (fun self => bind_fn X self T.tI) (by rw [sizeLine_eq]; show 2 ≤ 16777216; omega) ?_
  refine flt_init (s := ⟨(hp.push (kdv_tup [vw, vf])).push (excO C hp.objs.size), g, dr, tk, os⟩) T N L (X.keeps k) (hlim.keeps k) (hG.keeps k) (hB.keeps k) hbb hget hnx ?_ fun h' tk' dx t1 ⟨k', hx, dn, dne, hns⟩ => ?_
  · show A.depth + 1 < recursionLimit
    exact hroom
  · have old : ∀ b o, hp.get? b = some o → h'.get? b = some o := fun b o e => k' b o (Nat.ne_of_lt (Nat.lt_succ_of_lt (Heap.lt_size e))) (k b o e)
    have z : hp.objs.size + 1 + 1 ≤ dx := by
      have q := dn
      rw [Heap.size_push, Heap.size_push] at q
      exact q
    exact ⟨rfl, hq h' tk' (hp.objs.size + 1) dx ⟨old, Nat.le_succ _, ⟨_, _, hx, rfl, rfl, rfl, rfl⟩, Nat.le_trans (Nat.le_trans (Nat.le_succ _) (Nat.le_succ _)) z, dne, hns⟩⟩
end
end FlX

namespace Dl
open PySem PySem.Spec PyProof.Rows L2
theorem relO_two {v w : V} {v' w' : Value} (r : RelV v v') (r2 : RelV w w') (f : Str) : RelO (List.lookup f [(("fault" : Str), w), (("where" : Str), v)]) (if f = "fault" then some w' else if f = "where" then some v' else none) := by
  by_cases hw : f = "fault"
  · subst hw
    rw [if_pos rfl]
    have q : List.lookup ("fault" : Str) [(("fault" : Str), w), (("where" : Str), v)] = some w := by simp [List.lookup]
    rw [q]
    exact r2
  · rw [if_neg hw]
    have qw : (f == ("fault" : Str)) = false := by simpa using hw
    by_cases hw2 : f = "where"
    · subst hw2
      rw [if_pos rfl]
      have q : List.lookup ("where" : Str) [(("fault" : Str), w), (("where" : Str), v)] = some v := by simp [List.lookup, qw]
      rw [q]
      exact r
    · rw [if_neg hw2]
      have qw2 : (f == ("where" : Str)) = false := by simpa using hw2
      have q2 : List.lookup f [(("fault" : Str), w), (("where" : Str), v)] = none := by simp [List.lookup, qw, qw2]
      rw [q2]
      trivial
section
variable {X : Cx} {C D fI : Addr} {q : FlX.Ps} {ns : List (Str × NameKind)}
def tMkF (C : Addr) (ta : TA) : L2.St → Hp → XK → Prop := fun σ H Q => ta σ H fun vs H1 => ∃ v w, vs = [v, w] ∧ ∀ d, H1 d = none → Q (.ref C) (some d) (upd H1 d (.xd [(("fault" : Str), w), (("where" : Str), v)]))
theorem pmk_flt {x : Str} {a b : Expr} {ta : TA} {p pos : Pos} {k : Nat} (T : FlX.Txt X.prog X.K q ns C D fI) (N : FlX.NsOk ns) (L : FlX.LnOk X.prog q ns) (hr : Room k X.A) (ha : PA X [a, b] ta) (hg : Gl X x) (hm : X.mg x = some (.ref C)) (hdb : (x == ("__debug__" : Str)) = false := by decide)
    (he : starEach [a, b] X.env = (false, eval a X.env) :: starEach [b] X.env := by rfl) (hpl : (backTo pos (starEach [b] X.env)).any (·.1) = false := by rfl) :
    PMk X (.Call (.Name x p) [a, b] [] pos) (tMkF C ta) := by
  intro pins s σ H Q I h
  refine wpAny_Call_Name_kw (ld_glob I hg hm ?_ hdb)
  refine PySem.W.callWith_K (h₀ := X.base) I.ok.mod.kin T.kC (thn (ha.run pos pins s σ H _ I h) fun us s1 hh => ?_) he hpl
  obtain ⟨vs, H1, I1, r1, v, w, ev, q1⟩ := hh
  subst ev
  refine ⟨I1.kIn, ?_⟩
  obtain ⟨v', w', eu, rv, rw'⟩ := vals2 r1
  subst eu
  · · show wpAny _ _ (call (.ref C) [v', w']) _ _ _
      have hlim := I1.nolimit
      have hG := I1.mod.glob.keeps I1.bk
      obtain ⟨mb, hB, hbb⟩ := I1.mod.blt
      have hB' := hB.keeps I1.bk
      obtain ⟨hp, g, dr, tk, os⟩ := s1
      refine wpAny_call (FlX.flt_made T N L I1.kIn hlim hG hB' hbb (by have := hr.dp; omega) fun h' tk' e d M => ?_)
      show MkP X pins σ Q (.ref e) ⟨h', g, dr, tk', os⟩
      obtain ⟨oe, fv, hoe, hc, hd, hdat, h1⟩ := M.obj
      have hns := M.ns
      obtain ⟨G', g1, g2⟩ := restrict h' fun b => decide (b ≠ e)
      have gk : ∀ b, b ≠ e → G'.get? b = h'.get? b := fun b hb => g1 b (decide_eq_true hb)
      have ge : G'.get? e = none := g2 e (by simp)
      have old : ∀ b o, hp.get? b = some o → G'.get? b = some o := fun b o q => (gk b (Nat.ne_of_lt (Nat.lt_of_lt_of_le (Heap.lt_size q) M.new))).trans (M.keep b o q)
      have ob : ObjOk X.prog X.w (upd H1 d (.xd [(("fault" : Str), w), (("where" : Str), v)])) G' d (.xd [(("fault" : Str), w), (("where" : Str), v)]) :=
        ⟨_, hns.at (fun o q => (gk d M.dne).trans q), fun f => relO_two rv rw' f⟩
      have J : Inv X pins σ (upd H1 d (.xd [(("fault" : Str), w), (("where" : Str), v)])) ⟨G', g, dr, tk', os⟩ := I1.laid (t' := tk') old M.dbig ob
      refine ⟨e, oe, fv, ⟨G', g, dr, tk', os⟩, _, .ref C, some d, rfl, J, fun b o q => ?_, ge, hoe, ⟨hc, hd⟩, hdat, h1, ?_, rfl, I1.bare, raises_own T.exC T.tyC, q1 d (I1.hok.fresh M.dbig)⟩
      · by_cases hb : b = e
        · have q' : G'.get? b = some o := q
          rw [hb, ge] at q'; cases q'
        · exact (gk b hb).symm.trans q
      · rw [upd_ne (Ne.symm M.dne)]
        exact I1.hok.fresh M.new
/-- X(), an own exception class without own __init__ -/
theorem pmk_own0 {bmB : List Value} {B newId initId : String} {x : Str} {p pos : Pos} (F : ExcBaseFacts B newId initId bmB) (q : PySem.W.excIn X.K C bmB newId = true) (gC : X.mg x = some (.ref C))
    (kC : PySem.W.keepIn X.K (.ref C) = true) (r : Raises X (.ref C)) (hg : Gl X x) (hdb : (x == ("__debug__" : Str)) = false := by decide) :
    PMk X (.Call (.Name x p) [] [] pos) (fun _ H Q => Q (.ref C) none H) := by
  intro pins s σ H Q I h
  refine wpAny_Call_Name_kw (ld_glob I hg gC ?_ hdb)
  refine PySem.W.callWith_K0 I.kIn kC ?_
  show wpAny _ _ (call (.ref C) []) _ _ _
  obtain ⟨bm, N, nm, qn, bs, hdct, sn, sub, ab, col, dd, k0, k1, k2, k3, k5, mN, hC, hN, hni, T⟩ := exc_obj I.kIn q
  refine wpAny_call_exc_subT F T hC hN hni (fun h' e hm => ?_) (by rw [sizeLine_eq]; show 0 ≤ 16777216; omega)
  exact mk_of I hm r h (I.hok.gone hm.new)
end
/-- what is known of an own error class that tells where and what -/
def FlOk (G : Gd) (x : Str) : Prop := ∃ q ns C D fI, G.mg x = some (.ref C) ∧ FlX.Txt G.P G.W.K q ns C D fI ∧ FlX.NsOk ns ∧ FlX.LnOk G.P q ns
/-- .. without own __init__ -/
def ExOk (G : Gd) (x : Str) : Prop := ∃ C, G.mg x = some (.ref C) ∧ PySem.W.excIn G.W.K C He.veBase "ValueError.__new__" = true ∧ PySem.W.keepIn G.W.K (.ref C) = true ∧ PySem.W.subIn G.W.K (.ref C) (.type "BaseException") = some true ∧ PySem.W.typeIn G.W.K (.ref C) = some (.type "type")
section
variable {Θ : Th} {M0 M : List Addr} {Γ : Gm} {Ex : Xn → Prop} {a b : Expr} {pos p p2 : Pos} {x : Str} {Kn : List Addr → Gm → Prop} {Rt : Sl → Prop}
theorem s_raise0 (T : ExOk Θ.g x) (hg : Θ.sc.names.lookup x = some .globalImplicit) (hx : Ex ⟨x, []⟩) (hdb : (x == ("__debug__" : Str)) = false := by decide) : dS Θ M0 M (.Raise (some (.Call (.Name x p) [] [] p2)) none pos) Γ Ex Rt Kn := by
  intro X c F hF H0 σ H D s xt kn rt
  obtain ⟨C, gC, q, kC, sC, tC⟩ := T
  obtain ⟨W, tk, hW⟩ := xt
  refine wS_of (ps_raise c.calm tk (pmk_own0 (X := X) PySem.F.excBase_ValueError (by rw [c.K]; exact q) (by rw [c.mg]; exact gC) (by rw [c.K]; exact kC) (raises_own (by rw [c.K]; exact sC) (by rw [c.K]; exact tC)) (gl_of c hg) hdb)) ?_
  exact hW _ _ _ _ _ s.ev ⟨C, gC, rfl, .inl rfl⟩ hx
theorem s_raise2 (T : FlOk Θ.g x) (hg : Θ.sc.names.lookup x = some .globalImplicit) (h : dE Θ M a Γ Ex fun s => dE Θ M b Γ Ex fun t => ∃ dw df, s = .dat dw ∧ t = .dat df ∧ Ex ⟨x, [("where", dw), ("fault", df)]⟩) (hdb : (x == ("__debug__" : Str)) = false := by decide)
    (he : ∀ env, starEach [a, b] env = (false, eval a env) :: starEach [b] env := by intro _; rfl) (he2 : ∀ env, starEach [b] env = (false, eval b env) :: starEach [] env := by intro _; rfl) (hpl : ∀ env, (backTo p2 (starEach [b] env)).any (·.1) = false := by intro _; rfl) : dS Θ M0 M (.Raise (some (.Call (.Name x p) [a, b] [] p2)) none pos) Γ Ex Rt Kn := by
  intro X c F hF H0 σ H D s xt kn rt
  obtain ⟨q, ns, C, Dd, fI, gC, T, N, L⟩ := T
  obtain ⟨W, tk, hW⟩ := id xt
  refine wS_of (ps_raise c.calm tk (pmk_flt (X := X) (k := Θ.k) (by rw [c.prog, c.K]; exact T) N (by rw [c.prog]; exact L) c.room (pa_cons (pe X a) (pa_cons (pe X b) pa_nil (he2 _)) (he _)) (gl_of c hg) (by rw [c.mg]; exact gC) hdb (he _) (hpl _))) ?_
  refine h X c σ H _ s.env (xt.xr s.sub s.ev) fun v s1 H1 e1 ok1 q1 => q1 X c σ H1 _ (s.env.evo e1) ((xt.xr s.sub s.ev).evo e1) fun w s2 H2 e2 ok2 q2 => ?_
  obtain ⟨dw, df, rfl, rfl, hx⟩ := q2
  refine ⟨v, w, rfl, fun d hd => ?_⟩
  have hk2 := (s.env.hk.evo e1).evo e2
  have ev : Evo Θ.W H2 (upd H2 d (.xd [(("fault" : Str), w), (("where" : Str), v)])) := Evo.new hd
  have o1 := ((ok1.ev (s.env.hk.evo e1) e2).ev hk2 ev).less s.sub rfl
  have o2 := (ok2.ev hk2 ev).less s.sub rfl
  refine hW _ _ _ _ _ (((s.ev.trans e1).trans e2).trans ev) ⟨C, gC, rfl, .inr ⟨d, _, rfl, upd_same, fun f e hf => ?_⟩⟩ hx
  by_cases hw : f = "where"
  · subst hw
    have hf' : some dw = some e := hf
    cases hf'
    exact ⟨v, by with_unfolding_all rfl, dat_d o1⟩
  · have qw : (f == ("where" : Str)) = false := by simpa using hw
    simp only [List.lookup, qw] at hf
    by_cases hw2 : f = "fault"
    · subst hw2
      have hf' : some df = some e := hf
      cases hf'
      exact ⟨w, by with_unfolding_all rfl, dat_d o2⟩
    · have qw2 : (f == ("fault" : Str)) = false := by simpa using hw2
      simp [qw2] at hf
end
end Dl
set_option Elab.async false
set_option linter.all false
set_option maxRecDepth 100000
set_option maxHeartbeats 2000000
set_option autoImplicit false
namespace Dl
open PySem PySem.Spec PyProof.Rows L2
/-! ### try with several clauses, some of which name the error; one of them takes it -/
structure Cl where
  c : Value
  i : Option Nat
  ts : Addr → Value → Option Addr → TS
/-- behind a suite: the clause's name is gone -/
def offE (D : Ends) : Option Nat → Ends
  | none => D
  | some i => { nx := fun σ' H' => D.nx (σ'.set i none) H', rt := D.rt, bk := fun σ' H' => D.bk (σ'.set i none) H', ct := fun σ' H' => D.ct (σ'.set i none) H' }
def onS (σ : L2.St) (a : Addr) : Option Nat → L2.St
  | none => σ
  | some i => σ.set i (some (.ref a))
def wCl (K : PySem.W.Frag) (D : Ends) : List Cl → WX
  | [] => fun _ _ _ _ => False
  | l :: r => fun cls d σ H => ∃ b, PySem.W.exmOne K cls l.c = some b ∧ (b = true → ∀ a, H a = none → l.ts a cls d (offE D l.i) (onS σ a l.i) H) ∧ (b = false → wCl K D r cls d σ H)
inductive ClOk (X : Cx) : List ExceptHandler → List Cl → Prop
  | nil : ClOk X [] []
  | plain {x : Str} {c : Value} {ts : Addr → Value → Option Addr → TS} {b₀ : Stmt} {suite : List Stmt} {np pos' : Pos} {hds : List ExceptHandler} {l : List Cl} (hc : Names X x c)
      (hsu : ∀ (a : Addr) (oe : Obj) (cls : Value) (d : Option Addr) (pn : List (Addr × Obj)), Zc cls d oe → (∃ vs, oe.data = .fields vs) → PSs (X.suite a ((a, oe) :: pn)) (b₀ :: suite) (ts a cls d)) (r : ClOk X hds l) :
      ClOk X (.ExceptHandler (some (.Name x np)) none (b₀ :: suite) pos' :: hds) (⟨c, none, ts⟩ :: l)
  | as {x n : Str} {c : Value} {i : Nat} {ts : Addr → Value → Option Addr → TS} {b₀ : Stmt} {suite : List Stmt} {np pos' : Pos} {hds : List ExceptHandler} {l : List Cl} (hc : Names X x c) (hi : X.N[i]? = some n) (hln : X.env.kindOf n = some .local)
      (hsu : ∀ (a : Addr) (oe : Obj) (cls : Value) (d : Option Addr) (pn : List (Addr × Obj)), Zc cls d oe → (∃ vs, oe.data = .fields vs) → PSs (X.suite a ((a, oe) :: pn)) (b₀ :: suite) (ts a cls d)) (r : ClOk X hds l) :
      ClOk X (.ExceptHandler (some (.Name x np)) (some n) (b₀ :: suite) pos' :: hds) (⟨c, some i, ts⟩ :: l)
/-- of an error in the air the slots' number is known -/
theorem takes_len {X : Cx} {W : WX} (t : Takes X W) : Takes X (fun c d σ H => σ.length = X.N.length → W c d σ H) := fun u s' ⟨a, B, sI, pins, σ, H, cls, d, e, I, nb, up, sky, na, os, ag, w⟩ =>
  t u s' ⟨a, B, sI, pins, σ, H, cls, d, e, I, nb, up, sky, na, os, ag, w I.len⟩
section
variable {X : Cx} {body : List Stmt} {h₀ : ExceptHandler} {hds : List ExceptHandler} {l : List Cl} {pos : Pos} {tb : WX → TS}
theorem ps_tryCl (hs : X.stack = X.env :: X.outer) (hf : X.env.frame = some X.env.locals) (hN : X.N.Nodup)
    (hb : ∀ (W : WX) (pn : List (Addr × Obj)) (xe : Value → Shared → Prop), Takes (X.tr pn xe) W → PassesOwn (model X.prog X.w) X.A X.env xe → PSs (X.tr pn xe) body (tb W))
    (hh : ClOk X (h₀ :: hds) l) : PS X (.Try body (h₀ :: hds) [] [] pos) (fun D σ H => tb (wCl X.K D l) D σ H) := by
  refine ⟨fun pins s σ H D I h => ?_⟩
  have ok := I.ok
  have hfr : X.A.frames = some (X.env :: X.outer) := by rw [ok.frames, hs]
  refine wpAny_Try_except ?_
  refine wpAny_mono ((hb (wCl X.K D l) (X.pn ++ pins) (fun e s₁ => wpAny (model X.prog X.w) X.A (noteFrame e X.env) (fun _ s₂ => wpAny (model X.prog X.w) X.A (setFlight e none) (fun _ s₃ =>
    wpAny (model X.prog X.w) X.A (handleBy e X.env (h₀ :: hds)) (SP X pins D) X.xe s₃) X.xe s₂) X.xe s₁) (fun u s' xx => ?_) PassesOwn.looking).run [] s σ H D (I.toTry _) h) (fun f s1 hsp => ?_) (fun e s1 he => he)
  · obtain ⟨a, B, sI, pins', σ', H', cls, d, rfl, J', nb, up, sky, na, os, ag, w⟩ := xx
    have J : Inv X pins σ' H' sI := J'.ofTry ok
    have sky' : Sky B (X.env :: X.outer) a (Zc cls d) X.env.locals s'.heap := by rw [← hs]; exact sky
    show wpAny (model X.prog X.w) X.A (noteFrame (.ref a) X.env) _ _ _
    refine Sky.land Zc.steady hfr hf sky' fun h3 fl3 up3 => ?_
    have J3 : Inv X pins σ' H' { s' with heap := h3 } := J.landed nb fl3.1 (up.trans up3) os ag
    obtain ⟨oe3, vs3, he3, hz3, hd3⟩ := fl3.there
    have nfr : a ∉ frs (X.env :: X.outer) := fun hm => by
      obtain ⟨_, o', e', hnf⟩ := fl3.2.2.1.mem hm
      rw [he3] at e'; cases e'
      exact hnf _ hd3
    have nL : a ≠ X.env.locals := fun z => nfr (List.mem_filterMap.mpr ⟨X.env, List.mem_cons_self, by rw [hf, z]⟩)
    have nF : a ∉ X.fs := fun hm => by
      obtain ⟨e, he, q⟩ := List.mem_filterMap.mp hm
      exact nfr (List.mem_filterMap.mpr ⟨e, List.mem_cons_of_mem _ he, q⟩)
    have S3 := J3.suite he3 hd3 na nL nF
    -- a clause's test
    have test : ∀ {x : Str} {np : Pos} {c : Value} {b : Bool} {Q : Bool → Shared → Prop} {E : Value → Shared → Prop}, Names X x c → PySem.W.exmOne X.K cls c = some b → Q b { s' with heap := h3 } →
        wpAny (model X.prog X.w) (X.A.mark (some (.ref a))) (eval (.Name x np) X.env) (fun c s₁ => wpAny (model X.prog X.w) (X.A.mark (some (.ref a))) (excMatches (.ref a) c) Q E s₁) E { s' with heap := h3 } := by
      intro x np c b Q E hc hb1 q
      have LT : PySem.W.Looks (model X.prog X.w) h3 (typeOf (.ref a)) cls := fun A Q E s k q => wpAny_typeOf_ref (k _ _ he3) (by rw [hz3.1]; exact q)
      have LM := PySem.W.exm_one (M := model X.prog X.w) (J3.kIn) LT hb1
      obtain ⟨hg, hdbg, hm | ⟨hm, hv, hnn⟩⟩ := hc
      · exact ld_glob (X := X.suite a ((a, oe3) :: (X.pn ++ pins))) S3 hg hm (LM.here q) hdbg
      · exact ld_blt (X := X.suite a ((a, oe3) :: (X.pn ++ pins))) S3 hg hm hv (LM.here q) hnn hdbg
    have land : ∀ {Q : Unit → Shared → Prop} {E : Value → Shared → Prop}, (∀ (h4 : Heap) (oe4 : Obj), Zc cls d oe4 → (∃ vs, oe4.data = .fields vs) → Inv (X.suite a ((a, oe4) :: (X.pn ++ pins))) [] σ' H' { s' with heap := h4 } → Q () { s' with heap := h4 }) →
        wpAny (model X.prog X.w) (X.A.mark (some (.ref a))) (setFlight (.ref a) none) Q E { s' with heap := h3 } := by
      intro Q E hq
      refine HandSPX.lands_againZ fl3 fun h4 fl4 up4 => ?_
      have J4 : Inv X pins σ' H' { s' with heap := h4 } := J.landed nb fl4.1 ((up.trans up3).trans up4) os ag
      obtain ⟨oe4, vs4, he4, hz4, hd4⟩ := fl4.there
      exact hq h4 oe4 hz4 ⟨_, hd4⟩ (J4.suite he4 hd4 na nL nF)
    have go : ∀ {hds' : List ExceptHandler} {l' : List Cl}, ClOk X hds' l' → wCl X.K D l' cls d σ' H' → wpAny (model X.prog X.w) X.A (handleBy (.ref a) X.env hds') (SP X pins D) X.xe { s' with heap := h3 } := by
      intro hds' l' hk
      induction hk with
      | nil => intro w; exact w.elim
      | @plain x c ts b₀ suite np pos' hds2 l2 hc hsu r ih =>
        intro w
        obtain ⟨b, hb1, hyes, hno⟩ := w
        refine wpAny_handleBy_cons (codeAny_handlers_test (test hc hb1 ?_)) (by intro q; cases q)
        cases b with
        | true =>
          refine codeAny_handlers_suite (land fun h4 oe4 hz4 hd4 S4 => ?_)
          refine wpAny_mono ((hsu a oe4 cls d (X.pn ++ pins) hz4 hd4).run [] _ _ H' _ S4 (hyes rfl a na)) (fun f s6 hsp => ?_) (fun _ _ z => False.elim z)
          cases f with
          | next =>
            obtain ⟨σ6, H6, S6, q6⟩ := hsp
            exact ⟨_, _, S6.unsuite ok, q6⟩
          | brk =>
            obtain ⟨σ6, H6, S6, q6⟩ := hsp
            exact ⟨_, _, S6.unsuite ok, q6⟩
          | cont =>
            obtain ⟨σ6, H6, S6, q6⟩ := hsp
            exact ⟨_, _, S6.unsuite ok, q6⟩
          | ret u =>
            obtain ⟨v6, σ6, H6, S6, r6, q6⟩ := hsp
            exact ⟨_, _, _, S6.unsuite ok, r6, q6⟩
        | false =>
          show wpAny _ X.A (handleBy (.ref a) X.env hds2) _ _ _
          exact ih (hno rfl)
      | @as x n c i ts b₀ suite np pos' hds2 l2 hc hi hln hsu r ih =>
        intro w
        obtain ⟨b, hb1, hyes, hno⟩ := w
        refine wpAny_handleBy_cons (codeAny_handlers_test (test hc hb1 ?_)) (by intro q; cases q)
        cases b with
        | true =>
          refine codeAny_handlers_suite_as (land fun h4 oe4 hz4 hd4 S4 => ?_)
          refine store_ok (X := X.suite a ((a, oe4) :: (X.pn ++ pins))) (v := .ref a) S4 hN hi (.inl hln) rfl (fun s5 S5 => ?_) (.inr hln)
          refine wpAny_mono ((hsu a oe4 cls d (X.pn ++ pins) hz4 hd4).run [] s5 _ H' _ S5 (hyes rfl a na)) (fun f s6 hsp => ?_) (fun _ _ z => False.elim z)
          have end_ : ∀ {σ6 : L2.St} {H6 : Hp} {Q : Shared → Prop}, Inv (X.suite a ((a, oe4) :: (X.pn ++ pins))) [] σ6 H6 s6 → (∀ s7, Inv X pins (σ6.set i none) H6 s7 → Q s7) →
              wpAny (model X.prog X.w) X.A (do bindName X.env n .none; unbindBehindTheSuite X.env n pos') (fun _ s7 => Q s7) X.xe s6 := fun {σ6 H6 Q} S6 hq => gone_ok (S6.unsuite ok) hN hi hln hq
          cases f with
          | next =>
            obtain ⟨σ6, H6, S6, q6⟩ := hsp
            exact end_ S6 fun s7 J7 => ⟨_, _, J7, q6⟩
          | brk =>
            obtain ⟨σ6, H6, S6, q6⟩ := hsp
            exact end_ S6 fun s7 J7 => ⟨_, _, J7, q6⟩
          | cont =>
            obtain ⟨σ6, H6, S6, q6⟩ := hsp
            exact end_ S6 fun s7 J7 => ⟨_, _, J7, q6⟩
          | ret u =>
            obtain ⟨v6, σ6, H6, S6, r6, q6⟩ := hsp
            exact end_ S6 fun s7 J7 => ⟨_, _, _, J7, r6, q6⟩
        | false =>
          show wpAny _ X.A (handleBy (.ref a) X.env hds2) _ _ _
          exact ih (hno rfl)
    exact go hh w
  · cases f with
    | next =>
      obtain ⟨σ', H', J', q⟩ := hsp
      exact wpAny_execs_nil ⟨σ', H', J'.ofTry ok, q⟩
    | brk =>
      obtain ⟨σ', H', J', q⟩ := hsp
      exact ⟨σ', H', J'.ofTry ok, q⟩
    | cont =>
      obtain ⟨σ', H', J', q⟩ := hsp
      exact ⟨σ', H', J'.ofTry ok, q⟩
    | ret u =>
      obtain ⟨v, σ', H', J', r, q⟩ := hsp
      exact ⟨v, σ', H', J'.ofTry ok, r, q⟩
/-- error.f, error the exception that the suite holds -/
def tFld (f : Str) (C : Addr) (a : Addr) (cls : Value) (d : Option Addr) (te : TE) : TE := fun σ H Q => te σ H fun x H1 => x = .ref a ∧ cls = .ref C ∧ ∃ (dd : Addr) (fs : List (Str × V)) (v : V), d = some dd ∧ H1 dd = some (.xd fs) ∧ fs.lookup f = some v ∧ Q v H1
theorem pe_fld {C D fI : Addr} {q : FlX.Ps} {ns : List (Str × NameKind)} {f : Str} {a : Addr} {oe : Obj} {cls : Value} {d : Option Addr} {pn : List (Addr × Obj)} {e : Expr} {te : TE} {pos : Pos} (T : FlX.Txt X.prog X.K q ns C D fI) (hno : PySem.W.findIn X.K (.ref C) f = some none) (hz : Zc cls d oe) (hf : ∃ vs, oe.data = .fields vs)
    (he : PE (X.suite a ((a, oe) :: pn)) e te) (hb : attributeBase e f X.env (eval e X.env) = eval e X.env := by rfl) : PE (X.suite a ((a, oe) :: pn)) (.Attribute e f pos) (tFld f C a cls d te) := by
  refine ⟨fun pins s σ H Q I h => ?_⟩
  refine attr_of hb (thn (he.run pins s σ H _ I h) fun u s1 hh => ?_)
  obtain ⟨x, H1, I1, rx, ex, ec, dd, fs, v, ed, ea, el, q⟩ := hh
  subst ex
  obtain rfl : u = Value.ref a := rx
  subst ec
  subst ed
  obtain ⟨ha, _⟩ := I1.pin (a, oe) (List.mem_append_left _ List.mem_cons_self)
  obtain ⟨vs, hd⟩ := hf
  obtain ⟨mA, hns, hr⟩ := I1.hok dd _ ea
  obtain ⟨od, ho, hl⟩ := lookIn_ns hns
  obtain ⟨u, hu, ru⟩ := RelO.some_of (v := v) (o := mA f) (by rw [← el]; exact hr f)
  have J : PySem.W.InstAt s1.heap a oe C (some od) := ⟨ha, hz.1, by unfold PySem.W.notCls; rw [hd] <;> rfl, by rw [hz.2]; exact ho⟩
  exact HandSPX.exc_get I1.kIn J T.ga T.gg T.exC (PySem.W.findObj_own T.hdC hno rfl (by rw [hl, hu])) (handed_of ru) ⟨v, H1, I1.tok _, ru, q⟩
end
/-- the facts of a try that tells: y an own error class with fields, z one without -/
structure TellOk (G : Gd) (y z : Str) : Prop where
  fl : FlOk G y
  zx : ∃ C, G.mg z = some (.ref C)
  yy : ∀ C, G.mg y = some (.ref C) → PySem.W.exmOne G.W.K (.ref C) (.ref C) = some true
  zy : ∀ C C', G.mg y = some (.ref C) → G.mg z = some (.ref C') → PySem.W.exmOne G.W.K (.ref C') (.ref C) = some false
  zz : ∀ C, G.mg z = some (.ref C) → PySem.W.exmOne G.W.K (.ref C) (.ref C) = some true
section
variable {Θ : Th} {M0 M : List Addr} {Γ : Gm} {Ex : Xn → Prop} {Ex1 : Xn → Prop} {e : Expr} {x y z n : Str} {Kn : List Addr → Gm → Prop} {Rt : Sl → Prop} {i : Nat}
/-- try: return e / except y as n: return ('fault', (n.where, n.fault)) / except z: return ('Nothing',) -/
theorem s_tell {t1 t2 : Str} {k1 k2 k3 k4 k5 : Nat} {pos p1 p2 p3 p4 p5 p6 p7 p8 p9 p10 p11 p12 p13 p14 p15 p16 p17 : Pos} (T : TellOk Θ.g y z) (hN : posN Θ.N n = some i) (hn : Θ.sc.names.lookup n = some .local) (hy : Θ.sc.names.lookup y = some .globalImplicit) (hz : Θ.sc.names.lookup z = some .globalImplicit) (hf : Θ.full = true)
    (h : dE Θ M e Γ Ex1 fun s => s.pure = true ∧ Rt s) (hx : ∀ x, Ex1 x → (∃ dw df, x = ⟨y, [("where", dw), ("fault", df)]⟩ ∧ Rt (.dat (.tuple [.str t1, .tuple [dw, df]]))) ∨ (x = ⟨z, []⟩ ∧ Rt (.dat (.tuple [.str t2]))))
    (hdy : (y == ("__debug__" : Str)) = false := by decide) (hdz : (z == ("__debug__" : Str)) = false := by decide) (hdn : (n == ("__debug__" : Str)) = false := by decide) (hcn : (n == ("__classdict__" : Str)) = false := by decide)
    (hb1 : ∀ env, attributeBase (.Name n p5) "where" env (eval (.Name n p5) env) = eval (.Name n p5) env := by intro _; rfl) (hb2 : ∀ env, attributeBase (.Name n p7) "fault" env (eval (.Name n p7) env) = eval (.Name n p7) env := by intro _; rfl) :
    dS Θ M0 M (.Try [.Return (some e) p1] [.ExceptHandler (some (.Name y p2)) (some n) [.Return (some (.Tuple [.Constant (.str t1) k1 p4, .Tuple [.Attribute (.Name n p5) "where" p6, .Attribute (.Name n p7) "fault" p8] k2 p9] k3 p10)) p11] p3,
      .ExceptHandler (some (.Name z p12)) none [.Return (some (.Tuple [.Constant (.str t2) k4 p14] k5 p15)) p16] p13] [] [] pos) Γ Ex Rt Kn := by
  intro X c F hF H0 σ0 H D s xt kn rt
  obtain ⟨q, ns, C, Dd, fI, gC, Tx, N, L⟩ := T.fl
  obtain ⟨C2, gC2⟩ := T.zx
  have hN' : X.N[i]? = some n := by rw [c.N]; exact posN_ok hN
  have hn' : X.env.kindOf n = some .local := by show X.env.scope.names.lookup n = _; rw [c.sc]; exact hn
  have Tx' : FlX.Txt X.prog X.K q ns C Dd fI := by rw [c.prog, c.K]; exact Tx
  have il : i < X.N.length := (List.getElem?_eq_some_iff.mp hN').1
  have hh : ClOk X [.ExceptHandler (some (.Name y p2)) (some n) [.Return (some (.Tuple [.Constant (.str t1) k1 p4, .Tuple [.Attribute (.Name n p5) "where" p6, .Attribute (.Name n p7) "fault" p8] k2 p9] k3 p10)) p11] p3,
      .ExceptHandler (some (.Name z p12)) none [.Return (some (.Tuple [.Constant (.str t2) k4 p14] k5 p15)) p16] p13] _ :=
    .as (c := .ref C) (i := i) ⟨gl_of c hy, hdy, .inl (by rw [c.mg]; exact gC)⟩ hN' hn' (fun a oe cls d pn hz hf => pss_one (ps_ret (pe_tup (pa_cons pe_str (pa_cons (pe_tup (pa_cons (pe_fld Tx' Tx'.noW hz hf (pe_var (i := i) hN' (.inl hn') hdn hcn) (hb1 _)) (pa_cons (pe_fld Tx' Tx'.noF hz hf (pe_var (i := i) hN' (.inl hn') hdn hcn) (hb2 _)) pa_nil))) pa_nil)))))
    (.plain (c := .ref C2) ⟨gl_of c hz, hdz, .inl (by rw [c.mg]; exact gC2)⟩ (fun a oe cls d pn _ _ => pss_one (ps_ret (pe_tup (pa_cons pe_str pa_nil)))) .nil)
  obtain ⟨st1, st2⟩ := c.stk hf
  refine wS_of (ps_tryCl (tb := fun W D σ H => ∀ pn xe, Takes (X.tr pn xe) W → PassesOwn (model X.prog X.w) X.A X.env xe → wSs (X.tr pn xe) [.Return (some e) p1] D σ H) st1 st2 c.nd (fun W pn xe tk pas => ⟨fun pins s σ H D I h => (pss _ _).run pins s σ H D I (h pn xe tk pas)⟩) hh) ?_
  intro pn xe tk pas
  have ct : Cpt Θ (X.tr pn xe) := ⟨c.prog, c.w, c.K, c.mg, c.base, c.N, c.sc, c.room, c.calm, c.nd, c.cel, pas, c.own, c.stk, c.clo⟩
  have one2 : ∀ (u v : V), [u, v].length ≤ sizeLine := fun _ _ => by rw [sizeLine_eq]; show 2 ≤ 16777216; omega
  have one1 : ∀ (u : V), [u].length ≤ sizeLine := fun _ => by rw [sizeLine_eq]; show 1 ≤ 16777216; omega
  refine s_cons (s_ret h) _ ct F hF H0 σ0 H D s ⟨_, takes_len tk, fun x cls d σ H' ev ok hex hlen => ?_⟩ kn rt
  have hk : Hk Θ.W M0 H' := s.g0.evo ev
  rcases hx x hex with ⟨dw, df, rfl, hr⟩ | ⟨rfl, hr⟩
  · obtain ⟨C', g1, rfl, hargs⟩ := ok
    have eC : C' = C := by
      have g1' : Θ.g.mg y = some (.ref C') := g1
      rw [gC] at g1'
      cases g1'
      rfl
    subst eC
    refine ⟨true, by rw [c.K]; exact T.yy _ gC, fun _ a na => ?_, fun z => by cases z⟩
    rcases hargs with z | ⟨dd, fs, ed, hdd, hfs⟩
    · cases z
    obtain ⟨v1, l1, d1⟩ := hfs "where" dw (by with_unfolding_all rfl)
    obtain ⟨v2, l2, d2⟩ := hfs "fault" df (by with_unfolding_all rfl)
    have hlk : (onS σ a (some i))[i]? = some (some (.ref a)) := List.getElem?_set_self (by rw [hlen]; exact il)
    refine ⟨.ref a, hlk, rfl, rfl, dd, fs, v1, ed, hdd, l1, .ref a, hlk, rfl, rfl, dd, fs, v2, ed, hdd, l2, one2 _ _, fun p hp => ⟨one2 _ _, fun p2 hp2 => ?_⟩⟩
    have n1 := new_tup hk hp (.cons d1 (.cons d2 .nil))
    have ev1 : Evo Θ.W H' (upd H' p (.tup [v1, v2])) := Evo.new hp
    have hk1 := hk.evo ev1
    exact rt _ _ _ ((ev.trans ev1).trans (Evo.new hp2)) (new_tup hk1 hp2 (.cons (.str t1) (.cons (dat_d n1) .nil))) hr
  · obtain ⟨C', g1, rfl, hargs⟩ := ok
    have eC : C' = C2 := by
      have g1' : Θ.g.mg z = some (.ref C') := g1
      rw [gC2] at g1'
      cases g1'
      rfl
    subst eC
    refine ⟨false, by rw [c.K]; exact T.zy _ _ gC gC2, (fun z => by cases z), fun _ => ⟨true, by rw [c.K]; exact T.zz _ gC2, fun _ a na => ⟨one1 _, fun p hp => ?_⟩, (fun z => by cases z)⟩⟩
    exact rt _ _ _ (ev.trans (Evo.new hp)) (new_tup hk hp (.cons (.str t2) .nil)) hr
end
end Dl
set_option Elab.async false
set_option linter.all false
set_option maxRecDepth 100000
set_option maxHeartbeats 2000000
set_option autoImplicit false
namespace Dl
open PySem PySem.Spec PyProof.Rows L2
/-! ### the bag of drawn numbers -/
theorem Evo.bagW {W : Wd} {H : Hp} {i : Nat} {v : Int} (g : Good W H) (hi : i < 3) (hv : 0 ≤ v) {xs : List V} (hx : H W.b = some (.lst xs)) : Evo W H (upd H W.b (.lst (xs.set i (.int v)))) := by
  obtain ⟨x, y, z, h1, b1, b2, b3⟩ := g.bag.at_
  rw [hx] at h1
  cases h1
  have kp : ∀ a o, H a = some o → a ≠ W.b → upd H W.b (.lst (List.set [V.int x, V.int y, V.int z, V.ref W.q] i (.int v))) a = some o := fun a o h n => by rw [upd_ne n]; exact h
  refine ⟨fun a o h n _ => kp a o h n, fun _ => ⟨⟨?_, kp _ _ g.bag.cells g.bag.ne, g.bag.ne, g.bag.pos, g.bag.few⟩, Stay.tabs g.tabs fun a o h n => kp a o h (fun z => by rw [z, hx] at h; exact n _ (Option.some.inj h).symm)⟩, fun a ha => ?_⟩
  · match i, hi with
    | 0, _ => exact ⟨v, y, z, upd_same, hv, b2, b3⟩
    | 1, _ => exact ⟨x, v, z, upd_same, b1, hv, b3⟩
    | 2, _ => exact ⟨x, y, v, upd_same, b1, b2, hv⟩
  · by_cases h : a = W.b
    · rw [h, upd_same] at ha
      cases ha
    · rw [upd_ne h] at ha
      exact ha
section
variable {Θ : Th} {M0 M : List Addr} {Γ : Gm} {Ex : Xn → Prop} {Q : Sl → Prop} {a b e : Expr} {pos p p2 p3 : Pos} {x : Str} {Kn : List Addr → Gm → Prop} {Rt : Sl → Prop}
theorem x_B {k : Int} (hk : k = 0 ∨ k = 1 ∨ k = 2) (h : ∀ n : Int, 0 ≤ n → Q (.dat (.int n))) : IxD Θ M .bag (.dat (.int k)) Q := by
  intro X c v w H R hk' h1 h2 k' a b
  obtain ⟨x, y, z, hb, b1, b2, b3⟩ := hk'.good.bag.at_
  have hv : v = .ref Θ.W.b := by cases h1 with | bag => rfl
  refine wX_of (ix_list (X := X)) ?_
  rcases hk with rfl | rfl | rfl
  · exact ⟨Θ.W.b, _, 0, .int x, hv, dat_int h2, .of hb, rfl, k' _ _ H (Evo.refl H) (.dat (.int x)) (h x b1)⟩
  · exact ⟨Θ.W.b, _, 1, .int y, hv, dat_int h2, .of hb, rfl, k' _ _ H (Evo.refl H) (.dat (.int y)) (h y b2)⟩
  · exact ⟨Θ.W.b, _, 2, .int z, hv, dat_int h2, .of hb, rfl, k' _ _ H (Evo.refl H) (.dat (.int z)) (h z b3)⟩
/-- bag[k] = e -/
theorem s_bag {i : Nat} {k k0 : Nat} {p4 : Pos} (hN : posN Θ.N x = some i) (hv : visB Θ.sc x = true) (hΓ : Γ[i]? = some (some .bag)) (hk : k < 3)
    (h : dE Θ M e Γ Ex fun s => ∃ n : Int, 0 ≤ n ∧ s = .dat (.int n) ∧ Kn M Γ)
    (hs : ∀ env, swapsWithSole [.Subscript (.Name x p) (.Constant (.int (k : Int)) k0 p4) p2] e pos.line env = pure false := by intro _; rfl) (hw : ∀ env, swappedStores [.Subscript (.Name x p) (.Constant (.int (k : Int)) k0 p4) p2] e env = pure none := by intro _; rfl) (h1 : ∀ env, (assignEach [.Subscript (.Name x p) (.Constant (.int (k : Int)) k0 p4) p2] env).map (·.2) = [assign (.Subscript (.Name x p) (.Constant (.int (k : Int)) k0 p4) p2) env] := by intro _; rfl)
    (ha : ∀ env v, assign (.Subscript (.Name x p) (.Constant (.int (k : Int)) k0 p4) p2) env v = (do
      let ov ← holding [v] (eval (.Name x p) env)
      let iv ← holding [v, ov] (eval (.Constant (.int (k : Int)) k0 p4) env)
      standAt p2
      holding [v, ov, iv] (setItem ov iv v)
      release [v, ov, iv] []) := by intro _ _; rfl)
    (hd : (x == ("__debug__" : Str)) = false := by decide) (hcd : (x == ("__classdict__" : Str)) = false := by decide) : dS Θ M0 M (.Assign [.Subscript (.Name x p) (.Constant (.int (k : Int)) k0 p4) p2] e pos) Γ Ex Rt Kn := by
  intro X c F hF H0 σ H D s xt kn rt
  refine wS_of (ps_asg (pe X e) (pg_sub (pe_var (i := i) (by rw [c.N]; exact posN_ok hN) (by rw [c.sc]; exact visB_ok hv) hd hcd) pe_int set_list (ha _)) (hs _) (hw _) (h1 _)) (h X c σ H _ s.env (xt.xr s.sub s.ev) fun w t H1 e1 ok1 q => ?_)
  have s1 := s.evo hF e1
  obtain ⟨v, g1, g2⟩ := s1.env.at_ i _ hΓ
  have hv' : v = .ref Θ.W.b := by cases g2 with | bag => rfl
  obtain ⟨n, hn, rfl, q⟩ := q
  obtain ⟨xs, hb⟩ := s1.env.good.bag.lst
  have hxs : xs.length = 4 := by
    obtain ⟨x, y, z, h1, _⟩ := s1.env.good.bag.at_
    rw [hb] at h1
    cases h1
    rfl
  have ev := Evo.bagW s1.env.good hk hn hb
  refine ⟨v, g1, Θ.W.b, xs, (k : Int), k, hv', rfl, hb, by unfold ixN; rw [if_pos (by omega), if_pos (by rw [hxs]; omega), Int.toNat_natCast], ?_⟩
  rw [dat_int ok1]
  exact kn _ _ _ _ (s1.evo hF ev) q
def rGetL (K : PySem.W.Frag) : V → V → Hp → VK → Prop := fun x y H Q => ∃ (p : Addr) (xs : List V) (i : Nat) (v : V), x = .ref p ∧ y = .int (i : Int) ∧ SqL K H p xs ∧ xs[i]? = some v ∧ Q v H
theorem get_list {X : Cx} : PGet X (rGetL X.K) := by
  intro pins s σ H o i ov iv Q I ro ri h
  obtain ⟨p, xs, i, z, rfl, rfl, hq, he, q⟩ := h
  cases ro
  obtain ⟨t, rfl⟩ := ri
  obtain ⟨its, r, pl, hz⟩ := I.list hq
  obtain ⟨w, ew, rw'⟩ := r.get he
  have hi : i < xs.length := (List.getElem?_eq_some_iff.mp he).1
  have hn := line63
  exact wpAny_getItem_list pl.isList (Int.natCast_nonneg i) (by omega) (by rw [Int.toNat_natCast]; simpa using ew) ⟨z, H, I, rw', q⟩
/-- bag[2] += n -/
theorem s_bagAug {i : Nat} {k k0 k1 n : Nat} {p4 p5 : Pos} (hN : posN Θ.N x = some i) (hv : visB Θ.sc x = true) (hΓ : Γ[i]? = some (some .bag)) (hk : k < 3) (q : Kn M Γ)
    (ha : ∀ ov iv new, augStore (.Constant (.int (k : Int)) k0 p4) ov iv new = (do holding [new, ov, iv] (setItem ov iv new); release [new, ov, iv] []; pure .next)   := by intros; rfl)
    (hd : (x == ("__debug__" : Str)) = false := by decide) (hcd : (x == ("__classdict__" : Str)) = false := by decide) : dS Θ M0 M (.AugAssign (.Subscript (.Name x p) (.Constant (.int (k : Int)) k0 p4) p2) .Add (.Constant (.int (n : Int)) k1 p5) pos) Γ Ex Rt Kn := by
  intro X c F hF H0 σ H D s xt kn rt
  obtain ⟨v, g1, g2⟩ := s.env.at_ i _ hΓ
  have hv' : v = .ref Θ.W.b := by cases g2 with | bag => rfl
  refine wS_of (ps_augS (pe_var (i := i) (by rw [c.N]; exact posN_ok hN) (by rw [c.sc]; exact visB_ok hv) hd hcd) pe_int get_list pe_int ip_add set_list ha) ?_
  obtain ⟨x, y, z, hb, b1, b2, b3⟩ := s.env.good.bag.at_
  have ev : ∀ u : Int, 0 ≤ u → Evo Θ.W H (upd H Θ.W.b (.lst (List.set [V.int x, V.int y, V.int z, V.ref Θ.W.q] k (.int u)))) := fun u hu => Evo.bagW s.env.good hk hu hb
  have fin : ∀ u : Int, 0 ≤ u → D.nx σ (upd H Θ.W.b (.lst (List.set [V.int x, V.int y, V.int z, V.ref Θ.W.q] k (.int u)))) := fun u hu => kn _ _ _ _ (s.evo hF (ev u hu)) q
  have hix : ixN [V.int x, V.int y, V.int z, V.ref Θ.W.q].length (k : Int) = some k := by
    unfold ixN
    rw [if_pos (by omega), if_pos (by show (k : Int) < 4; omega), Int.toNat_natCast]
  match k, hk with
  | 0, _ => exact ⟨v, g1, Θ.W.b, _, 0, .int x, hv', rfl, .of hb, rfl, x, n, rfl, rfl, Θ.W.b, _, _, 0, hv', rfl, hb, hix, fin _ (by show (0 : Int) ≤ _ + _; omega)⟩
  | 1, _ => exact ⟨v, g1, Θ.W.b, _, 1, .int y, hv', rfl, .of hb, rfl, y, n, rfl, rfl, Θ.W.b, _, _, 1, hv', rfl, hb, hix, fin _ (by show (0 : Int) ≤ _ + _; omega)⟩
  | 2, _ => exact ⟨v, g1, Θ.W.b, _, 2, .int z, hv', rfl, .of hb, rfl, z, n, rfl, rfl, Θ.W.b, _, _, 2, hv', rfl, hb, hix, fin _ (by show (0 : Int) ≤ _ + _; omega)⟩
/-- (bag[3][bag[2]:] + [0])[0] -/
theorem d_cell {i : Nat} {k1 k2 k3 k4 : Nat} {p4 p5 p6 p7 p8 p9 p10 p11 p12 p13 : Pos} (hN : posN Θ.N x = some i) (hv : visB Θ.sc x = true) (hΓ : Γ[i]? = some (some .bag)) (h : ∀ n : Int, 0 ≤ n → Q (.dat (.int n)))
    (hd : (x == ("__debug__" : Str)) = false := by decide) (hcd : (x == ("__classdict__" : Str)) = false := by decide) :
    dE Θ M (.Subscript (.BinOp (.Subscript (.Subscript (.Name x p) (.Constant (.int 3) k1 p2) p3) (.Slice (some (.Subscript (.Name x p4) (.Constant (.int 2) k2 p5) p6)) none none p7) p8) .Add (.List [.Constant (.int 0) k3 p9] p10) p11) (.Constant (.int 0) k4 p12) p13) Γ Ex Q := by
  intro X c σ H R E xr k
  have hvar : ∀ p, PE X (.Name x p) (tVar i) := fun p => pe_var (i := i) (by rw [c.N]; exact posN_ok hN) (by rw [c.sc]; exact visB_ok hv) hd hcd
  refine wE_of (pe_ix ix_list (pe_op op_cat (pe_slice sl_list (pe_ix ix_list (hvar _) pe_int (by intro _ _; rfl)) (po_some (pe_ix ix_list (hvar _) pe_int (by intro _ _; rfl))) po_none) (pe_lst (pa_cons pe_int pa_nil))) pe_int (by intro _ _; rfl)) ?_
  obtain ⟨v, g1, g2⟩ := E.at_ i _ hΓ
  have hv' : v = .ref Θ.W.b := by cases g2 with | bag => rfl
  obtain ⟨x, y, z, hb, b1, b2, b3⟩ := E.good.bag.at_
  refine ⟨v, g1, Θ.W.b, _, 3, .ref Θ.W.q, hv', rfl, .of hb, rfl, v, g1, Θ.W.b, _, 2, .int z, hv', rfl, .of hb, rfl, z, rfl, Θ.W.q, _, rfl, .of E.good.bag.cells, fun p hp => ?_⟩
  have e1 : Evo Θ.W H (upd H p (.lst (cutV (Θ.W.cs.map V.int) (some z) none))) := Evo.new hp
  have hl : (cutV (Θ.W.cs.map V.int) (some z) none).length ≤ 63 := by
    unfold cutV
    rw [List.length_take, List.length_drop, List.length_map]
    have := E.good.bag.few
    omega
  have sl := line63
  have h64 : (64 : Nat) ≤ sizeLine := by rw [sizeLine_eq]; omega
  refine ⟨by show 1 ≤ sizeLine; omega, fun p2 hp2 => ⟨p, p2, _, _, rfl, rfl, by rw [upd_ne (ne_of_none upd_same hp2)]; exact upd_same, upd_same, by show _ + 1 ≤ _; omega, fun p3 hp3 => ?_⟩⟩
  have e2 : Evo Θ.W (upd H p (.lst (cutV (Θ.W.cs.map V.int) (some z) none))) _ := Evo.new (o := .lst [V.int 0]) hp2
  have e3 := Evo.new (Θ := Θ.W) (o := .lst (cutV (Θ.W.cs.map V.int) (some z) none ++ [V.int 0])) hp3
  have pos : ∀ w ∈ cutV (Θ.W.cs.map V.int) (some z) none ++ [V.int 0], ∃ n : Int, 0 ≤ n ∧ w = .int n := fun w hw => by
    rcases List.mem_append.mp hw with hw | hw
    · unfold cutV at hw
      have hw2 := List.mem_of_mem_drop (List.mem_of_mem_take hw)
      obtain ⟨n, hn, rfl⟩ := List.mem_map.mp hw2
      exact ⟨n, E.good.bag.pos n hn, rfl⟩
    · rw [List.mem_singleton.mp hw]
      exact ⟨0, by omega, rfl⟩
  obtain ⟨w, hw⟩ : ∃ w, (cutV (Θ.W.cs.map V.int) (some z) none ++ [V.int 0])[0]? = some w := by
    cases q : cutV (Θ.W.cs.map V.int) (some z) none with
    | nil => exact ⟨_, rfl⟩
    | cons a l => exact ⟨a, rfl⟩
  obtain ⟨n, hn, rfl⟩ := pos w (List.mem_of_getElem? hw)
  exact ⟨p3, _, 0, .int n, rfl, rfl, .of upd_same, atI_nat hw, k _ _ _ ((e1.trans e2).trans e3) (.dat (.int n)) (h n hn)⟩
end
end Dl
set_option Elab.async false
set_option linter.all false
set_option maxRecDepth 100000
set_option maxHeartbeats 4000000
set_option autoImplicit false
namespace DlI
open PySem PySem.Spec PyProof.Rows L2
/-! ### enumerate of a tuple; zip of a list and a tuple -/
set_option maxHeartbeats 4000000 in
theorem meets_enum1 {v : Value} {o : Obj} {H : Heap → Prop} (B : Begins v o H) :
    Meets (Builtin.«enumerate.__new__» ⟨[.type "enumerate", v], []⟩) (fun _ R s => H s.heap ∧
      R (.ok (.ret (.ref (s.heap.push o).objs.size))) { s with heap := (s.heap.push o).push { cls := .type "enumerate", data := .fields #[.none, .bool false, .ref s.heap.objs.size, rawInt 0, .none, .none] } }) :=
  .of_wp fun prog w A R s h => by
    obtain ⟨hp, g, d, tk, os⟩ := s; obtain ⟨h1, h⟩ := h
    have hsub := sub_enumerate
    have q1 : ∀ {A' : Around} {E : Value → Shared → Prop} {Q : Value → Shared → Prop}, Q (.ref hp.objs.size) ⟨hp.push o, g, d, tk, os⟩ → wpAny (model prog w) A' (pyIter v) Q E ⟨hp, g, d, tk, os⟩ :=
      fun q => B.iter prog w _ _ ⟨hp, g, d, tk, os⟩ _ h1 q
    wp_walk using q1
    refine wpAny_stack_any fun st => wpAny_pure ?_
    split
    · rename_i c _ _ _ _ _
      cases (c == Value.type "enumerate")
      · wp_walk using q1
        exact ⟨_, rfl, h⟩
      · wp_walk using q1
        exact ⟨_, rfl, h⟩
    · wp_walk using q1
      exact ⟨_, rfl, h⟩
section
variable {prog : Program} {w : World} {A : Around} {E : Value → Shared → Prop} {s : Shared}
theorem enum1_begins {v : Value} {o : Obj} {H : Heap → Prop} {Q : Value → Shared → Prop} (B : Begins v o H) (h1 : H s.heap)
    (h : ∀ h', IsEnum h' (s.heap.objs.size + 1) s.heap.objs.size 0 .none → h'.get? s.heap.objs.size = some o → h'.objs.size = s.heap.objs.size + 2 →
      (∀ b o, s.heap.get? b = some o → h'.get? b = some o) → Q (.ref (s.heap.objs.size + 1)) { s with heap := h' }) :
    wpAny (model prog w) A (call (.type "enumerate") [v]) Q E s := by
  refine callType_new F.called_enumerate (by decide) (F.typeCall_enumerate_1 _) (F.newCall_enumerate_1 _) (fun obj => F.args_object_init_2 obj _) F.entry_enumerate_new (meets_enum1 B) ⟨h1, ?_⟩
  have hz : (s.heap.push o).objs.size = s.heap.objs.size + 1 := Heap.size_push ..
  show _ ∧ _
  rw [hz]
  have he : IsEnum ((s.heap.push o).push { cls := .type "enumerate", data := .fields #[.none, .bool false, .ref s.heap.objs.size, rawInt 0, .none, .none] }) (s.heap.objs.size + 1) s.heap.objs.size 0 .none := by
    have := Heap.get?_push_size (s.heap.push o) (o := { cls := .type "enumerate", data := .fields #[.none, .bool false, .ref s.heap.objs.size, rawInt 0, .none, .none] }) rfl
    rw [hz] at this; exact this
  exact ⟨⟨_, he, rfl⟩, h _ he (Heap.get?_push_of_some _ (Heap.get?_push_size _ B.free)) (by rw [Heap.size_push, hz]) fun b o x => Heap.get?_push_of_some _ (Heap.get?_push_of_some _ x)⟩
end
/-- the tuple at a, each item in a new pair -/
def IteT (K : PySem.W.Frag) (a : Addr) : It :=
  ⟨fun i H => ∃ (xs : List V) (x : V), SqT K H a xs ∧ xs[i]? = some x, fun i H v H' => ∃ T x, v = .ref T ∧ H T = none ∧ H' = upd H T (.tup [.int (i : Nat), x]) ∧ ∀ xs, SqT K H a xs → xs[i]? = some x, fun i H => ∃ xs : List V, SqT K H a xs ∧ xs.length ≤ i⟩
theorem turn_enumT {P : Program} {w : World} {K : PySem.W.Frag} {elts : List Expr} {kk : Nat} {tpos : Pos} (a e it : Addr) :
    Turn P w K (.Tuple elts kk tpos) (IteT K a) [e, it] e (fun i h => (∃ old, IsEnum h e it ((i : Nat) : Int) old) ∧ h.IsTupleIter it a i ∧ e ≠ it ∧ a ≠ it ∧ a ≠ e) where
  mem := by simp
  obj := fun i h st b hb => by
    obtain ⟨⟨old, he⟩, ⟨o, ho, hc, hd⟩, _⟩ := st
    have e' : b = e ∨ b = it := by simpa using hb
    rcases e' with z | z
    · rw [z]; exact ⟨_, he, fun v q => nomatch q⟩
    · rw [z]; exact ⟨o, ho, fun v q => by rw [hd] at q; cases q⟩
  keep := fun i h h' st k => let ⟨⟨old, he⟩, hi, hne⟩ := st; ⟨⟨old, k e (by simp) _ he⟩, hi.at fun o q => k it (by simp) o q, hne⟩
  item := by
    intro X hP hw hK hc i pins s σ H E I hf st hg
    subst hP hw hK
    obtain ⟨⟨old, he⟩, hit, hne, hat, hae⟩ := st
    obtain ⟨xs, x, hq, hx⟩ := hg
    obtain ⟨its, rv, p, hz⟩ := I.tuple hq
    obtain ⟨u, hu, ru⟩ := rv.get hx
    have hel : e < s.heap.objs.size := Heap.lt_size he
    have hil : it < s.heap.objs.size := by obtain ⟨_, q, _⟩ := hit; exact Heap.lt_size q
    have hlt : i < its.toArray.size := by
      have := (List.getElem?_eq_some_iff.mp hu).1
      simpa using this
    refine wpAny_pyNext_enum_itemD (PySem.Draws.tuple (A := X.A.in1) (show X.A.in1.handled = none from I.ok.hd hc) it a hat its.toArray) he ⟨hit, p⟩ hlt hne (by simp [hne, Ne.symm hae]) fun u' h' tk hu' ho hit' hT hsz hk => ?_
    have eu : u' = u := by
      have : its.toArray[i]? = some u := by simpa using hu
      rw [this] at hu'
      cases hu'
      rfl
    subst eu
    refine ⟨_, rfl, wpAny_letOwnedTupleGo_enum (s := { s with heap := h', toks := tk + 1 }) ho fun h'' he' sb => ?_⟩
    have hT2 : h''.get? s.heap.objs.size = some { cls := .type "tuple", data := .seq #[.int i tk, u'] } := (sb.2 _ (Nat.ne_of_gt hel)).trans hT
    have new : ObjOk X.prog X.w (upd H s.heap.objs.size (.tup [.int (i : Nat), x])) h'' s.heap.objs.size (.tup [.int (i : Nat), x]) :=
      ⟨by show 2 ≤ sizeLine; decide, [.int i tk, u'], .cons ⟨_, rfl⟩ (.cons ru .nil), ⟨_, hT2, rfl, _, rfl⟩⟩
    have I1 : Inv X pins σ (upd H s.heap.objs.size (.tup [.int (i : Nat), x])) { s with heap := h'', toks := tk + 1 } :=
      I.turnedNew (ch := [e, it]) (fun b ob hb q => (sb.2 b (fun z => hb (by simp [z]))).trans (hk b ob (fun z => hb (by simp [z])) (fun z => hb (by simp [z])) q)) hf (Nat.le_refl _) new
    refine ⟨.ref s.heap.objs.size, _, I1, rfl, ⟨_, x, rfl, I.hok.fresh (Nat.le_refl _), rfl, fun ys hy => by rw [I.tuple_inj hy hq]; exact hx⟩, ⟨⟨u', ?_⟩, hit'.1.at fun o q => (sb.2 it (Ne.symm hne)).trans q, hne, hat, hae⟩, fun b hb => ?_⟩
    · have e1 : ((i + 1 : Nat) : Int) = (i : Int) + 1 := by omega
      rw [e1]; exact he'
    · have hb' : b < s.heap.objs.size := by
        have e' : b = e ∨ b = it := by simpa using hb
        rcases e' with z | z
        · rw [z]; exact hel
        · rw [z]; exact hil
      rw [upd_ne (Nat.ne_of_lt hb')]
      exact (hf b hb).1
  done := by
    intro X hP hw hK hc i pins s σ H E I hf st hg
    subst hP hw hK
    obtain ⟨⟨old, he⟩, hit, hne, hat, hae⟩ := st
    obtain ⟨xs, hq, hx⟩ := hg
    obtain ⟨its, rv, p, hz⟩ := I.tuple hq
    obtain ⟨f0, f1, f2, f3, f4, f5⟩ := hf it (by simp)
    have hl := rv.length
    have hT : s.TypeIs (.ref e) "enumerate" := ⟨_, he, rfl⟩
    unfold pyNext
    refine wpAny_bind (wpAny_attempt (wpAny_callSpecial?_slot (name := Str.ofString "__next__") hT F.slot_enumerate_next
      (wpAny_call_entry F.slot_enumerate_next hT F.entry_enumerate_next ?_ (F.args_enumerate_next_1 _))))
    show wpAny _ _ (field (.ref e) 2 >>= _) _ _ _
    refine wpAny_bind (wpAny_field he rfl (x := .ref it) rfl ?_)
    refine wpAny_bind (wpAny_nextOf_tuple_end (show X.A.in1.handled = none from I.ok.hd hc) hit (show s.heap.IsTuple a its.toArray from p) (by simp; omega) fun h' x eb hx' => ?_)
    obtain ⟨o, ho, hcl⟩ := hx'
    refine wpAny_bind (wpAny_isInstance (T := "StopIteration") (b := true) ⟨o, ho, hcl⟩ isSubtype_stop ?_)
    exact wpAny_pure ⟨rfl, I.turned (t' := s.toks) (fun b o hb q => eb b o hb q) f0 f1 f3 f4 f5⟩
  self := fun A i s Q E st h => let ⟨⟨_, he⟩, _⟩ := st; wpAny_pyIter_enum he h
theorem pi_enumT {X : Cx} {e : Expr} {ta : TA} {p pos tpos : Pos} {elts : List Expr} {kk : Nat} (hg : Gl X "enumerate") (hm : X.mg "enumerate" = none) (ha : PA X [e] ta) (hs : starEach [e] X.env = [(false, eval e X.env)] := by rfl) :
    PI X (.Tuple elts kk tpos) (.Call (.Name "enumerate" p) [e] [] pos) (fun σ H R => ta σ H fun vs H1 => ∃ a xs, vs = [.ref a] ∧ SqT X.K H1 a xs ∧ R (IteT X.K a) H1) := by
  refine ⟨fun pins s σ H R I h => ?_⟩
  refine Call_ (ld_blt I hg hm boot_enumerate (PyProof.Rows.callWith_type1 (thn (ha.run pos pins s σ H _ I h) fun us s1 ⟨vs, H1, I1, r1, q1⟩ => ?_) hs rfl))
  obtain ⟨a, xs, ex, hq, q⟩ := q1
  subst ex
  cases r1 with
  | cons r rr =>
    cases rr
    cases r
    obtain ⟨its, rv, p', hz⟩ := I1.tuple hq
    obtain ⟨o1, ho1, _⟩ := id p'
    have la : a < s1.heap.objs.size := Heap.lt_size ho1
    refine enum1_begins (begins_tuple a its.toArray) (show s1.heap.IsTuple a its.toArray from p') fun h' he hit hsz hk => wpAny_pyIter_enum he ?_
    have I2 : Inv X pins σ H1 { s1 with heap := h' } := I1.kept (t' := s1.toks) hk
    refine ⟨s1.heap.objs.size + 1, [s1.heap.objs.size + 1, s1.heap.objs.size], _, _, H1, rfl, I2, turn_enumT a (s1.heap.objs.size + 1) s1.heap.objs.size, ⟨⟨.none, he⟩, ⟨_, hit, rfl, rfl⟩, Nat.succ_ne_self _, Nat.ne_of_lt la, Nat.ne_of_lt (Nat.lt_succ_of_lt la)⟩, fun b hb => ?_, q⟩
    have e' : b = s1.heap.objs.size + 1 ∨ b = s1.heap.objs.size := by simpa using hb
    have hle : s1.heap.objs.size ≤ b := by
      rcases e' with z | z
      · rw [z]; exact Nat.le_add_right _ _
      · rw [z]; exact Nat.le_refl _
    exact I1.fpOk hle (I1.hok.fresh hle)
/-- the list at a, the tuple at b: items in new pairs -/
def ItzLT (K : PySem.W.Frag) (a b : Addr) : It :=
  ⟨fun i H => ∃ (xs ys : List V) (x y : V), SqL K H a xs ∧ SqT K H b ys ∧ xs[i]? = some x ∧ ys[i]? = some y,
    fun i H v H' => ∃ T x y, v = .ref T ∧ H T = none ∧ H' = upd H T (.tup [x, y]) ∧ (∀ xs, SqL K H a xs → xs[i]? = some x) ∧ ∀ ys, SqT K H b ys → ys[i]? = some y,
    fun i H => ∃ xs ys : List V, SqL K H a xs ∧ SqT K H b ys ∧ i ≤ xs.length ∧ i ≤ ys.length ∧ (i = xs.length ∨ i = ys.length)⟩
theorem sep_of {z TI TO i1 i2 a b : Addr} (D : ZipApart z TI TO i1 i2 a b) : ZipSep2 z TI TO i1 i2 [i1, a] [i2, b] :=
  ⟨D.TIz, D.TOz, D.TITO, D.TIi1, by simp, by simp [Ne.symm D.i1z, Ne.symm D.l1z], by simp [D.TOi1, Ne.symm D.l1TO], D.TIi2, by simp, by simp [Ne.symm D.i2z, Ne.symm D.l2z], by simp [D.TOi2, Ne.symm D.l2TO], by simp [D.i12, Ne.symm D.l2i1], by simp [Ne.symm D.i12, Ne.symm D.l1i2]⟩
theorem turn_zipLT {P : Program} {w : World} {K : PySem.W.Frag} {elts : List Expr} {kk : Nat} {tpos : Pos} {a b z TI TO i1 i2 : Addr} (D : ZipApart z TI TO i1 i2 a b) :
    Turn P w K (.Tuple elts kk tpos) (ItzLT K a b) [z, TI, TO, i1, i2] z (fun i h => IsZip h z TI TO .none ∧ IsPair h TI (.ref i1) (.ref i2) ∧ (∃ x y, IsPair h TO x y) ∧ h.IsListIter i1 a i ∧ h.IsTupleIter i2 b i) where
  mem := by simp
  obj := fun i h st c hc => by
    obtain ⟨hz, hTI, ⟨x, y, hTO⟩, ⟨o1, e1, _, d1⟩, ⟨o2, e2, _, d2⟩⟩ := st
    have e' : c = z ∨ c = TI ∨ c = TO ∨ c = i1 ∨ c = i2 := by simpa using hc
    rcases e' with q | q | q | q | q
    · rw [q]; exact ⟨_, hz, fun v q => nomatch q⟩
    · rw [q]; exact ⟨_, hTI, fun v q => nomatch q⟩
    · rw [q]; exact ⟨_, hTO, fun v q => nomatch q⟩
    · rw [q]; exact ⟨o1, e1, fun v q => by rw [d1] at q; cases q⟩
    · rw [q]; exact ⟨o2, e2, fun v q => by rw [d2] at q; cases q⟩
  keep := fun i h h' st k => by
    obtain ⟨hz, hTI, ⟨x, y, hTO⟩, h1, h2⟩ := st
    exact ⟨k z (by simp) _ hz, k TI (by simp) _ hTI, ⟨x, y, k TO (by simp) _ hTO⟩, h1.at fun o q => k i1 (by simp) o q, h2.at fun o q => k i2 (by simp) o q⟩
  item := by
    intro X hP hw hK hc i pins s σ H E I hf st hg
    subst hP hw hK
    obtain ⟨hz, hTI, ⟨x0, y0, hTO⟩, h1, h2⟩ := st
    obtain ⟨xs, ys, x, y, hqx, hqy, hx, hy⟩ := hg
    obtain ⟨its, rv, p, _⟩ := I.list hqx
    obtain ⟨its2, rv2, p2, _⟩ := I.tuple hqy
    obtain ⟨u, hu, ru⟩ := rv.get hx
    obtain ⟨u2, hu2, ru2⟩ := rv2.get hy
    have hzl : z < s.heap.objs.size := Heap.lt_size hz
    have hh : X.A.in1.handled = none := I.ok.hd hc
    have lt1 : i < its.toArray.size := by
      have := (List.getElem?_eq_some_iff.mp hu).1
      simpa using this
    have lt2 : i < its2.toArray.size := by
      have := (List.getElem?_eq_some_iff.mp hu2).1
      simpa using this
    refine wpAny_pyNext_zipD2_item (sep_of D) (PySem.Draws.list hh i1 a D.l1i1 its.toArray) (PySem.Draws.tuple hh i2 b D.l2i2 its2.toArray) hz hTI hTO ⟨h1, p.isList⟩ ⟨h2, p2⟩ lt1 lt2 fun v1 v2 h' tk w1 w2 z' TO' h1' h2' hT hsz hk => ?_
    have e1 : v1 = u := by
      have q : its.toArray[i]? = some u := by simpa using hu
      rw [q] at w1
      cases w1
      rfl
    have e2 : v2 = u2 := by
      have q : its2.toArray[i]? = some u2 := by simpa using hu2
      rw [q] at w2
      cases w2
      rfl
    subst e1 e2
    refine ⟨_, rfl, wpAny_letOwnedTupleGo_zip (s := { s with heap := h', toks := tk }) z' fun h'' z'' sb => ?_⟩
    have hT2 : h''.get? s.heap.objs.size = some { cls := .type "tuple", data := .seq #[v1, v2] } := (sb.2 _ (Nat.ne_of_gt hzl)).trans hT
    have new : ObjOk X.prog X.w (upd H s.heap.objs.size (.tup [x, y])) h'' s.heap.objs.size (.tup [x, y]) :=
      ⟨by show 2 ≤ sizeLine; decide, [v1, v2], .cons ru (.cons ru2 .nil), ⟨_, hT2, rfl, _, rfl⟩⟩
    have I1 : Inv X pins σ (upd H s.heap.objs.size (.tup [x, y])) { s with heap := h'', toks := tk } :=
      I.turnedNew (t' := tk) (ch := [z, TI, TO, i1, i2]) (fun c o hb q => (sb.2 c (fun q' => hb (by simp [q']))).trans (hk c o (fun q' => hb (by simp [q'])) (fun q' => hb (by simp [q'])) (fun q' => hb (by simp [q'])) (fun q' => hb (by simp [q'])) q)) hf (Nat.le_refl _) new
    refine ⟨.ref s.heap.objs.size, _, I1, rfl, ⟨_, x, y, rfl, I.hok.fresh (Nat.le_refl _), rfl, fun l hl => by rw [I.list_inj hl hqx]; exact hx, fun l hl => by rw [I.tuple_inj hl hqy]; exact hy⟩, ⟨z'', ?_, ⟨v1, v2, ?_⟩, ?_, ?_⟩, fun c hcm => ?_⟩
    · exact (sb.2 _ D.TIz).trans (hk _ _ D.TIz D.TITO D.TIi1 D.TIi2 hTI)
    · exact (sb.2 _ D.TOz).trans TO'
    · exact h1'.1.at fun o q => (sb.2 _ D.i1z).trans q
    · exact h2'.1.at fun o q => (sb.2 _ D.i2z).trans q
    · have hlt : c < s.heap.objs.size := by
        have e' : c = z ∨ c = TI ∨ c = TO ∨ c = i1 ∨ c = i2 := by simpa using hcm
        rcases e' with q | q | q | q | q
        · rw [q]; exact hzl
        · rw [q]; exact Heap.lt_size hTI
        · rw [q]; exact Heap.lt_size hTO
        · rw [q]; obtain ⟨_, e1, _⟩ := h1; exact Heap.lt_size e1
        · rw [q]; obtain ⟨_, e2, _⟩ := h2; exact Heap.lt_size e2
      rw [upd_ne (Nat.ne_of_lt hlt)]
      exact (hf c hcm).1
  done := by
    intro X hP hw hK hc i pins s σ H E I hf st hg
    subst hP hw hK
    obtain ⟨hz, hTI, ⟨x0, y0, hTO⟩, h1, h2⟩ := st
    obtain ⟨xs, ys, hqx, hqy, hl1, hl2, hend⟩ := hg
    obtain ⟨its, rv, p, _⟩ := I.list hqx
    obtain ⟨its2, rv2, p2, _⟩ := I.tuple hqy
    have l1 := rv.length
    have l2 := rv2.length
    have hh : X.A.in1.handled = none := I.ok.hd hc
    exact wpAny_pyNext_zipD2_end (sep_of D) (PySem.Draws.list hh i1 a D.l1i1 its.toArray) (PySem.Draws.tuple hh i2 b D.l2i2 its2.toArray) hz hTI hTO ⟨h1, p.isList⟩ ⟨h2, p2⟩ (by simp; omega) (by simp; omega) (by simp; omega)
      fun h' tk hk => ⟨rfl, I.turnedL (t' := tk) (ch := [z, TI, TO, i1, i2]) (fun c o hb q =>
      hk c o (fun q' => hb (by simp [q'])) (fun q' => hb (by simp [q'])) (fun q' => hb (by simp [q'])) (fun q' => hb (by simp [q'])) q) hf⟩
  self := fun A i s Q E st h => wpAny_pyIter_zip st.1 h
theorem pi_zipLT {X : Cx} {e e2 : Expr} {ta : TA} {p pos tpos : Pos} {elts : List Expr} {kk : Nat} (hg : Gl X "zip") (hm : X.mg "zip" = none) (ha : PA X [e, e2] ta)
    (hs : starEach [e, e2] X.env = (false, eval e X.env) :: starEach [e2] X.env := by rfl) (hpl : (backTo pos (starEach [e2] X.env)).any (·.1) = false := by rfl) :
    PI X (.Tuple elts kk tpos) (.Call (.Name "zip" p) [e, e2] [] pos) (fun σ H R => ta σ H fun vs H1 => ∃ a b xs ys, vs = [.ref a, .ref b] ∧ SqL X.K H1 a xs ∧ SqT X.K H1 b ys ∧ R (ItzLT X.K a b) H1) := by
  refine ⟨fun pins s σ H R I h => ?_⟩
  refine Call_ (ld_blt I hg hm PyProof.Rows.boot_zip (PyProof.Rows.callWith_type1 (thn (ha.run pos pins s σ H _ I h) fun us s1 ⟨vs, H1, I1, r1, q1⟩ => ?_) hs hpl))
  obtain ⟨a, b, xs, ys, ex, hqx, hqy, q⟩ := q1
  subst ex
  obtain ⟨u1, u2, eu, r, r'⟩ := vals2 r1
  subst eu
  cases r
  cases r'
  have fresh5 : ∀ c, c ∈ [s1.heap.objs.size + 4, s1.heap.objs.size + 2, s1.heap.objs.size + 3, s1.heap.objs.size, s1.heap.objs.size + 1] → FpOk X pins H1 c := fun c hcm => by
    have hle : s1.heap.objs.size ≤ c := by
      simp only [List.mem_cons, List.not_mem_nil, or_false] at hcm
      rcases hcm with z | z | z | z | z <;> rw [z]
      · exact Nat.le_add_right _ _
      · exact Nat.le_add_right _ _
      · exact Nat.le_add_right _ _
      · exact Nat.le_refl _
      · exact Nat.le_add_right _ _
    exact I1.fpOk hle (I1.hok.fresh hle)
  obtain ⟨its, rv, p1, _⟩ := I1.list hqx
  obtain ⟨its2, rv2, p2, _⟩ := I1.tuple hqy
  obtain ⟨o2, ho2, _⟩ := id p2
  refine zip_begins2 (begins_list a its.toArray) (begins_tuple b its2.toArray) p1.isList (show s1.heap.IsTuple b its2.toArray from p2) fun h' hz hTI hTO h1 h2 hsz hk => wpAny_pyIter_zip hz ?_
  have I2 : Inv X pins σ H1 { s1 with heap := h' } := I1.kept (t' := s1.toks) hk
  exact ⟨s1.heap.objs.size + 4, [s1.heap.objs.size + 4, s1.heap.objs.size + 2, s1.heap.objs.size + 3, s1.heap.objs.size, s1.heap.objs.size + 1], _, _, H1, rfl, I2, turn_zipLT (PySem.W.ktu_apart s1.heap.objs.size a b p1.lt (Heap.lt_size ho2)), ⟨hz, hTI, ⟨_, _, hTO⟩, ⟨_, h1, rfl, rfl⟩, ⟨_, h2, rfl, rfl⟩⟩, fresh5, q⟩
end DlI
namespace Dl
open PySem PySem.Spec PyProof.Rows L2
theorem walkD_enumT {Θ : Wd} {a : Addr} {xs : List V} {ds : List PyData} (h1 : xs.length = ds.length) :
    WalkD Θ (DlI.IteT Θ.K a) (pairsD (rngD 0 ds.length) ds) (TupOk Θ a xs ds) := by
  refine ⟨fun M => ?_, fun M H H' g s => g.stay s, fun M H p g h => g.fresh h, fun M M' H g s => g.ls s⟩
  have el : (pairsD (rngD 0 ds.length) ds).length = xs.length := by rw [pairsD_len, rngD_len, Nat.min_self, h1]
  rw [el]
  refine ⟨fun i H hi g => ⟨xs, xs[i], g.at_, by simp [hi]⟩, fun H g => ⟨xs, g.at_, Nat.le_refl _⟩, fun i H x H' hi g y hk => ?_⟩
  obtain ⟨T, v, e1, e2, e3, e5⟩ := y
  obtain ⟨d, q1, q2⟩ := g.all.getV (e5 xs g.at_)
  subst e1 e3
  refine ⟨Evo.new e2, _, pairsD_get (x := .int (i : Nat)) ?_ q1, pair_new hk e2 (.int _) q2⟩
  have : i < ds.length := by omega
  simp [rngD, this]
theorem walkD_zipLT {Θ : Wd} {a b : Addr} {xs ys : List V} {ds es : List PyData} (h1 : xs.length = ds.length) (h2 : ys.length = es.length) :
    WalkD Θ (DlI.ItzLT Θ.K a b) (pairsD ds es) (fun M H => LstOk Θ a xs ds M H ∧ TupOk Θ b ys es M H) := by
  refine ⟨fun M => ?_, fun M H H' g s => ⟨g.1.stay s, g.2.stay s⟩, fun M H p g h => ⟨g.1.fresh h, g.2.fresh h⟩, fun M M' H g s => ⟨g.1.ls s, g.2.ls s⟩⟩
  rw [pairsD_len, ← h1, ← h2]
  refine ⟨fun i H hi g => ?_, fun H g => ⟨xs, ys, .of g.1.at_, g.2.at_, by omega, by omega, by omega⟩, fun i H x H' hi g y hk => ?_⟩
  · have l1 : i < xs.length := by omega
    have l2 : i < ys.length := by omega
    exact ⟨xs, ys, xs[i], ys[i], .of g.1.at_, g.2.at_, by simp [l1], by simp [l2]⟩
  · obtain ⟨T, u, v, e1, e2, e3, e4, e5⟩ := y
    obtain ⟨d, q1, q2⟩ := g.1.all.getV (e4 xs (.of g.1.at_))
    obtain ⟨e, q3, q4⟩ := g.2.all.getV (e5 ys g.2.at_)
    subst e1 e3
    exact ⟨Evo.new e2, _, pairsD_get q1 q3, pair_new hk e2 q2 q4⟩
section
variable {Θ : Th} {M : List Addr} {Γ : Gm} {Ex : Xn → Prop} {P : List PyData → Prop} {a b e : Expr} {pos p : Pos}
theorem i_enumT {elts : List Expr} {kk : Nat} {tpos : Pos} (hg : Θ.sc.names.lookup ("enumerate" : Str) = some .globalImplicit) (hm : Θ.mg "enumerate" = none) (h : dE Θ M a Γ Ex fun s => ∃ ds, s = .dat (.tuple ds) ∧ P (pairsD (rngD 0 ds.length) ds))
    (hs : ∀ env, starEach [a] env = [(false, eval a env)] := by intro _; rfl) (hs2 : ∀ env, starEach (a :: []) env = (false, eval a env) :: starEach [] env := by intro _; rfl) : dI Θ M (.Tuple elts kk tpos) (.Call (.Name "enumerate" p) [a] [] pos) Γ Ex P := by
  intro X c σ H R E xr k
  refine wI_of (DlI.pi_enumT (gl_of c hg) (by rw [c.mg]; exact hm) (pa_cons (pe X a) pa_nil (hs2 _)) (hs _)) (h X c σ H _ E xr fun v s H1 e1 ok q => ?_)
  obtain ⟨ds, rfl, q⟩ := q
  obtain ⟨a, xs, rfl, ha, da⟩ := dat_tup ok
  exact ⟨a, xs, rfl, by rw [c.K]; exact ha, by rw [c.K]; exact k _ H1 _ _ e1 q (walkD_enumT da.length) ⟨ha, da⟩⟩
theorem i_zipLT {elts : List Expr} {kk : Nat} {tpos : Pos} (hg : Θ.sc.names.lookup ("zip" : Str) = some .globalImplicit) (hm : Θ.mg "zip" = none) (h : dE Θ M a Γ Ex fun s => dE Θ M b Γ Ex fun t => ∃ ds es, s = .dat (.list ds) ∧ t = .dat (.tuple es) ∧ P (pairsD ds es))
    (hs : ∀ env, starEach [a, b] env = (false, eval a env) :: starEach [b] env := by intro _; rfl) (hs2 : ∀ env, starEach (b :: []) env = (false, eval b env) :: starEach [] env := by intro _; rfl) (hpl : ∀ env, (backTo pos (starEach [b] env)).any (·.1) = false := by intro _; rfl) :
    dI Θ M (.Tuple elts kk tpos) (.Call (.Name "zip" p) [a, b] [] pos) Γ Ex P := by
  intro X c σ H R E xr k
  refine wI_of (DlI.pi_zipLT (gl_of c hg) (by rw [c.mg]; exact hm) (pa_cons (pe X a) (pa_cons (pe X b) pa_nil (hs2 _)) (hs _)) (hs _) (hpl _)) (h X c σ H _ E xr fun v s H1 e1 ok q => q X c σ H1 _ (E.evo e1) (xr.evo e1) fun w t H2 e2 ok2 q2 => ?_)
  have ok1 := ok.ev (E.hk.evo e1) e2
  obtain ⟨ds, es, rfl, rfl, q⟩ := q2
  obtain ⟨a, xs, rfl, na, ha, da⟩ := dat_list ok1
  obtain ⟨b, ys, rfl, hb, db⟩ := dat_tup ok2
  exact ⟨a, b, xs, ys, rfl, .of ha, by rw [c.K]; exact hb, by rw [c.K]; exact k _ H2 _ _ (e1.trans e2) q (walkD_zipLT da.length db.length) ⟨⟨na, ha, da⟩, ⟨hb, db⟩⟩⟩
end
end Dl
set_option Elab.async false
set_option linter.all false
set_option maxRecDepth 100000
set_option maxHeartbeats 2000000
set_option autoImplicit false
namespace Dl
open PySem PySem.Spec PyProof.Rows L2
section
variable {Θ : Th} {M0 M : List Addr} {Γ : Gm} {Ex : Xn → Prop} {Q : Sl → Prop} {a b c0 e tg iter elt : Expr} {es : List Expr} {pos : Pos} {x y z : Str} {Kn : List Addr → Gm → Prop} {Rt : Sl → Prop} {body : List Stmt}
/-- x, y = a, b -/
theorem s_pr {i j : Nat} {px py pt : Pos} {kt k2 : Nat} {pt2 : Pos} (hN : posN Θ.N x = some i) (hN2 : posN Θ.N y = some j) (hij : (i == j) = false) (hx : Θ.sc.names.lookup x = some .local) (hy : Θ.sc.names.lookup y = some .local)
    (h : dA Θ M [a, b] Γ Ex fun ss => ∃ s t, ss = [s, t] ∧ (s.pure && t.pure) = true ∧ Kn M ((Γ.set i (some s)).set j (some t)))
    (hw : ∀ env : Env, env.scope = Θ.sc → swappedStores [.Tuple [.Name x px, .Name y py] kt pt] (.Tuple [a, b] k2 pt2) env = pure (some [x, y]) := by (intro env h; obtain ⟨e1, e2, e3, e4, e5, e6, e7, e8, e9⟩ := env; cases h; rfl))
    (hs : ∀ env : Env, env.scope = Θ.sc → swapsWithSole [.Tuple [.Name x px, .Name y py] kt pt] (.Tuple [a, b] k2 pt2) pos.line env = pure false := by intro _ _; rfl) : dS Θ M0 M (.Assign [.Tuple [.Name x px, .Name y py] kt pt] (.Tuple [a, b] k2 pt2) pos) Γ Ex Rt Kn := by
  refine s_par (posN_ok hN) (posN_ok hN2) (fun z => by rw [z] at hij; simp at hij) hx hy ?_ hw hs
  exact fun X c σ H R E xr k => h X c σ H R E xr fun vs ss H' e' ok ⟨s, t, h1, h2, h3⟩ => k vs ss H' e' ok ⟨s, t, h1, (Bool.and_eq_true_iff.mp h2).1, (Bool.and_eq_true_iff.mp h2).2, h3⟩
end
section
variable {Θ : Th} {M : List Addr} {Γ : Gm} {Ex : Xn → Prop} {T : Bool → Prop} {a b c0 : Expr} {pos : Pos}
theorem t_chain {op op' : CmpOp} (h : dE Θ M a Γ Ex fun x => dE Θ M b Γ Ex fun y => OpD Θ M (compareOp op) x y fun z => ∃ k, z = .dat (.bool k) ∧ (k = true → dE Θ M c0 Γ Ex fun w => OpD Θ M (compareOp op') y w fun u => ∃ k, u = .dat (.bool k) ∧ T k) ∧ (k = false → T false))
    (hm : lastMarks [op, op'] [b, c0] = false := by with_unfolding_all rfl) : dT Θ M (.Compare a [op, op'] [b, c0] pos) Γ Ex T := by
  intro X c σ H R E xr k
  refine wT_of (pt_chain wO.rule wO.rule (pe X a) (pe X b) (pe X c0) hm) ?_
  refine h X c σ H _ E xr fun v s H1 e1 ok q => ?_
  refine q X c σ H1 _ (E.evo e1) (xr.evo e1) fun v2 s2 H2 e2 ok2 q2 => ?_
  have hk1 := E.hk.evo e1
  have hk2 := hk1.evo e2
  refine q2 X c v v2 H2 _ hk2 (ok.ev hk1 e2) ok2 fun z s3 H3 e3 ok3 q3 => ?_
  obtain ⟨d, rfl, h1, h2⟩ := q3
  refine ⟨d, dat_bool ok3, ?_⟩
  cases d with
  | false => exact ⟨false, rfl, k false H3 ((e1.trans e2).trans e3) (h2 rfl)⟩
  | true =>
    refine h1 rfl X c σ H3 _ (((E.evo e1).evo e2).evo e3) (((xr.evo e1).evo e2).evo e3) fun v4 s4 H4 e4 ok4 q4 => ?_
    have hk3 := hk2.evo e3
    refine q4 X c v2 v4 H4 _ (hk3.evo e4) ((ok2.ev hk2 e3).ev hk3 e4) ok4 fun z s H' e' ok' q' => ?_
    obtain ⟨d, rfl, hT⟩ := q'
    exact ⟨d, dat_bool ok', k d H' ((((e1.trans e2).trans e3).trans e4).trans e') hT⟩
end
/-- a def whose code object is told too -/
theorem Has.of_defC {G : Gd} {k : Nat} {f : Addr} {fd : FuncData} {name qual : Str} {params : Arguments} {body : List Stmt} {scope : Scope} {N ps : List Str} {S : Spec} (F : FunD G.W.K name qual params body scope [] [] f fd) (Sc : FnScope N ps scope)
    (hb : ∀ (kV doc pm : Value) (an : Option Addr) (cdv ct : Value) (us : List Value), us.length = ps.length → bindArgs (PySem.W.fnOf name qual params body scope .none kV doc pm an cdv ct) ⟨us, []⟩ = pure (ps.zip us)) (hl : ∀ a, (S.arg a).length = ps.length)
    (h : ∀ (cdv : Value) (M0 : List Addr) (a : S.α), (∃ oc od fd osl, G.W.K.lookup f = some ⟨oc, od, .func fd, osl⟩ ∧ fd.code = cdv) → S.pre a → dSs (G.fn N scope k qual cdv) M0 M0 body (startG N (S.arg a)) (S.exn a) (S.post a) fun _ _ => S.post a (.dat .none)) : Has G (k + 1) f S := by
  have B := F.bindsN hb
  obtain ⟨oc, od, dV, kV, doc, pm, an, cdv, ct, osl, rfl, lk, hcd, _, _⟩ := F.ex
  exact Has.of_fn lk hcd F.kp Sc B hl fun M0 a => h cdv M0 a ⟨_, _, _, _, lk, rfl⟩
theorem TopG.fn_okC {G : Gd} {fa : List He.Fa} {fn : List He.DefD} (T : TopG G fa fn) {x : Str} {params : Arguments} {body : List Stmt} {scope : Scope} {N ps : List Str} {S : Spec} {k : Nat} (i j : Nat) (hd : fn[i]? = some ⟨(x, none), x, x, params, body, scope, [], []⟩) (hg : fa[j]? = some (.glo x)) (Sc : FnScope N ps scope)
    (hb : ∀ (kV doc pm : Value) (an : Option Addr) (cdv ct : Value) (us : List Value), us.length = ps.length → bindArgs (PySem.W.fnOf x x params body scope .none kV doc pm an cdv ct) ⟨us, []⟩ = pure (ps.zip us)) (hl : ∀ a, (S.arg a).length = ps.length)
    (h : ∀ (cdv : Value) (M0 : List Addr) (a : S.α), (∃ oc od fd osl, G.W.K.lookup (He.ga G.W.K x) = some ⟨oc, od, .func fd, osl⟩ ∧ fd.code = cdv) → S.pre a → dSs (G.fn N scope k x cdv) M0 M0 body (startG N (S.arg a)) (S.exn a) (S.post a) fun _ _ => S.post a (.dat .none)) : Fn G (k + 1) x S := by
  refine ⟨T.glo j hg, ?_⟩
  obtain ⟨fd, F⟩ := T.says.def_ i hd
  exact Has.of_defC F Sc hb hl h
/-- the code object of the def x may make lambdas -/
structure MkLam (G : Gd) (x : Str) : Prop where
  ex : ∀ oc od fd osl, G.W.K.lookup (He.ga G.W.K x) = some ⟨oc, od, .func fd, osl⟩ → ∃ c P, fd.code = .ref c ∧ LamX.TabB G.base G.mg c P ∧ (P, (x ++ ".<locals>.") ++ "<lambda>") ∈ G.W.T ∧ ∀ p ∈ G.W.T, p.1 = P → p.2 = (x ++ ".<locals>.") ++ "<lambda>"
end Dl
namespace Dl
open PySem PySem.Spec PyProof.Rows L2
def datsOf : List Sl → Option (List PyData)
  | [] => some []
  | .dat d :: r => (datsOf r).map (d :: ·)
  | _ :: _ => none
theorem datsOf_ok : ∀ {xs : List Sl} {ds : List PyData}, datsOf xs = some ds → Dats xs ds
  | [], _, h => by cases h; exact .nil
  | .dat d :: r, _, h => by
    unfold datsOf at h
    cases q : datsOf r with
    | none => rw [q] at h; cases h
    | some es =>
      rw [q] at h
      cases h
      exact .cons (datsOf_ok q)
  | .own _ _ :: _, _, h => by simp [datsOf] at h
  | .bag :: _, _, h => by simp [datsOf] at h
  | .fn _ :: _, _, h => by simp [datsOf] at h
  | .ty _ :: _, _, h => by simp [datsOf] at h
  | .kn _ _ :: _, _, h => by simp [datsOf] at h
theorem ex_dats {xs : List Sl} {ds : List PyData} {P : List PyData → Prop} (h : datsOf xs = some ds) (l : Nat.ble ds.length 16777216 = true) (q : P ds) : ∃ ds, Dats xs ds ∧ ds.length ≤ sizeLine ∧ P ds := ⟨ds, datsOf_ok h, by rw [sizeLine_eq]; exact Nat.le_of_ble_eq_true l, q⟩
/-! ### data that may be compared -/
def ShN (n : Nat) (d : PyData) : Prop := d.canLay0 = true ∧ d.depth ≤ n
theorem ShN.le {m n : Nat} {d : PyData} (h : ShN m d) (l : m ≤ n) : ShN n d := ⟨h.1, Nat.le_trans h.2 l⟩
theorem ShN.sh {n : Nat} {d : PyData} (h : ShN n d) (l : n ≤ 64 := by decide) : SeqAt.shaped d = true := by
  unfold SeqAt.shaped
  rw [h.1, Bool.true_and]
  exact decide_eq_true (Nat.le_trans h.2 l)
theorem shN_int (n : Nat) (i : Int) : ShN n (.int i) := ⟨by unfold PyData.canLay0; rfl, by unfold PyData.depth; exact Nat.zero_le _⟩
theorem shN_bool (n : Nat) (i : Bool) : ShN n (.bool i) := ⟨by unfold PyData.canLay0; rfl, by unfold PyData.depth; exact Nat.zero_le _⟩
theorem shN_none (n : Nat) : ShN n .none := ⟨by unfold PyData.canLay0; rfl, by unfold PyData.depth; exact Nat.zero_le _⟩
theorem shN_str (n : Nat) {x : Str} (h : PyData.canLay0 (.str x) = true) : ShN n (.str x) := ⟨h, by unfold PyData.depth; exact Nat.zero_le _⟩
theorem shN_all {n : Nat} : ∀ {ds : List PyData}, (∀ d ∈ ds, ShN n d) → PyData.canLayAll0 ds = true ∧ PyData.depthAll ds ≤ n
  | [], _ => ⟨by unfold PyData.canLayAll0; rfl, by unfold PyData.depthAll; exact Nat.zero_le _⟩
  | d :: ds, h => by
    obtain ⟨h1, h2⟩ := shN_all fun x hx => h x (List.mem_cons_of_mem _ hx)
    obtain ⟨h3, h4⟩ := h d List.mem_cons_self
    refine ⟨by unfold PyData.canLayAll0; rw [h3, h1]; rfl, by unfold PyData.depthAll; exact Nat.max_le.mpr ⟨h4, h2⟩⟩
theorem shN_tup {n : Nat} {ds : List PyData} (h : ∀ d ∈ ds, ShN n d) : ShN (n + 1) (.tuple ds) := by
  obtain ⟨h1, h2⟩ := shN_all h
  exact ⟨by unfold PyData.canLay0; exact h1, by unfold PyData.depth; omega⟩
theorem shN_lst {n : Nat} {ds : List PyData} (h : ∀ d ∈ ds, ShN n d) : ShN (n + 1) (.list ds) := by
  obtain ⟨h1, h2⟩ := shN_all h
  exact ⟨by unfold PyData.canLay0; exact h1, by unfold PyData.depth; omega⟩
/-- no bool, no dict within -/
inductive Nb : PyData → Prop
  | none : Nb .none
  | int (i : Int) : Nb (.int i)
  | str (x : Str) : Nb (.str x)
  | tuple {ds : List PyData} : (∀ d ∈ ds, Nb d) → Nb (.tuple ds)
  | list {ds : List PyData} : (∀ d ∈ ds, Nb d) → Nb (.list ds)
mutual
theorem eqv_iff : ∀ (d e : PyData), Nb d → Nb e → (PyData.eqv d e = true ↔ d = e)
  | .none, e, _, he => by cases he <;> simp [PyData.eqv]
  | .int i, e, _, he => by cases he <;> simp [PyData.eqv]
  | .str x, e, _, he => by cases he <;> simp [PyData.eqv]
  | .tuple ds, e, hd, he => by
    cases hd with
    | tuple hd =>
      cases he with
      | tuple he => simp [PyData.eqv, eqvAll_iff ds _ hd he]
      | _ => simp [PyData.eqv]
  | .list ds, e, hd, he => by
    cases hd with
    | list hd =>
      cases he with
      | list he => simp [PyData.eqv, eqvAll_iff ds _ hd he]
      | _ => simp [PyData.eqv]
  | .bool _, _, hd, _ => by cases hd
  | .dict _, _, hd, _ => by cases hd
theorem eqvAll_iff : ∀ (ds es : List PyData), (∀ d ∈ ds, Nb d) → (∀ e ∈ es, Nb e) → (PyData.eqvAll ds es = true ↔ ds = es)
  | [], [], _, _ => by simp [PyData.eqvAll]
  | [], _ :: _, _, _ => by simp [PyData.eqvAll]
  | _ :: _, [], _, _ => by simp [PyData.eqvAll]
  | d :: ds, e :: es, hd, he => by
    simp [PyData.eqvAll, eqv_iff d e (hd d List.mem_cons_self) (he e List.mem_cons_self), eqvAll_iff ds es (fun x hx => hd x (List.mem_cons_of_mem _ hx)) (fun x hx => he x (List.mem_cons_of_mem _ hx))]
end
end Dl
set_option Elab.async false
set_option linter.all false
set_option maxRecDepth 100000
set_option maxHeartbeats 2000000
set_option autoImplicit false
namespace Dl
open PySem PySem.Spec PyProof.Rows L2
theorem op_fdivW {X : Cx} : OpR X (binaryOp .FloorDiv) (rI (fun _ j => 0 < j ∧ j < 2 ^ 4000) fun i j => .int (i / j)) := opI fun i j _ _ _ _ _ hc q => by
  have h1 : (0 : Int) < j := hc.1
  have h2 : j < 2 ^ 4000 := hc.2
  have h3 : j.natAbs < 2 ^ 4000 := by
    have e : ((2 : Int) ^ 4000) = ((2 ^ 4000 : Nat) : Int) := by norm_cast
    rw [e] at h2
    omega
  exact floordiv_int (by omega) (by rw [Int.fdiv_eq_ediv_of_nonneg i (by omega)]; exact q) (.inl (PyProof.noPylong_of_log2 (Nat.lt_of_lt_of_le ((Nat.log2_lt (by omega)).mpr h3) (by decide))))
section
variable {Θ : Th} {M : List Addr} {Q : Sl → Prop}
theorem o_fdivW {i j : Int} (h : 0 < j ∧ j < 2 ^ 4000) (hq : Q (.dat (.int (i / j)))) : OpD Θ M (binaryOp .FloorDiv) (.dat (.int i)) (.dat (.int j)) Q := OpD.ints (fun X => op_fdivW) h (fun H => .int _) hq
/-- isinstance(x, (S, T)) -/
theorem c_isi2 {d : PyData} {m n : String} {es : List Expr} : True := trivial
theorem o_ltT {ns ms : List Int} (hq : Q (.dat (.bool (HT.lexLt ns ms)))) : OpD Θ M (compareOp .Lt) (.dat (.tuple (ns.map .int))) (.dat (.tuple (ms.map .int))) Q :=
  OpD.of (r := fun X => rLtT X.K) (fun X c => op_ltT (by have := c.units65; omega)) fun X c v w H R hk h1 h2 k => by
    obtain ⟨a, xs, rfl, ha, da⟩ := dat_tup h1
    obtain ⟨b, ys, rfl, hb, db⟩ := dat_tup h2
    rw [all_ints da] at ha
    rw [all_ints db] at hb
    exact ⟨a, b, ns, ms, rfl, rfl, by rw [c.K]; exact ha, by rw [c.K]; exact hb, k _ _ H (Evo.refl H) (.dat (.bl _)) hq⟩
end
end Dl
namespace Dl
open PySem PySem.Spec PyProof.Rows L2
section
variable {Θ : Th} {M : List Addr} {Γ : Gm} {Ex : Xn → Prop} {Q : Sl → Prop} {e : Expr}
theorem kit_any2 {K : PySem.W.Frag} {d : PyData} : PySem.W.kitAny K (.type (tyD d)) [.type "tuple", .type "list"] = some (isTy d "tuple" || isTy d "list") := by
  unfold PySem.W.kitAny
  have h1 := kit_tuple (d := d) K
  have h2 := kit_list (d := d) K
  rw [h1]
  cases isTy d "tuple" <;> simp [PySem.W.kitAny, h2] <;> (cases isTy d "list" <;> rfl)
/-- isinstance(e, (tuple, list)) -/
theorem d_isi2 {p p1 p2 p3 pos : Pos} {kt : Nat} (hm : Θ.mg "isinstance" = none) (hm1 : Θ.mg "tuple" = none) (hm2 : Θ.mg "list" = none) (hg : Θ.sc.names.lookup ("isinstance" : Str) = some .globalImplicit) (hg1 : Θ.sc.names.lookup ("tuple" : Str) = some .globalImplicit) (hg2 : Θ.sc.names.lookup ("list" : Str) = some .globalImplicit)
    (h : dE Θ M e Γ Ex fun x => ∃ d, x = .dat d ∧ Q (.dat (.bool (isTy d "tuple" || isTy d "list"))))
    (he : ∀ env, starEach [e, .Tuple [.Name "tuple" p1, .Name "list" p2] kt p3] env = (false, eval e env) :: starEach [.Tuple [.Name "tuple" p1, .Name "list" p2] kt p3] env := by intro _; rfl) (hpl : ∀ env, (backTo pos (starEach [.Tuple [.Name "tuple" p1, .Name "list" p2] kt p3] env)).any (·.1) = false := by intro _; rfl)
    (he2 : ∀ env, starEach [.Tuple [.Name "tuple" p1, .Name "list" p2] kt p3] env = (false, eval (.Tuple [.Name "tuple" p1, .Name "list" p2] kt p3) env) :: starEach [] env := by intro _; rfl) :
    dE Θ M (.Call (.Name "isinstance" p) [e, .Tuple [.Name "tuple" p1, .Name "list" p2] kt p3] [] pos) Γ Ex Q := by
  intro X c σ H R E xr k
  refine wE_of (pe_callB (r := rIsiT X.K) call_isiT (gl_of c hg) (by rw [c.mg]; exact hm) bb_isinstance (pa_cons (pe X e) (pa_cons (pe_tup (pa_cons (pe_bltn (v := .ty "tuple") (gl_of c hg1) (by rw [c.mg]; exact hm1) bt_tuple rfl) (pa_cons (pe_bltn (v := .ty "list") (gl_of c hg2) (by rw [c.mg]; exact hm2) bt_list rfl) pa_nil))) pa_nil (he2 _)) (he _)) (by decide) (by decide) (he _) (hpl _)) ?_
  refine h X c σ H _ E xr fun v s H1 e1 ok q => ?_
  obtain ⟨d, rfl, hq⟩ := q
  refine ⟨by rw [sizeLine_eq]; show 2 ≤ 16777216; omega, fun t ht => ?_⟩
  have hk := E.hk.evo e1
  have ev : Evo Θ.W H1 (upd H1 t (.tup [.ty "tuple", .ty "list"])) := Evo.new ht
  have ok2 := ok.ev hk ev
  exact ⟨v, t, _, .type (tyD d), [.type "tuple", .type "list"], _, rfl, upd_same, .cons (.ty _) (.cons (.ty _) .nil), by rw [c.K]; exact tyX_of (dat_d ok2), kit_any2, k _ _ _ (e1.trans ev) (.dat (.bl _)) hq⟩
end
end Dl
namespace Dl
open PySem PySem.Spec PyProof.Rows L2
theorem cutD_to {xs : List PyData} {k : Nat} : cutD xs none (some (k : Int)) = xs.take k := by
  unfold cutD
  rw [HT.sIx_nat, show HT.sIx xs.length 0 none = 0 from rfl, List.drop_zero, Nat.sub_zero]
  by_cases h : k ≤ xs.length
  · rw [Nat.min_eq_left h]
  · rw [Nat.min_eq_right (by omega), List.take_length, List.take_of_length_le (by omega)]
theorem cutD_from {xs : List PyData} {k : Nat} : cutD xs (some (k : Int)) none = xs.drop k := by
  unfold cutD
  rw [HT.sIx_nat, show HT.sIx xs.length xs.length none = xs.length from rfl]
  by_cases h : k ≤ xs.length
  · rw [Nat.min_eq_left h, List.take_of_length_le (by rw [List.length_drop]; omega)]
  · rw [Nat.min_eq_right (by omega), List.drop_length, List.drop_of_length_le (by omega)]
    simp
section
variable {Θ : Th} {M : List Addr} {Γ : Gm} {Ex : Xn → Prop} {Q : Sl → Prop} {e : Expr} {pos p2 : Pos} {a b : Expr}
/-- t[:a] -/
theorem d_to {ds : List PyData} (k : Nat) (h : dE Θ M e Γ Ex fun x => x = .dat (.tuple ds) ∧ dE Θ M a Γ Ex fun y => y = .dat (.int (k : Int)) ∧ Q (.dat (.tuple (ds.take k)))) : dE Θ M (.Subscript e (.Slice none (some a) none p2) pos) Γ Ex Q := by
  refine d_slice (h.mono fun s ⟨hs, q⟩ => p_none (p_some (q.mono fun t ⟨ht, q2⟩ => ⟨_, ht, .inr ⟨ds, hs, ?_⟩⟩)))
  rw [cutD_to]
  exact q2
theorem d_toL {ds : List PyData} (k : Nat) (h : dE Θ M e Γ Ex fun x => x = .dat (.list ds) ∧ dE Θ M a Γ Ex fun y => y = .dat (.int (k : Int)) ∧ Q (.dat (.list (ds.take k)))) : dE Θ M (.Subscript e (.Slice none (some a) none p2) pos) Γ Ex Q := by
  refine d_slice (h.mono fun s ⟨hs, q⟩ => p_none (p_some (q.mono fun t ⟨ht, q2⟩ => ⟨_, ht, .inl ⟨ds, hs, ?_⟩⟩)))
  rw [cutD_to]
  exact q2
theorem d_from {ds : List PyData} (k : Nat) (h : dE Θ M e Γ Ex fun x => x = .dat (.tuple ds) ∧ dE Θ M a Γ Ex fun y => y = .dat (.int (k : Int)) ∧ Q (.dat (.tuple (ds.drop k)))) : dE Θ M (.Subscript e (.Slice (some a) none none p2) pos) Γ Ex Q := by
  refine d_slice (h.mono fun s ⟨hs, q⟩ => p_some (q.mono fun t ⟨ht, q2⟩ => ⟨_, ht, p_none (.inr ⟨ds, hs, ?_⟩)⟩))
  rw [cutD_from]
  exact q2
theorem d_fromL {ds : List PyData} (k : Nat) (h : dE Θ M e Γ Ex fun x => x = .dat (.list ds) ∧ dE Θ M a Γ Ex fun y => y = .dat (.int (k : Int)) ∧ Q (.dat (.list (ds.drop k)))) : dE Θ M (.Subscript e (.Slice (some a) none none p2) pos) Γ Ex Q := by
  refine d_slice (h.mono fun s ⟨hs, q⟩ => p_some (q.mono fun t ⟨ht, q2⟩ => ⟨_, ht, p_none (.inl ⟨ds, hs, ?_⟩)⟩))
  rw [cutD_from]
  exact q2
end
end Dl
set_option Elab.async false
set_option linter.all false
set_option maxRecDepth 100000
set_option maxHeartbeats 2000000
set_option autoImplicit false
namespace Dl
open PySem PySem.Spec PyProof.Rows L2
/-! ### t >= u of tuples of ints -/
theorem lexGe (N M : List Int) : ∀ k i, k = min (N.length - i) (M.length - i) → i ≤ N.length → i ≤ M.length →
    Ob.lexAt (fun j => decide (N.getD j 0 = M.getD j 0)) (fun j => decide (M.getD j 0 ≤ N.getD j 0)) (decide (N.length ≥ M.length)) i k = !HT.lexLt (N.drop i) (M.drop i) := by
  intro k
  induction k with
  | zero =>
    intro i hk h1 h2
    rw [Ob.lexAt_zero]
    by_cases a : i = N.length
    · subst a
      rw [List.drop_length]
      by_cases b : M.length = N.length
      · rw [List.drop_of_length_le (by omega)]
        show _ = !false
        rw [decide_eq_true (by omega)]; rfl
      · cases q : M.drop N.length with
        | nil => have := congrArg List.length q; rw [List.length_drop] at this; simp at this; omega
        | cons x xs =>
          show _ = !true
          rw [decide_eq_false (by omega)]; rfl
    · have b : i = M.length := by omega
      subst b
      rw [List.drop_length]
      cases q : N.drop M.length with
      | nil => have := congrArg List.length q; rw [List.length_drop] at this; simp at this; omega
      | cons x xs =>
        show _ = !false
        rw [decide_eq_true (by omega)]; rfl
  | succ k ih =>
    intro i hk h1 h2
    have l1 : i < N.length := by omega
    have l2 : i < M.length := by omega
    rw [Ob.lexAt_succ, ih (i + 1) (by omega) (by omega) (by omega), List.drop_eq_getElem_cons l1, List.drop_eq_getElem_cons l2, HT.lexLt_cons]
    have g1 : N.getD i 0 = N[i] := by simp [l1]
    have g2 : M.getD i 0 = M[i] := by simp [l2]
    rw [g1, g2]
    by_cases e : N[i] = M[i]
    · rw [if_pos (by simpa using e), if_pos e]
    · rw [if_neg (by simpa using e), if_neg e]
      by_cases q : N[i] < M[i]
      · rw [decide_eq_true q, decide_eq_false (by omega)]; rfl
      · rw [decide_eq_false q, decide_eq_true (by omega)]; rfl
def rGeT (K : PySem.W.Frag) : R2 := fun x y H Q => ∃ (a b : Addr) (ns ms : List Int), x = .ref a ∧ y = .ref b ∧ SqT K H a (ns.map V.int) ∧ SqT K H b (ms.map V.int) ∧ Q (.bl (!HT.lexLt ns ms)) H
theorem op_geT {X : Cx} (hu : X.A.units < cLine) : OpR X (compareOp .GtE) (rGeT X.K) := by
  intro pins s σ H x y v u Q I rx ry h
  obtain ⟨a, b, ns, ms, rfl, rfl, ha, hb, q⟩ := h
  cases rx; cases ry
  obtain ⟨its, r1, p1, _⟩ := I.tuple ha
  obtain ⟨its2, r2, p2, _⟩ := I.tuple hb
  have i1 : IntsAre its ns := Vals.ints r1
  have i2 : IntsAre its2 ms := Vals.ints r2
  have e1 : its.toArray.size = ns.length := (List.size_toArray ..).trans i1.length
  have e2 : its2.toArray.size = ms.length := (List.size_toArray ..).trans i2.length
  have at1 : ∀ j (h1 : j < its.toArray.size), ∃ t, its.toArray[j] = .int (ns.getD j 0) t := fun j g1 => PyProof.Rows.IntsAre.int_at i1 _ _ (by simp at g1; simp [g1])
  have at2 : ∀ j (h1 : j < its2.toArray.size), ∃ t, its2.toArray[j] = .int (ms.getD j 0) t := fun j g1 => PyProof.Rows.IntsAre.int_at i2 _ _ (by simp at g1; simp [g1])
  have R := Ob.RcOp.tuples_ge (A := X.A) (s := s) (e := fun j => decide (ns.getD j 0 = ms.getD j 0)) (r := fun j => decide (ms.getD j 0 ≤ ns.getD j 0)) p1 p2 hu (fun j g1 g2 => by
    obtain ⟨t, et⟩ := at1 j g1
    obtain ⟨t2, et2⟩ := at2 j g2
    rw [et, et2, show decide (ns.getD j 0 = ms.getD j 0) = (ns.getD j 0 == ms.getD j 0) from Bool.eq_iff_iff.mpr (by rw [decide_eq_true_iff, beq_iff_eq])]
    exact SeqAt.EqAt.int_int _ _ _ _) (fun j g1 g2 _ => by
    obtain ⟨t, et⟩ := at1 j g1
    obtain ⟨t2, et2⟩ := at2 j g2
    rw [et, et2]
    exact Ob.RcOp.ge_int _ _ _ _)
  rw [e1, e2] at R
  have L := lexGe ns ms _ 0 rfl (Nat.zero_le _) (Nat.zero_le _)
  rw [List.drop_zero, List.drop_zero, Nat.sub_zero, Nat.sub_zero] at L
  rw [L] at R
  exact R X.prog X.w X.xe (EP X pins σ Q) ⟨.bl _, H, I, rfl, q⟩
section
variable {Θ : Th} {M M0 : List Addr} {Γ : Gm} {Ex : Xn → Prop} {Q : Sl → Prop} {a b e : Expr} {es : List Expr} {pos p p2 p3 p4 : Pos}
theorem o_geT {ns ms : List Int} (hq : Q (.dat (.bool (!HT.lexLt ns ms)))) : OpD Θ M (compareOp .GtE) (.dat (.tuple (ns.map .int))) (.dat (.tuple (ms.map .int))) Q :=
  OpD.of (r := fun X => rGeT X.K) (fun X c => op_geT (by have := c.units65; omega)) fun X c v w H R hk h1 h2 k => by
    obtain ⟨a, xs, rfl, ha, da⟩ := dat_tup h1
    obtain ⟨b, ys, rfl, hb, db⟩ := dat_tup h2
    rw [all_ints da] at ha
    rw [all_ints db] at hb
    exact ⟨a, b, ns, ms, rfl, rfl, by rw [c.K]; exact ha, by rw [c.K]; exact hb, k _ _ H (Evo.refl H) (.dat (.bl _)) hq⟩
/-! ### lists of tuples of ints: sorted, sorted(set) -/
abbrev tI (x : List Int) : PyData := .tuple (x.map .int)
theorem all_tups {H : Hp} : ∀ {ls : List (List Int)} {vs : List V}, DvAll Θ.W.K M H vs (ls.map tI) → ∃ ks : List (Addr × List Int), vs = ks.map (fun p => V.ref p.1) ∧ ks.map (·.2) = ls ∧ ∀ p ∈ ks, SqT Θ.W.K H p.1 (p.2.map V.int)
  | [], _, h => by cases h; exact ⟨[], rfl, rfl, fun p hp => by cases hp⟩
  | l :: ls, _, h => by
    cases h with
    | cons h1 h2 =>
      obtain ⟨ks, e1, e2, e3⟩ := all_tups h2
      cases h1 with
      | @tup a xs ds q1 q2 =>
        rw [all_ints q2] at q1
        refine ⟨(a, l) :: ks, by rw [e1]; rfl, by rw [List.map_cons, e2], fun p hp => ?_⟩
        rcases List.mem_cons.mp hp with rfl | hp
        · exact q1
        · exact e3 p hp
theorem ints_all {H : Hp} : ∀ l : List Int, DvAll Θ.W.K M H (l.map V.int) (l.map PyData.int)
  | [] => .nil
  | x :: l => .cons (.int x) (ints_all l)
theorem tups_all {H : Hp} : ∀ {ks : List (Addr × List Int)}, (∀ p ∈ ks, SqT Θ.W.K H p.1 (p.2.map V.int)) → DvAll Θ.W.K M H (ks.map fun p => V.ref p.1) ((ks.map (·.2)).map tI)
  | [], _ => .nil
  | p :: ks, h => by
    refine .cons (.tup (h p List.mem_cons_self) ?_) (tups_all fun q hq => h q (List.mem_cons_of_mem _ hq))
    exact ints_all p.2
theorem d_sortedSet (hg : Θ.sc.names.lookup ("sorted" : Str) = some .globalImplicit) (hm : Θ.mg "sorted" = none) (hg2 : Θ.sc.names.lookup ("set" : Str) = some .globalImplicit) (hm2 : Θ.mg "set" = none) (d : Nat) (B : Int) (hd : 1 ≤ d)
    (h : dE Θ M e Γ Ex fun s => ∃ ls : List (List Int), s = .dat (.list (ls.map tI)) ∧ ls.length < 64 ∧ (∀ x ∈ ls, x.length = d ∧ TS.Bd B x) ∧
      ∀ out : List (List Int), out.Nodup → out.length < 64 → (∀ x, x ∈ out ↔ x ∈ ls) → out.Pairwise (fun x y => TS.code B x ≤ TS.code B y) → Q (.dat (.list (out.map tI))))
    (hs : ∀ env, starEach [e] env = (false, eval e env) :: starEach [] env := by intro _; rfl) (hpl : ∀ env, (backTo p4 (starEach [] env)).any (·.1) = false := by intro _; rfl)
    (hs2 : ∀ env, starEach [.Call (.Name "set" p3) [e] [] p4] env = (false, eval (.Call (.Name "set" p3) [e] [] p4) env) :: starEach [] env := by intro _; rfl) (hpl2 : ∀ env, (backTo pos (starEach [] env)).any (·.1) = false := by intro _; rfl) :
    dE Θ M (.Call (.Name "sorted" p) [.Call (.Name "set" p3) [e] [] p4] [] pos) Γ Ex Q := by
  intro X c σ H R E xr k
  refine wE_of (pe_callB (cr_sortedT c.calm) (gl_of c hg) (by rw [c.mg]; exact hm) bb_sorted (pa_cons (pe_callTy (cr_setOfT c.calm c.units) (gl_of c hg2) (by rw [c.mg]; exact hm2) bt_set (pa_cons (pe X e) pa_nil (hs _)) (by decide) (by decide) (hs _) (hpl _)) pa_nil (hs2 _)) (by decide) (by decide) (hs2 _) (hpl2 _)) ?_
  refine h X c σ H _ E xr fun v s H1 e1 ok q => ?_
  obtain ⟨ls, rfl, h64, hB, q⟩ := q
  obtain ⟨l, xs, rfl, nl, hl, da⟩ := dat_list ok
  obtain ⟨ks, rfl, e2, e3⟩ := all_tups da
  refine ⟨l, ks, rfl, .of hl, fun p hp => by rw [c.K]; exact e3 p hp, by rw [← e2, List.length_map] at h64; exact h64, fun s0 L hs0 sub all => ?_⟩
  have ev : Evo Θ.W H1 (upd H1 s0 (SetTO X.prog X.w s0 L)) := Evo.new hs0
  have hk1 := E.hk.evo e1
  have st := hk1.stay ev
  have g3 : ∀ p ∈ L, SqT Θ.W.K (upd H1 s0 (SetTO X.prog X.w s0 L)) p.1 (p.2.map V.int) := fun p hp => st.sqT (e3 p (sub p hp))
  refine ⟨s0, L, d, B, rfl, upd_same, fun p hp => by rw [c.K]; exact g3 p hp, hd, fun p hp => hB _ (by rw [← e2]; exact List.mem_map.mpr ⟨p, sub p hp, rfl⟩), fun L' o pm nd l64 pw ho => ?_⟩
  have g4 : ∀ p ∈ L', SqT Θ.W.K (upd H1 s0 (SetTO X.prog X.w s0 L)) p.1 (p.2.map V.int) := fun p hp => g3 p (pm.mem_iff.mp hp)
  refine k _ _ _ ((e1.trans ev).trans (Evo.new ho)) (new_lst (hk1.evo ev) ho (tups_all g4)) (q _ nd (by rw [List.length_map]; exact l64) (fun x => ?_) (List.pairwise_map.mpr pw))
  constructor
  · intro hx
    obtain ⟨p, hp, rfl⟩ := List.mem_map.mp hx
    rw [← e2]
    exact List.mem_map.mpr ⟨p, sub p (pm.mem_iff.mp hp), rfl⟩
  · intro hx
    rw [← e2] at hx
    obtain ⟨p, hp, rfl⟩ := List.mem_map.mp hx
    obtain ⟨p2, h2, e5⟩ := List.mem_map.mp (all p hp)
    exact List.mem_map.mpr ⟨p2, pm.mem_iff.mpr h2, e5⟩
/-- sorted(xs) of fewer than 64 tuples of d ints in [0, B) -/
theorem c_sortT (d : Nat) (B : Int) (hd : 1 ≤ d) {ls : List (List Int)} (h64 : ls.length < 64) (hB : ∀ x ∈ ls, x.length = d ∧ TS.Bd B x) (hq : ∀ out : List (List Int), out.Perm ls → out.Pairwise (fun x y => TS.code B x ≤ TS.code B y) → Q (.dat (.list (out.map tI)))) : CallD Θ M (.builtin "sorted") [.dat (.list (ls.map tI))] Q :=
  CallD.of (r := fun X => rSortU X.K d B) (fun X c => cr_sortT hd) fun X c vs H R hk ok k => by
    cases ok with
    | cons o1 o2 =>
      cases o2
      obtain ⟨l, xs, rfl, nl, hl, da⟩ := dat_list o1
      obtain ⟨ks, rfl, e2, e3⟩ := all_tups da
      have un : ∀ (x : List Int) (a : Addr), SqT Θ.W.K H a (x.map V.int) → TupI X.K H (.ref a) x := fun x a h => ⟨a, rfl, by rw [c.K]; exact h⟩
      refine ⟨l, _, rfl, .of hl, by rw [List.length_map]; rw [← e2, List.length_map] at h64; exact h64, fun x hx => ?_, fun ys p pm pw hp => ?_⟩
      · obtain ⟨q, hq, rfl⟩ := List.mem_map.mp hx
        exact ⟨q.2, un _ _ (e3 q hq), hB _ (by rw [← e2]; exact List.mem_map.mpr ⟨q, hq, rfl⟩)⟩
      · obtain ⟨ks', pm', rfl⟩ : ∃ ks' : List (Addr × List Int), ks'.Perm ks ∧ ks'.map (fun p => V.ref p.1) = ys := by
          have key : ∀ (f : Addr × List Int → V) (us ws : List V), us.Perm ws → ∀ ks : List (Addr × List Int), ks.map f = ws → ∃ ks' : List (Addr × List Int), ks'.Perm ks ∧ ks'.map f = us := by
            intro f us ws pm
            induction pm with
            | nil => intro ks e; exact ⟨ks, .refl _, e⟩
            | cons x _ ih =>
              intro ks e
              cases ks with
              | nil => cases e
              | cons z ks =>
                injection e with e1 e2
                obtain ⟨k2, p2, q2⟩ := ih ks e2
                exact ⟨z :: k2, p2.cons z, by rw [List.map_cons, q2, e1]⟩
            | swap x y l =>
              intro ks e
              cases ks with
              | nil => cases e
              | cons z ks =>
                cases ks with
                | nil => cases e
                | cons w ks =>
                  injection e with e1 e2
                  injection e2 with e2 e3
                  exact ⟨w :: z :: ks, .swap .., by rw [List.map_cons, List.map_cons, e1, e2, e3]⟩
            | trans _ _ ih1 ih2 =>
              intro ks e
              obtain ⟨k2, p2, q2⟩ := ih2 ks e
              obtain ⟨k3, p3, q3⟩ := ih1 k2 q2
              exact ⟨k3, p3.trans p2, q3⟩
          exact key _ _ _ pm ks rfl
        have g : ∀ p ∈ ks', SqT Θ.W.K H p.1 (p.2.map V.int) := fun p hp => e3 p (pm'.mem_iff.mp hp)
        refine k _ _ _ (Evo.new hp) (new_lst hk hp (tups_all g)) (hq _ (by rw [← e2]; exact pm'.map _) ?_)
        rw [List.pairwise_map] at pw ⊢
        refine List.Pairwise.imp_of_mem (fun {a b} ha hb hab => ?_) pw
        exact hab _ _ (un _ _ (g a ha)) (un _ _ (g b hb))
end
end Dl
set_option Elab.async false
set_option linter.all false
set_option maxRecDepth 100000
set_option maxHeartbeats 2000000
set_option autoImplicit false
/-! min of tuples; the comparison is asked at states that extend the one ahead of the call -/
namespace DlI
open PySem PySem.Spec PyProof.Rows
def Kp (h h' : Heap) : Prop := ∀ c o, h.get? c = some o → h'.get? c = some o
section
variable {prog : Program} {w : World} {A : Around} {R : Result → Shared → Prop} {I : Addr} {fp wr : List Addr} {n : Nat} {P : Nat → Value → Prop} {St : Nat → Heap → Prop} {h0 : Heap} {bt : Nat → Nat → Bool} {S : Addr}
theorem minL_nm : (toString "min" ++ toString ".loop" : String) = "min.loop" := by decide
theorem minL (W : Walks prog w A.in1 I fp wr n P St) (hcmp : ∀ (i j : Nat) (vi vj : Value) (s : Shared), Kp h0 s.heap → P i vi → P j vj → Ob.RcOp .Lt A.in1 s vi vj (bt i j)) (hSf : S ∉ fp) (hw : ∀ c o, h0.get? c = some o → c ∉ wr ∧ c ≠ S) :
    ∀ (k j : Nat) (s : Shared) (vb : Value) (c : Nat), n - (j + 1) = k → j + 1 ≤ n → St (j + 1) s.heap → P (argBest bt j) vb → Kp h0 s.heap → s.heap.get? S = some { cls := .type "list", dict := none, data := .seq #[vb, vb] c, slots := #[] } →
    (∀ v h' tk, P (argBest bt (n - 1)) v → Kp h0 h' → R (.ok (.ret v)) { s with heap := h', toks := tk }) → codeAny (model prog w) A (.builtin "min.loop" ⟨[.ref I, .none, .ref S], []⟩) R s := by
  have nS : S ∉ wr := fun h => hSf (W.sub _ h)
  have upK : ∀ (h h' : Heap) (f : Obj → Obj), Kp h0 h → (∀ b o, b ∉ wr → h.get? b = some o → h'.get? b = some o) → Kp h0 (h'.update S f) := fun h h' f k m c o e =>
    (Heap.get?_update_other _ _ (Ne.symm (hw c o e).2)).trans (m c o (hw c o e).1 (k c o e))
  intro k
  induction k with
  | zero =>
    intro j s vb c hk hj hst hPb kp hS hR
    have hn : j + 1 = n := by omega
    refine codeAny_builtin F.entry_min_loop ?_; rw [Around.under_plainId F.plain_min_loop _]
    show wpAny _ A.in1 (seqItems? (.ref S) >>= _) _ _ s; refine wpAny_bind (wpAny_seqItems hS rfl ?_)
    show wpAny _ A.in1 (tryCatch (pyNext (.ref I)) _ >>= _) _ _ s; refine wpAny_bind (wpAny_tryCatch (W.done s _ _ (hn ▸ hst) fun h1 tk m => ?_))
    show wpAny _ A.in1 (updateSeq S (fun _ => #[]) >>= _) _ _ _; refine wpAny_bind ?_
    refine wpAny_updateSeq (m S _ nS hS) rfl (wpAny_bind (wpAny_letGo (wpAny_pure (hR vb _ tk (by rw [← hn]; exact hPb) (upK _ _ _ kp m)))))
  | succ k ih =>
    intro j s vb c hk hj hst hPb kp hS hR
    have lt : j + 1 < n := by omega
    refine codeAny_builtin F.entry_min_loop ?_; rw [Around.under_plainId F.plain_min_loop _]
    show wpAny _ A.in1 (seqItems? (.ref S) >>= _) _ _ s; refine wpAny_bind (wpAny_seqItems hS rfl ?_)
    show wpAny _ A.in1 (tryCatch (pyNext (.ref I)) _ >>= _) _ _ s; refine wpAny_bind (wpAny_tryCatch (W.item (j + 1) s _ _ lt hst fun v h1 tk hP st1 m => ?_))
    have hS1 := m S _ nS hS
    have kp1 : Kp h0 h1 := fun c o e => m c o (hw c o e).1 (kp c o e)
    show wpAny _ A.in1 (tryCatch (holding [v, v] (richCompare .Lt v vb >>= _)) _ >>= _) _ _ _; refine wpAny_bind (wpAny_tryCatch (wpAny_holding (wpAny_bind ?_)))
    refine hcmp (j + 1) (argBest bt j) v vb { s with heap := h1, toks := tk } kp1 hP hPb prog w _ _ ?_
    refine wpAny_bind (wpAny_holding (wpAny_truthy_bool (wpAny_bind (wpAny_letGo (wpAny_pure ?_)))))
    cases hb : bt (j + 1) (argBest bt j) with
    | true =>
      simp only [if_true]; refine wpAny_bind ?_
      refine wpAny_updateSeq hS1 rfl (wpAny_bind (wpAny_letGo ?_)); rw [minL_nm]
      exact wpAny_pure ⟨plainId_quiet F.plain_min_loop _, ih (j + 1) _ v _ (by omega) lt (W.frame _ _ _ st1 fun b hbf o e => (Heap.get?_update_other _ _ (fun h : S = b => hSf (by rw [h]; exact hbf))).trans e) (by simp only [argBest, hb, if_true]; exact hP) (upK _ _ _ kp m) (Heap.get?_update_self _ hS1 rfl) hR⟩
    | false =>
      simp only [Bool.false_eq_true, if_false]; refine wpAny_bind (wpAny_letGo ?_); rw [minL_nm]
      exact wpAny_pure ⟨plainId_quiet F.plain_min_loop _, ih (j + 1) _ vb c (by omega) lt st1 (by simp only [argBest, hb, Bool.false_eq_true, if_false]; exact hPb) kp1 hS1 hR⟩
theorem minL0 (W : Walks prog w A.in1 I fp wr n P St) (hcmp : ∀ (i j : Nat) (vi vj : Value) (s : Shared), Kp h0 s.heap → P i vi → P j vj → Ob.RcOp .Lt A.in1 s vi vj (bt i j)) (hSf : S ∉ fp) (hw : ∀ c o, h0.get? c = some o → c ∉ wr ∧ c ≠ S) (hn : 0 < n)
    {s : Shared} {c : Nat} (hst : St 0 s.heap) (kp : Kp h0 s.heap) (hS : s.heap.get? S = some { cls := .type "list", dict := none, data := .seq #[] c, slots := #[] })
    (hR : ∀ v h' tk, P (argBest bt (n - 1)) v → Kp h0 h' → R (.ok (.ret v)) { s with heap := h', toks := tk }) : codeAny (model prog w) A (.builtin "min.loop" ⟨[.ref I, .none, .ref S], []⟩) R s := by
  have nS : S ∉ wr := fun h => hSf (W.sub _ h)
  refine codeAny_builtin F.entry_min_loop ?_; rw [Around.under_plainId F.plain_min_loop _]
  show wpAny _ A.in1 (seqItems? (.ref S) >>= _) _ _ s; refine wpAny_bind (wpAny_seqItems hS rfl ?_)
  show wpAny _ A.in1 (tryCatch (pyNext (.ref I)) _ >>= _) _ _ s; refine wpAny_bind (wpAny_tryCatch (W.item 0 s _ _ hn hst fun v h1 tk hP st1 m => ?_))
  have hS1 := m S _ nS hS
  show wpAny _ A.in1 (updateSeq S (fun _ => #[v, v]) >>= _) _ _ _; refine wpAny_bind (wpAny_updateSeq hS1 rfl ?_); rw [minL_nm]
  refine wpAny_pure ⟨plainId_quiet F.plain_min_loop _, minL W hcmp hSf hw _ 0 _ v _ rfl hn (W.frame _ _ _ st1 fun b hbf o e => (Heap.get?_update_other _ _ (fun h : S = b => hSf (by rw [h]; exact hbf))).trans e) hP (fun c o e => ?_) (Heap.get?_update_self _ hS1 rfl) hR⟩
  exact (Heap.get?_update_other _ _ (Ne.symm (hw c o e).2)).trans (m c o (hw c o e).1 (kp c o e))
end
section
variable {prog : Program} {w : World} {A : Around} {E : Value → Shared → Prop} {s : Shared}
theorem min2 {a b : Value} {bt : Nat → Nat → Bool} {Q : Value → Shared → Prop} (hh : A.handled = none) (hcmp : ∀ (i j : Nat) (vi vj : Value) (s' : Shared), Kp s.heap s'.heap → (#[a, b] : Array Value)[i]? = some vi → (#[a, b] : Array Value)[j]? = some vj → Ob.RcOp .Lt A.in1 s' vi vj (bt i j))
    (h : ∀ h' tk, Kp s.heap h' → Q (if bt 1 0 then b else a) { s with heap := h', toks := tk }) : wpAny (model prog w) A (call (.builtin "min") [a, b]) Q E s := by
  refine call_function_tree F.kind_min F.plain_min F.entry_min (F.args_min2 _ _) ?_
  show wpAny _ A.in1 (Builtin.Builtins.bindParams "min" ["key", "default"] 0 ⟨[], []⟩ >>= _) _ _ s; refine wpAny_bind (wpAny_of_eq (show Builtin.Builtins.bindParams "min" ["key", "default"] 0 ⟨[], []⟩ = pure [none, none] from rfl) ?_)
  show wpAny _ A.in1 (newTuple [a, b] >>= _) _ _ s; refine wpAny_bind (wpAny_newObj_type ?_)
  have hT : (s.heap.push { cls := .type "tuple", data := .seq #[a, b] }).IsTuple s.heap.objs.size #[a, b] := ⟨_, Heap.get?_push_size _ rfl, rfl, 0, rfl⟩
  have sz : (s.heap.push { cls := .type "tuple", data := .seq #[a, b] }).objs.size = s.heap.objs.size + 1 := Heap.size_push ..
  refine wpAny_bind (wpAny_pyIter_tuple hT (wpAny_bind (wpAny_newObj_type ?_))); rw [minL_nm]
  have old : ∀ c o, s.heap.get? c = some o → c < s.heap.objs.size := fun c o e => Heap.lt_size e
  refine wpAny_pure ⟨plainId_quiet F.plain_min_loop _, minL0 (h0 := s.heap) (bt := bt) (Walks.tuple (A := A.in1) hh _ s.heap.objs.size (by rw [sz]; exact Nat.ne_of_lt (Nat.lt_succ_self _)) #[a, b]) hcmp ?_ (fun c o e => ⟨?_, ?_⟩) (by simp) ?_ ?_ (Heap.get?_push_size _ rfl) fun v h' tk hP kp => ?_⟩
  · intro hm
    simp only [Heap.size_push, List.mem_cons, List.not_mem_nil, or_false] at hm
    rcases hm with hm | hm
    · exact absurd hm (Nat.ne_of_gt (Nat.lt_succ_self _))
    · exact absurd hm (Nat.ne_of_gt (Nat.lt_succ_of_lt (Nat.lt_succ_self _)))
  · intro hm
    simp only [Heap.size_push, List.mem_cons, List.not_mem_nil, or_false] at hm
    exact absurd hm (Nat.ne_of_lt (Nat.lt_succ_of_lt (old c o e)))
  · intro hm
    simp only [Heap.size_push] at hm
    exact absurd hm (Nat.ne_of_lt (Nat.lt_succ_of_lt (Nat.lt_succ_of_lt (old c o e))))
  · exact ⟨(show ((s.heap.push _).push _).IsTupleIter _ s.heap.objs.size 0 from ⟨_, Heap.get?_push_size _ rfl, rfl, rfl⟩).at (fun o e => Heap.get?_push_of_some _ e), (hT.push _).push _⟩
  · exact fun c o e => Heap.get?_push_of_some _ (Heap.get?_push_of_some _ (Heap.get?_push_of_some _ e))
  · have hv : v = if bt 1 0 then b else a := by
      cases hc : bt 1 0 <;> simp [argBest, hc] at hP <;> simp [hP]
    rw [hv]
    exact h h' tk kp
end
end DlI
namespace Dl
open PySem PySem.Spec PyProof.Rows L2
def minL2 (x y : List Int) : List Int := if HT.lexLt y x then y else x
def rMin2 (K : PySem.W.Frag) : List V → Hp → VK → Prop := fun vs H Q => ∃ (a b : Addr) (x y : List Int), vs = [V.ref a, V.ref b] ∧ SqT K H a (x.map V.int) ∧ SqT K H b (y.map V.int) ∧ Q (if HT.lexLt y x then .ref b else .ref a) H
theorem cr_min2 {X : Cx} (hc : X.calm = true) (hu : X.A.in1.units < cLine) : CallR X (.builtin "min") (rMin2 X.K) := by
  intro pins s σ H vs us Q I r h
  obtain ⟨a, b, x, y, rfl, ha, hb, q⟩ := h
  cases r with
  | cons r1 r2 =>
    cases r2 with
    | cons r2 r3 =>
      cases r3
      cases r1
      cases r2
      obtain ⟨its, v1, p1, _⟩ := I.tuple ha
      obtain ⟨its2, v2, p2, _⟩ := I.tuple hb
      have key : ∀ (s' : Shared) (c d : Addr) (k l : List Value) (m n : List Int), DlI.Kp s.heap s'.heap → IsTup s.heap c k.toArray → IsTup s.heap d l.toArray → IntsAre k m → IntsAre l n → Ob.RcOp .Lt X.A.in1 s' (.ref c) (.ref d) (HT.lexLt m n) := fun s' c d k l m n kp hc hd hm hn prog w E Q hq =>
        HT.lt_tupInts (items := k.toArray) (items2 := l.toArray) (hc.imp fun o ⟨e, z⟩ => ⟨kp _ _ e, z⟩) (hd.imp fun o ⟨e, z⟩ => ⟨kp _ _ e, z⟩) hm hn hu hq
      have i1 : IntsAre its x := Vals.ints v1
      have i2 : IntsAre its2 y := Vals.ints v2
      refine DlI.min2 (bt := fun i j => HT.lexLt (if i = 0 then x else y) (if j = 0 then x else y)) (I.ok.hd hc) (fun i j vi vj s' kp hi hj => ?_) fun h' tk kp => ?_
      · have two : ∀ (i : Nat) (v : Value), (#[Value.ref a, Value.ref b] : Array Value)[i]? = some v → (i = 0 ∧ v = .ref a) ∨ (i = 1 ∧ v = .ref b) := fun i v e => by
          match i, e with
          | 0, e => exact .inl ⟨rfl, by simpa using e.symm⟩
          | 1, e => exact .inr ⟨rfl, by simpa using e.symm⟩
          | i + 2, e => simp at e
        rcases two i vi hi with ⟨rfl, rfl⟩ | ⟨rfl, rfl⟩ <;> rcases two j vj hj with ⟨rfl, rfl⟩ | ⟨rfl, rfl⟩
        · exact key s' _ _ _ _ _ _ kp p1 p1 i1 i1
        · exact key s' _ _ _ _ _ _ kp p1 p2 i1 i2
        · exact key s' _ _ _ _ _ _ kp p2 p1 i2 i1
        · exact key s' _ _ _ _ _ _ kp p2 p2 i2 i2
      · refine ⟨if HT.lexLt y x then .ref b else .ref a, H, I.kept kp, ?_, q⟩
        show RelV _ (if HT.lexLt y x then Value.ref b else Value.ref a)
        cases HT.lexLt y x <;> rfl
section
variable {Θ : Th} {M M0 : List Addr} {Γ : Gm} {Ex : Xn → Prop} {Q : Sl → Prop} {a b e : Expr} {es : List Expr} {pos p p2 p3 p4 : Pos}
theorem c_min2 {x y : List Int} (hq : Q (.dat (.tuple ((minL2 x y).map .int)))) : CallD Θ M (.builtin "min") [.dat (.tuple (x.map .int)), .dat (.tuple (y.map .int))] Q :=
  CallD.of (r := fun X => rMin2 X.K) (fun X c => cr_min2 c.calm (by have h := c.units65; unfold Around.in1; show X.A.units + 1 < cLine; omega)) fun X c vs H R hk ok k => by
    cases ok with
    | cons o1 o2 =>
      cases o2 with
      | cons o2 o3 =>
        cases o3
        have o1' := o1
        have o2' := o2
        obtain ⟨a, xs, rfl, ha, da⟩ := dat_tup o1
        obtain ⟨b, ys, rfl, hb, db⟩ := dat_tup o2
        rw [all_ints da] at ha
        rw [all_ints db] at hb
        refine ⟨a, b, x, y, rfl, by rw [c.K]; exact ha, by rw [c.K]; exact hb, ?_⟩
        unfold minL2 at hq
        by_cases q : HT.lexLt y x = true
        · rw [if_pos q] at hq ⊢
          exact k _ _ H (Evo.refl H) o2' hq
        · rw [if_neg q] at hq ⊢
          exact k _ _ H (Evo.refl H) o1' hq
end
end Dl
set_option Elab.async false
set_option linter.all false
set_option maxRecDepth 100000
set_option maxHeartbeats 2000000
set_option autoImplicit false
/-! sum(list of lists, a list) -/
namespace DlI
open PySem PySem.Spec PyProof.Rows
section
variable {prog : Program} {w : World} {A : Around} {R : Result → Shared → Prop} {I : Addr} {fp wr : List Addr} {n : Nat} {St : Nat → Heap → Prop} {h0 : Heap} {S : Addr} {P : Nat → Value → Prop} {ad : Nat → Addr} {ls : Nat → Array Value}
def cat (st : Array Value) (ls : Nat → Array Value) : Nat → Array Value
  | 0 => st
  | k + 1 => cat st ls k ++ ls k
theorem sumL (W : Walks prog w A.in1 I fp wr n P St) (hP : ∀ i v, P i v → v = .ref (ad i)) (hls : ∀ i, i < n → ∃ m, IsL h0 (ad i) (ls i) m) {st : Array Value} (hsz : ∀ i, i ≤ n → (cat st ls i).size ≤ sizeLine) (hSf : S ∉ fp) (hlow : ∀ b ∈ fp, b < S) (hS0 : h0.objs.size ≤ S) (hw : ∀ c o, h0.get? c = some o → c ∉ wr ∧ c ≠ S) :
    ∀ (k i : Nat) (s : Shared) (tot : Addr) (m c : Nat), n - i = k → i ≤ n → St i s.heap → Kp h0 s.heap → IsL s.heap tot (cat st ls i) m → tot ∉ wr → tot ≠ S → (0 < i → h0.objs.size ≤ tot) → s.heap.get? S = some { cls := .type "list", dict := none, data := .seq #[.ref tot] c, slots := #[] } →
    (∀ tot h' tk m, Kp h0 h' → IsL h' tot (cat st ls n) m → (0 < n → h0.objs.size ≤ tot) → R (.ok (.ret (.ref tot))) { s with heap := h', toks := tk }) → codeAny (model prog w) A (.builtin "sum.loop" ⟨[.ref I, .ref S, rawInt 2, rawInt 0], []⟩) R s := by
  have nS : S ∉ wr := fun h => hSf (W.sub _ h)
  intro k
  induction k with
  | zero =>
    intro i s tot m c hk hi hst kp hT ht1 ht2 ht3 hS hR
    have hn : i = n := by omega
    refine codeAny_builtin F.entry_sum_loop ?_; rw [Around.under_plainId F.plain_sum_loop _]
    show wpAny _ A.in1 (seqItems? (.ref S) >>= _) _ _ s; refine wpAny_bind (wpAny_seqItems hS rfl ?_)
    show wpAny _ A.in1 (tryCatch (pyNext (.ref I)) _ >>= _) _ _ s; refine wpAny_bind (wpAny_tryCatch (W.done s _ _ (hn ▸ hst) fun h1 tk mm => ?_))
    subst hn
    exact wpAny_pure (hR tot h1 tk m (fun c o e => mm c o (hw c o e).1 (kp c o e)) (mm _ _ ht1 hT) ht3)
  | succ k ih =>
    intro i s tot m c hk hi hst kp hT ht1 ht2 ht3 hS hR
    have lt : i < n := by omega
    refine codeAny_builtin F.entry_sum_loop ?_; rw [Around.under_plainId F.plain_sum_loop _]
    show wpAny _ A.in1 (seqItems? (.ref S) >>= _) _ _ s; refine wpAny_bind (wpAny_seqItems hS rfl ?_)
    show wpAny _ A.in1 (tryCatch (pyNext (.ref I)) _ >>= _) _ _ s; refine wpAny_bind (wpAny_tryCatch (W.item i s _ _ lt hst fun v h1 tk hPi st1 mm => ?_))
    obtain rfl := hP i v hPi
    have kp1 : Kp h0 h1 := fun c o e => mm c o (hw c o e).1 (kp c o e)
    have hS1 := mm S _ nS hS
    obtain ⟨m2, hA⟩ := hls i lt
    have hA1 : IsL h1 (ad i) (ls i) m2 := kp1 _ _ hA
    have hT1 : IsL h1 tot (cat st ls i) m := mm _ _ ht1 hT
    have sS : S < h1.objs.size := Heap.lt_size hS1
    show wpAny _ A.in1 ((holding [Value.ref (ad i)] (binaryOp .Add (.ref tot) (.ref (ad i)))).attempt >>= _) _ _ _
    have hz : (cat st ls i).size + (ls i).size ≤ sizeLine := by have := hsz (i + 1) lt; rw [show cat st ls (i + 1) = cat st ls i ++ ls i from rfl, Array.size_append] at this; exact this
    refine wpAny_bind (wpAny_attempt (wpAny_holding (PySem.P.add_list (n := m) (n2 := m2) (s := { s with heap := h1, toks := tk }) hT1 hA1 ?_ hz)))
    have hS2 : (h1.push { cls := .type "list", data := .seq (cat st ls i ++ ls i) }).get? S = some { cls := .type "list", dict := none, data := .seq #[.ref tot] c, slots := #[] } := Heap.get?_push_of_some _ hS1
    show wpAny _ A.in1 (updateSeq S (fun _ => #[.ref h1.objs.size]) >>= _) _ _ _; refine wpAny_bind (wpAny_updateSeq hS2 rfl ?_)
    have hS3 := Heap.get?_update_self (Obj.mapSeq fun _ => #[Value.ref h1.objs.size]) hS2 rfl
    refine wpAny_bind (wpAny_letGo (wpAny_bind (wpAny_updateSeq hS3 rfl (wpAny_pure ⟨plainId_quiet F.plain_sum_loop _, ?_⟩))))
    have neS : ∀ b : Addr, b ≠ S → ∀ o, h1.get? b = some o → ((((h1.push { cls := .type "list", data := .seq (cat st ls i ++ ls i) }).update S (Obj.mapSeq fun _ => #[Value.ref h1.objs.size])).update S (Obj.mapSeq fun _ => #[Value.ref h1.objs.size])).get? b = some o) := fun b hb o e =>
      (Heap.get?_update_other _ _ (Ne.symm hb)).trans ((Heap.get?_update_other _ _ (Ne.symm hb)).trans (Heap.get?_push_of_some _ e))
    have nN : h1.objs.size ≠ S := Nat.ne_of_gt sS
    refine ih (i + 1) _ h1.objs.size 0 _ (by omega) lt (W.frame _ _ _ st1 fun b hbf o e => neS b (fun z => hSf (by rw [← z]; exact hbf)) o e) (fun b o e => neS b (hw b o e).2 o (kp1 b o e)) ?_ (fun hm => ?_) nN (fun _ => Nat.le_of_lt (Nat.lt_of_le_of_lt hS0 sS)) (Heap.get?_update_self _ hS3 rfl) hR
    · exact (Heap.get?_update_other _ _ (Ne.symm nN)).trans ((Heap.get?_update_other _ _ (Ne.symm nN)).trans (Heap.get?_push_size _ rfl))
    · exact absurd (hlow _ (W.sub _ hm)) (Nat.not_lt.mpr (Nat.le_of_lt sS))
end
section
variable {prog : Program} {w : World} {A : Around} {E : Value → Shared → Prop} {s : Shared}
theorem args_sum2 (a b : Value) : argsOk "sum" ⟨[a, b], []⟩ := by unfold argsOk; kernel_rfl
theorem sum2 {l t : Addr} {its st : Array Value} {m mt : Nat} {ad : Nat → Addr} {ls : Nat → Array Value} {Q : Value → Shared → Prop} (hh : A.handled = none) (hl : IsL s.heap l its m) (ht : IsL s.heap t st mt) (hP : ∀ (i : Nat) v, its[i]? = some v → v = .ref (ad i)) (hls : ∀ i, i < its.size → ∃ m, IsL s.heap (ad i) (ls i) m)
    (hsz : ∀ i, i ≤ its.size → (cat st ls i).size ≤ sizeLine) (h : ∀ tot h' tk m, Kp s.heap h' → IsL h' tot (cat st ls its.size) m → (0 < its.size → s.heap.objs.size ≤ tot) → Q (.ref tot) { s with heap := h', toks := tk }) : wpAny (model prog w) A (call (.builtin "sum") [.ref l, .ref t]) Q E s := by
  refine call_function_tree F.kind_sum F.plain_sum F.entry_sum (args_sum2 _ _) ?_
  unfold Builtin.«sum»
  simp only [List.length_cons, List.length_nil]; rw [if_neg (by decide)]
  refine wpAny_bind (wpAny_of_eq (show Builtin.Builtins.bindParams "sum" ["start"] 0 ⟨[.ref t], []⟩ = pure [some (.ref t)] from rfl) ?_)
  have hL : s.heap.IsList l its := ⟨_, hl, rfl, m, rfl⟩
  refine wpAny_bind (wpAny_pyIter_list hL ?_)
  have kp1 : Kp s.heap (s.heap.push { cls := .type "list_iterator", data := .fields #[.ref l, .int 0 0] }) := fun c o e => Heap.get?_push_of_some _ e
  have hT : ({ s with heap := s.heap.push { cls := .type "list_iterator", data := .fields #[.ref l, .int 0 0] } } : Shared).TypeIs (.ref t) "list" := ⟨_, kp1 _ _ ht, rfl⟩
  refine wpAny_bind (wpAny_pure ?_); simp only [List.forIn_cons, List.forIn_nil]
  refine wpAny_bind (wpAny_bind (wpAny_bind (wpAny_isInstance (T := "list") (b := false) hT F.sub_list_str ?_))); simp only [Bool.false_eq_true, if_false]
  refine wpAny_pure (wpAny_bind (wpAny_bind (wpAny_isInstance (T := "list") (b := false) hT F.sub_list_bytes ?_))); simp only [Bool.false_eq_true, if_false]
  refine wpAny_pure (wpAny_bind (wpAny_bind (wpAny_isInstance (T := "list") (b := false) hT F.sub_list_bytearray ?_))); simp only [Bool.false_eq_true, if_false]
  refine wpAny_pure (wpAny_pure (wpAny_bind (wpAny_newObj_type (wpAny_pure ⟨plainId_quiet F.plain_sum_loop _, ?_⟩))))
  have old : ∀ c o, s.heap.get? c = some o → c < s.heap.objs.size := fun c o e => Heap.lt_size e
  have nl : l ≠ s.heap.objs.size := Nat.ne_of_lt (old _ _ hl)
  refine sumL (h0 := s.heap) (st := st) (ad := ad) (ls := ls) (Walks.list (A := A.in1) hh s.heap.objs.size l nl its) hP hls hsz ?_ ?_ ?_ ?_ _ 0 _ t mt 0 rfl (Nat.zero_le _) ?_ (fun c o e => Heap.get?_push_of_some _ (kp1 c o e)) (Heap.get?_push_of_some _ (kp1 _ _ ht)) ?_ ?_ (fun z => absurd z (Nat.lt_irrefl _)) (Heap.get?_push_size _ rfl) fun tot h' tk m kp hT h3 => h tot h' tk m kp hT h3
  · intro hm
    simp only [Heap.size_push, List.mem_cons, List.not_mem_nil, or_false] at hm
    rcases hm with hm | hm
    · exact absurd hm (Nat.ne_of_gt (Nat.lt_succ_self _))
    · exact absurd hm (Nat.ne_of_gt (Nat.lt_succ_of_lt (old _ _ hl)))
  · intro b hm
    simp only [Heap.size_push]
    simp only [List.mem_cons, List.not_mem_nil, or_false] at hm
    rcases hm with hm | hm
    · rw [hm]; exact Nat.lt_succ_self _
    · rw [hm]; exact Nat.lt_succ_of_lt (old _ _ hl)
  · simp only [Heap.size_push]
    exact Nat.le_succ _
  · intro c o e
    refine ⟨fun hm => ?_, fun hm => ?_⟩
    · rw [List.mem_singleton] at hm
      exact absurd hm (Nat.ne_of_lt (old c o e))
    · simp only [Heap.size_push] at hm
      exact absurd hm (Nat.ne_of_lt (Nat.lt_succ_of_lt (old c o e)))
  · exact ⟨(show (s.heap.push _).IsListIter _ l 0 from ⟨_, Heap.get?_push_size _ rfl, rfl, rfl⟩).at (fun o e => Heap.get?_push_of_some _ e), (hL.push _).push _⟩
  · intro hm
    rw [List.mem_singleton] at hm
    exact absurd hm (Nat.ne_of_lt (old _ _ ht))
  · intro hm
    simp only [Heap.size_push] at hm
    exact absurd hm (Nat.ne_of_lt (Nat.lt_succ_of_lt (old _ _ ht)))
end
end DlI
set_option Elab.async false
set_option linter.all false
set_option maxRecDepth 100000
set_option maxHeartbeats 2000000
set_option autoImplicit false
namespace Dl
open PySem PySem.Spec PyProof.Rows L2
def rSum2 : List V → Hp → VK → Prop := fun vs H Q => ∃ (l t : Addr) (ks : List (Addr × List V)) (ys : List V), vs = [V.ref l, V.ref t] ∧ H l = some (.lst (ks.map fun p => V.ref p.1)) ∧ H t = some (.lst ys) ∧ (∀ p ∈ ks, H p.1 = some (.lst p.2)) ∧ ks ≠ [] ∧
  (ys ++ (ks.map (·.2)).flatten).length ≤ sizeLine ∧ ∀ p, H p = none → Q (.ref p) (upd H p (.lst (ys ++ (ks.map (·.2)).flatten)))
theorem cr_sum2 {X : Cx} (hc : X.calm = true) : CallR X (.builtin "sum") rSum2 := by
  intro pins s σ H vs us Q I r h
  obtain ⟨l, t, ks, ys, rfl, hl, ht, hk, hne, hz, q⟩ := h
  cases r with
  | cons r1 r2 =>
    cases r2 with
    | cons r2 r3 =>
      cases r3
      cases r1
      cases r2
      obtain ⟨_, its, m, v1, z1, e1⟩ := I.lstM hl
      obtain ⟨_, st, mt, v2, z2, e2⟩ := I.lstM ht
      have ch : ∀ i : Nat, ∃ a : Array Value, ∀ p, ks[i]? = some p → Vals p.2 a.toList ∧ ∃ m, IsL s.heap p.1 a m := fun i => by
        cases e : ks[i]? with
        | none => exact ⟨#[], fun p z => by cases z⟩
        | some p =>
          obtain ⟨_, a, m, v, z, ea⟩ := I.lstM (hk p (List.mem_of_getElem? e))
          exact ⟨a.toArray, fun p' z => by cases z; exact ⟨by simpa using v, m, ea⟩⟩
      obtain ⟨ls, hls⟩ := Classical.axiomOfChoice ch
      have hsize : its.toArray.size = ks.length := by rw [List.size_toArray, ← v1.length, List.length_map]
      have cv : ∀ i, i ≤ ks.length → Vals (ys ++ ((ks.take i).map (·.2)).flatten) (DlI.cat st.toArray ls i).toList := by
        intro i
        induction i with
        | zero => intro _; simpa [DlI.cat] using v2
        | succ i ih =>
          intro hi
          obtain ⟨p, hp⟩ : ∃ p, ks[i]? = some p := ⟨ks[i], by simp [show i < ks.length by omega]⟩
          rw [List.take_add_one, hp, List.map_append, List.flatten_append, ← List.append_assoc, show DlI.cat st.toArray ls (i + 1) = DlI.cat st.toArray ls i ++ ls i from rfl, Array.toList_append]
          refine (ih (by omega)).append ?_
          simpa using (hls i p hp).1
      have hsz : ∀ i, i ≤ ks.length → (DlI.cat st.toArray ls i).size ≤ sizeLine := fun i hi => by
        have := (cv i hi).length
        have e0 : (DlI.cat st.toArray ls i).size = (DlI.cat st.toArray ls i).toList.length := (Array.length_toList ..).symm
        rw [e0, ← this]
        refine Nat.le_trans ?_ hz
        rw [List.length_append, List.length_append]
        refine Nat.add_le_add_left ?_ _
        rw [List.map_take]
        have e : (ks.map (·.2)).flatten = ((ks.map (·.2)).take i).flatten ++ ((ks.map (·.2)).drop i).flatten := by rw [← List.flatten_append, List.take_append_drop]
        rw [e, List.length_append]
        omega
      refine DlI.sum2 (ad := fun i => (ks.getD i (0, [])).1) (ls := ls) (I.ok.hd hc) e1 e2 (fun i v hv => ?_) (fun i hi => ?_) (fun i hi => hsz i (by rw [← hsize]; exact hi)) fun tot h' tk mm kp hT h3 => ?_
      · have hv' : its[i]? = some v := by simpa using hv
        have hi : i < its.length := (List.getElem?_eq_some_iff.mp hv').1
        have hi2 : i < ks.length := by rw [← hsize]; simpa using hi
        have key : ∀ (ks : List (Addr × List V)) (us : List Value) (i : Nat) (v : Value), Vals (ks.map fun p => V.ref p.1) us → us[i]? = some v → v = .ref (ks.getD i (0, [])).1 := by
          intro ks
          induction ks with
          | nil => intro us i v r e; cases r; simp at e
          | cons p ks ih =>
            intro us i v r e
            cases r with
            | cons r1 r2 =>
              cases i with
              | zero =>
                simp at e
                subst e
                exact r1
              | succ i =>
                have := ih _ i v r2 (by simpa using e)
                simpa using this
        exact key ks its i v v1 hv'
      · rw [hsize] at hi
        have hp : ks[i]? = some ks[i] := by simp [hi]
        obtain ⟨_, m, e⟩ := hls i _ hp
        exact ⟨m, by simpa [List.getD, hp] using e⟩
      · rw [hsize] at hT h3
        have hpos : 0 < ks.length := List.length_pos_iff.mpr hne
        have hf := h3 hpos
        have hcv := cv ks.length (Nat.le_refl _)
        rw [List.take_length] at hcv
        exact ⟨.ref tot, upd H tot (.lst (ys ++ (ks.map (·.2)).flatten)), I.laid (t' := tk) kp hf ⟨hz, _, mm, hcv, by simpa using hT⟩, rfl, q tot (I.hok.fresh hf)⟩
section
variable {Θ : Th} {M M0 : List Addr} {Γ : Gm} {Ex : Xn → Prop} {Q : Sl → Prop} {a b e : Expr} {es : List Expr} {pos p p2 p3 p4 : Pos}
theorem all_lists {H : Hp} : ∀ {ls : List (List PyData)} {vs : List V}, DvAll Θ.W.K M H vs (ls.map PyData.list) → ∃ ks : List (Addr × List V), vs = ks.map (fun p => V.ref p.1) ∧ (∀ p ∈ ks, H p.1 = some (.lst p.2)) ∧ DvAll Θ.W.K M H (ks.map (·.2)).flatten ls.flatten ∧ ks.length = ls.length
  | [], _, h => by
    cases h
    exact ⟨[], rfl, (fun p hp => by cases hp), DvAll.nil, rfl⟩
  | l :: ls, _, h => by
    cases h with
    | cons h1 h2 =>
      obtain ⟨ks, e1, e2, e3, e4⟩ := all_lists h2
      cases h1 with
      | @lst a xs ds q1 q2 q3 =>
        refine ⟨(a, xs) :: ks, by rw [e1]; rfl, fun p hp => ?_, q3.append e3, by rw [List.length_cons, List.length_cons, e4]⟩
        rcases List.mem_cons.mp hp with rfl | hp
        · exact q2
        · exact e2 p hp
theorem c_sumLL {ls : List (List PyData)} {ds : List PyData} (hne : ls ≠ []) (hl : (ds ++ ls.flatten).length ≤ sizeLine) (hq : Q (.dat (.list (ds ++ ls.flatten)))) : CallD Θ M (.builtin "sum") [.dat (.list (ls.map PyData.list)), .dat (.list ds)] Q :=
  CallD.of (r := fun X => rSum2) (fun X c => cr_sum2 c.calm) fun X c vs H R hk ok k => by
    cases ok with
    | cons o1 o2 =>
      cases o2 with
      | cons o2 o3 =>
        cases o3
        obtain ⟨a, xs, rfl, na, ha, da⟩ := dat_list o1
        obtain ⟨b, ys, rfl, nb, hb, db⟩ := dat_list o2
        obtain ⟨ks, rfl, e2, e3, e4⟩ := all_lists da
        have dd := db.append e3
        refine ⟨a, b, ks, ys, rfl, ha, hb, e2, fun z => hne (List.length_eq_zero_iff.mp (by rw [← e4, z]; rfl)), by rw [dd.length]; exact hl, fun p hp => k _ _ _ (Evo.new hp) (new_lst hk hp dd) hq⟩
end
end Dl
namespace DlI
open PySem PySem.Spec PyProof.Rows
section
variable {prog : Program} {w : World} {A : Around} {E : Value → Shared → Prop} {s : Shared}
theorem places_rev (n : Nat) : Builtin.Slice.slicePlaces ((n : Int) - 1) (-1) (-1) = n := by
  unfold Builtin.Slice.slicePlaces
  rw [if_neg (by decide)]
  by_cases h : (n : Int) - 1 > -1
  · rw [if_pos h, show (-(-1) : Int) = 1 from rfl, Int.ediv_one]
    omega
  · rw [if_neg h]
    omega
theorem applied_rev {sl : Addr} {vk : Value} {n : Nat} {Q : Int × Int × Nat → Shared → Prop} (hs : s.heap.IsSliceOf sl .none .none vk) (pk : IsPart vk (some (-1))) (h : Q ((n : Int) - 1, -1, n) s) : wpAny (model prog w) A (Builtin.Slice.sliceApplied (.ref sl) (pure (n : Int))) Q E s := by
  obtain ⟨os, hos, hcs, hds⟩ := id hs
  unfold Builtin.Slice.sliceApplied Builtin.Slice.sliceFields
  refine wpAny_bind (wpAny_bind (wpAny_field hos hds (x := .none) rfl (wpAny_bind (wpAny_field hos hds (x := .none) rfl (wpAny_bind (wpAny_field hos hds (x := vk) rfl (wpAny_pure ?_)))))))
  refine wpAny_bind (HT.slicePart_ pk ?_)
  show wpAny _ _ (if ((-1 : Int) == 0) = true then _ else _) _ _ s
  rw [if_neg (by decide)]
  refine wpAny_bind (HT.slicePart_ .none (wpAny_bind (HT.slicePart_ .none (wpAny_bind (wpAny_pure ?_)))))
  show wpAny _ _ (pure ((n : Int) - 1, (-1 : Int), Builtin.Slice.slicePlaces ((n : Int) - 1) (-1) (-1))) _ _ s
  rw [places_rev]
  exact wpAny_pure h
theorem fm_congr {α β : Type} (f g : α → Option β) : ∀ l : List α, (∀ x ∈ l, f x = g x) → l.filterMap f = l.filterMap g
  | [], _ => rfl
  | x :: l, h => by
    rw [List.filterMap_cons, List.filterMap_cons, h x List.mem_cons_self, fm_congr f g l fun y hy => h y (List.mem_cons_of_mem _ hy)]
theorem pick_rev (xs : Array Value) : ((List.range xs.size).filterMap fun (m : Nat) => xs[((xs.size : Int) - 1 + (m : Int) * (-1)).toNat]?).toArray = xs.toList.reverse.toArray := by
  congr 1
  have e : ∀ m ∈ List.range xs.size, xs[((xs.size : Int) - 1 + (m : Int) * (-1)).toNat]? = xs[xs.size - 1 - m]? := fun m hm => by
    have := List.mem_range.mp hm
    rw [show ((xs.size : Int) - 1 + (m : Int) * (-1)).toNat = xs.size - 1 - m by omega]
  rw [fm_congr _ _ _ e, show (fun m => xs[xs.size - 1 - m]?) = (fun k => xs[k]?) ∘ (fun k => xs.size - 1 - k) from rfl, ← List.filterMap_map, PySem.W.krv_range, List.filterMap_reverse, PySem.W.krv_all]
theorem getItem_rev {t sl : Addr} {items : Array Value} {vk : Value} {Q : Value → Shared → Prop} (ht : IsTup s.heap t items) (hs : s.heap.IsSliceOf sl .none .none vk) (pk : IsPart vk (some (-1))) (hsz : items.size ≤ sizeLine)
    (h : Q (.ref s.heap.objs.size) { s with heap := s.heap.push { cls := .type "tuple", data := .seq items.toList.reverse.toArray } }) : wpAny (model prog w) A (getItem (.ref t) (.ref sl)) Q E s := by
  obtain ⟨os, hos, hcs, hds⟩ := id hs
  have hTs : s.TypeIs (.ref sl) "slice" := ⟨os, hos, hcs⟩
  have hz : sizeOk (.seq items.toList.reverse.toArray) := by
    show items.toList.reverse.toArray.size ≤ sizeLine
    rw [List.size_toArray, List.length_reverse, Array.length_toList]
    exact hsz
  unfold getItem
  try with_reducible refine wpAny_holding ?_
  first | refine wpAny_bind (wpAny_pure ?_) | skip
  refine wpAny_bind (wpAny_sequenceKey ht.typeIs (by decide) (wpAny_bind ?_))
  refine wpAny_callSpecial?_slot (name := Str.ofString "__getitem__") ht.typeIs PyProof.Rows.slot_tuple_getitem (wpAny_call_entry PyProof.Rows.slot_tuple_getitem ht.typeIs entry_tuple_getitem ?_ (args_tuple_getitem _ _))
  show wpAny _ _ (Builtin.Tuple.tupleItemsOf (.ref t) >>= _) _ _ s; refine wpAny_bind (tupleItemsOf_ ht (wpAny_bind (wpAny_typeOf hTs ?_)))
  rw [if_pos (by decide)]
  refine wpAny_bind (applied_rev hs pk ?_)
  show wpAny _ _ (if (((items.size : Int) - 1) == 0 && (-1 : Int) == 1 && items.size == items.size) = true then _ else _) _ _ s
  rw [if_neg (by simp), pick_rev]
  first
    | exact wpAny_bind (m := Builtin.Tuple.tupleExact _) (wpAny_newObj_type (wpAny_pure ⟨_, rfl, wpAny_pure h⟩) hz)
    | exact wpAny_bind (m := Builtin.Tuple.tupleExact _) (wpAny_newObj_type (wpAny_bind (wpAny_pure (wpAny_pure ⟨_, rfl, wpAny_pure h⟩))) hz)
    | exact wpAny_bind (wpAny_bind (m := Builtin.Tuple.tupleExact _) (wpAny_newObj_type (wpAny_pure (wpAny_pure ⟨_, rfl, wpAny_pure h⟩)) hz))
    | exact wpAny_bind (wpAny_bind (m := Builtin.Tuple.tupleExact _) (wpAny_newObj_type (wpAny_pure ⟨_, rfl, wpAny_pure h⟩) hz))
end
end DlI
namespace Dl
open PySem PySem.Spec PyProof.Rows L2
theorem pe_rev {X : Cx} {e k : Expr} {te : TE} {tk : TO} {pos p2 : Pos} (he : PE X e te) (hk : PO X (some k) tk) : PE X (.Subscript e (.Slice none none (some k) p2) pos) (fun σ H Q => te σ H fun x H1 => tk σ H1 fun o H2 => o = some (-1) ∧ ∃ a xs, x = .ref a ∧ SqT X.K H2 a xs ∧ ∀ p, H2 p = none → Q (.ref p) (upd H2 p (.tup xs.reverse))) := by
  refine ⟨fun pins s σ H Q I h => ?_⟩
  refine Subscript_ (thn (he.run pins s σ H _ I h) fun v s1 ⟨x, H1, I1, r1, q1⟩ => wpAny_Slice ?_)
  rw [evalPart_none]; refine wpAny_pure (wpAny_pure ?_)
  refine thn (hk.run pins s1 σ H1 _ I1 q1) fun vk s2 ⟨o, H2, I2, pk, q2⟩ => ?_
  obtain ⟨rfl, a, xs, rfl, hx, q⟩ := q2
  cases r1
  have I3 : Inv X pins σ H2 { s2 with heap := s2.heap.push { cls := .type "slice", data := .fields #[.none, .none, vk] } } := I2.kept (t' := s2.toks) fun b ob q => Heap.get?_push_of_some _ q
  obtain ⟨its, r, ht, hz⟩ := I3.tuple hx
  have hlen : its.toArray.size = xs.length := by rw [List.size_toArray]; exact r.length.symm
  have hg : wpAny (model X.prog X.w) X.A (getItem (.ref a) (.ref s2.heap.objs.size)) (EP X pins σ Q) X.xe { s2 with heap := s2.heap.push { cls := .type "slice", data := .fields #[.none, .none, vk] } } := by
    refine DlI.getItem_rev ht (Heap.IsSliceOf.new ..) pk (by rw [hlen]; exact hz) ?_
    refine ⟨.ref _, _, I3.laid (t' := s2.toks) (o := .tup xs.reverse) (fun b ob q => Heap.get?_push_of_some _ q) (Nat.le_refl _) ?_, rfl, q _ (I3.hok.fresh (Nat.le_refl _))⟩
    have vr : ∀ {xs : List V} {us : List Value}, Vals xs us → Vals xs.reverse us.reverse := fun r => by
      induction r with
      | nil => exact .nil
      | cons a b ih =>
        rw [List.reverse_cons, List.reverse_cons]
        exact ih.append (.cons a .nil)
    exact ⟨by rw [List.length_reverse]; exact hz, _, vr r, IsTup.new _ _⟩
  show wpAny (model X.prog X.w) X.A (subscriptTail e (.Slice none none (some k) p2) (.ref a) (.ref s2.heap.objs.size)) (EP X pins σ Q) X.xe { s2 with heap := s2.heap.push { cls := .type "slice", data := .fields #[.none, .none, vk] } }
  exact tail_any (ops := [.ref a, .ref s2.heap.objs.size]) ht.typeIs PyProof.Rows.slot_tuple_getitem.lookup hg (by with_unfolding_all rfl)
section
variable {Θ : Th} {M M0 : List Addr} {Γ : Gm} {Ex : Xn → Prop} {Q : Sl → Prop} {a b e : Expr} {es : List Expr} {pos p p2 p3 p4 : Pos}
theorem d_rev {k0 : Nat} (h : dE Θ M e Γ Ex fun s => ∃ ds, s = .dat (.tuple ds) ∧ Q (.dat (.tuple ds.reverse))) : dE Θ M (.Subscript e (.Slice none none (some (.UnaryOp .USub (.Constant (.int 1) k0 p) p3)) p2) pos) Γ Ex Q := by
  intro X c σ H R E xr k
  refine wE_of (pe_rev (pe X e) (po_some (pe_un un_neg pe_int))) ?_
  refine h X c σ H _ E xr fun v s H1 e1 ok q => ?_
  obtain ⟨ds, rfl, q⟩ := q
  obtain ⟨a, xs, rfl, ha, da⟩ := dat_tup ok
  refine ⟨1, rfl, -1, rfl, rfl, a, xs, rfl, by rw [c.K]; exact ha, fun p hp => ?_⟩
  have rv : ∀ {ds : List PyData} {xs : List V}, DvAll Θ.W.K M H1 xs ds → DvAll Θ.W.K M H1 xs.reverse ds.reverse := fun {ds} => by
    induction ds with
    | nil => intro xs h; cases h; exact .nil
    | cons d ds ih =>
      intro xs h
      cases h with
      | cons h1 h2 =>
        rw [List.reverse_cons, List.reverse_cons]
        exact (ih h2).append (.cons h1 .nil)
  exact k _ _ _ (e1.trans (Evo.new hp)) (new_tup (E.hk.evo e1) hp (rv da)) q
end
end Dl
set_option Elab.async false
set_option linter.all false
set_option maxRecDepth 100000
set_option maxHeartbeats 2000000
set_option autoImplicit false
namespace Dl
open PySem PySem.Spec PyProof.Rows L2
/-! ### comprehensions of two clauses -/
def isOwn : Option Sl → Bool
  | some (.own _ _) => true
  | _ => false
def noOwnG (Γ : Gm) : Bool := Γ.all fun o => !isOwn o
theorem noOwnG_ok {Γ : Gm} (h : noOwnG Γ = true) (p : Addr) : NoOwn Γ p := fun i ds e => by
  unfold noOwnG at h
  rw [List.all_eq_true] at h
  have := h _ (List.mem_of_getElem? e)
  simp [isOwn] at this
section
variable {Θ : Th} {M : List Addr} {Γ : Gm} {Ex : Xn → Prop} {Q : Sl → Prop} {elt tg iter tg1 iter1 : Expr} {pos : Pos}
theorem d_lc2 {scope : Scope} {own : List (Str × Nat)} {vs1 is is1 : List Nat} (ok : blkC Θ.N Θ.sc scope own = true) (hv : ∀ i ∈ vs1, i ∈ own.map (·.2)) (his : ∀ i ∈ is, i ∈ own.map (·.2)) (his1 : ∀ i ∈ is1, i ∈ vs1)
    (h : dI Θ M tg iter Γ Ex fun ds => ∃ A : Nat → List PyData → Prop, A 0 [] ∧
      (∀ (D : Addr) (i : Nat) (d : PyData) (acc : List PyData), ds[i]? = some d → A i acc → dG (Θ.blk scope) (D :: M) tg (.dat d) (wipeG Γ (own.map (·.2))) is fun Γ' => noOwnG Γ' = true ∧
        dI (Θ.blk scope) (D :: M) tg1 iter1 Γ' (fun _ => False) fun es => ∃ B : Nat → List PyData → Prop, B 0 acc ∧
          (∀ (j : Nat) (e : PyData) (acc' : List PyData), es[j]? = some e → B j acc' → acc'.length < sizeLine ∧ dG (Θ.blk scope) (D :: M) tg1 (.dat e) (wipeG Γ' vs1) is1 fun Γ2 => dE (Θ.blk scope) (D :: M) elt Γ2 (fun _ => False) fun y => ∃ z, y = .dat z ∧ B (j + 1) (acc' ++ [z])) ∧
          (∀ acc', B es.length acc' → A (i + 1) acc')) ∧
      (∀ acc, A ds.length acc → Q (.dat (.list acc))))
    (hs : ∀ env x, foldedSetIterable iter env x = pure x := by intro _ _; rfl) (hs1 : ∀ env x, foldedSetIterable iter1 env x = pure x := by intro _ _; rfl) : dE Θ M (.ListComp elt [⟨tg, iter, [], 0⟩, ⟨tg1, iter1, [], 0⟩] scope pos) Γ Ex Q := by
  intro X c σ H R E xr k
  have okb : BlkOk X.N X.env.scope scope own := by rw [c.N, c.sc]; exact blkOk_by ok
  refine wE_of (pe_lc2 (X := X) (wi := wI X tg iter) (g := fun v σ H Q => ∀ s0 H0 C cl fp, wG (X.blk s0 H0 scope (compEnvC scope cl C X.env) fp) tg v σ H Q) (tt := tYes) (wi1 := fun σ H R => ∀ s0 H0 C cl fp, wI (X.blk s0 H0 scope (compEnvC scope cl C X.env) fp) tg1 iter1 σ H R)
    (g1 := fun v σ H Q => ∀ s0 H0 C cl fp, wG (X.blk s0 H0 scope (compEnvC scope cl C X.env) fp) tg1 v σ H Q) (tt1 := tYes) (te := fun σ H Q => ∀ s0 H0 C cl fp, wE (X.blk s0 H0 scope (compEnvC scope cl C X.env) fp) elt σ H Q) (own := own) (vs1 := vs1)
    c.calm c.nd (pi X tg iter) okb hv (fun s0 H0 C cl fp => ⟨fun pins s σ H v u Q I r q => (pg _ _).run pins s σ H v u Q I r (q s0 H0 C cl fp)⟩) (fun _ _ _ _ _ => pts_nil) (fun s0 H0 C cl fp => ⟨fun pins s σ H R I q => (pi _ _ _).run pins s σ H R I (q s0 H0 C cl fp)⟩)
    (fun s0 H0 C cl fp => ⟨fun pins s σ H v u Q I r q => (pg _ _).run pins s σ H v u Q I r (q s0 H0 C cl fp)⟩) (fun _ _ _ _ _ => pts_nil) (fun s0 H0 C cl fp => ⟨fun pins s σ H Q I q => (pe _ _).run pins s σ H Q I (q s0 H0 C cl fp)⟩) (hs _) hs1) ?_
  refine h X c σ H _ E xr fun J H1 ds G e1 hP W hG => ?_
  obtain ⟨A, h0, hstep, hend⟩ := hP
  have E1 := E.evo e1
  intro D hD
  have nb : D ≠ Θ.W.b := fun z => by
    obtain ⟨xs, hx⟩ := E1.good.bag.lst
    rw [← z, hD] at hx
    cases hx
  have nq : D ≠ Θ.W.q := fun z => by
    have hx := E1.good.bag.cells
    rw [← z, hD] at hx
    cases hx
  have noD : NoOwn (wipeG Γ (own.map (·.2))) D := (E1.noOwn hD).wipe _
  refine ⟨fun i m H' => m = ds.length - i ∧ i ≤ ds.length ∧ ∃ acc vacc, A i acc ∧ H' D = some (.lst vacc) ∧ DvAll Θ.W.K (D :: M) H' vacc acc ∧ EnvOk Θ.W (D :: M) (wipeG Γ (own.map (·.2))) (L2.wipe σ (own.map (·.2))) H' ∧ G (D :: M) H' ∧ Evo Θ.W H1 H', ⟨_, rfl, Nat.zero_le _, [], [], h0, upd_same, .nil, (E1.wipe _).aside hD, ?_, Evo.new hD⟩, ?_⟩
  · have st : Stay (D :: M) H1 (upd H1 D (.lst [])) := (E1.hk.stay (Evo.new hD)).more fun a ha => List.mem_cons_of_mem _ ha
    exact W.st _ _ _ (W.fr _ _ _ hG hD) st
  rintro i m H2 ⟨hm, hi, acc, vacc, hA, hDv, hda, hE, hG2, hev⟩
  have hkD : Hk Θ.W (D :: M) H2 := hE.hk
  by_cases hin : i = ds.length
  · left
    subst hin
    exact ⟨(W.w (D :: M)).stops H2 hG2, k _ _ H2 (e1.trans hev) (.dat (.lst (E.hk.nin (e1.has _ hD)) hDv (DvAll.less (fun a ha => List.mem_cons_of_mem _ ha) _ _ hda))) (hend acc hA)⟩
  right
  have hlt : i < ds.length := by omega
  refine ⟨(W.w (D :: M)).goes i H2 hlt hG2, _, fun H' z => ⟨ds.length - (i + 1), by omega, z⟩, fun x H3 y => ?_⟩
  obtain ⟨ey, d, hd, hx⟩ := (W.w (D :: M)).yields i H2 x H3 hlt hG2 y hkD
  have hE3 := hE.evo ey
  have hD3 : H3 D = some (.lst vacc) := ey.keep _ _ hDv nb (fun _ z => by cases z)
  have hda3 := DvAll.stay (hkD.stay ey) _ _ hda
  have hG3 : G (D :: M) H3 := W.st _ _ _ hG2 (hkD.stay ey)
  have hev3 : Evo Θ.W H1 H3 := hev.trans ey
  intro s0 H0 C cl fp
  refine hstep D i d acc hd hA _ (c.blk s0 H0 scope C cl fp) x _ H3 _ hE3 (.dat hx) fun Γ' σ' E' hw q => ?_
  obtain ⟨no, q⟩ := q
  refine ⟨(hw _ his).trans (wipe_wipe _ fun _ z => z), ?_⟩
  simp only [tYes, if_true]
  intro s1 H1' C1 cl1 fp1
  refine q _ (c.blk s1 H1' scope C1 cl1 fp1) σ' H3 _ E' XR.none fun J1 H4 es G1 e4 hB W1 hG1 => ?_
  obtain ⟨B, hB0, hBs, hBe⟩ := hB
  have hE4 := hE3.evo e4
  have no1 : NoOwn (wipeG Γ' vs1) D := (noOwnG_ok no D).wipe _
  refine ⟨fun j k H' => k = es.length - j ∧ j ≤ es.length ∧ ∃ acc vacc, B j acc ∧ H' D = some (.lst vacc) ∧ DvAll Θ.W.K (D :: M) H' vacc acc ∧ EnvOk Θ.W (D :: M) (wipeG Γ' vs1) (L2.wipe σ' vs1) H' ∧ EnvOk Θ.W (D :: M) (wipeG Γ (own.map (·.2))) (L2.wipe σ (own.map (·.2))) H' ∧ G (D :: M) H' ∧ G1 (D :: M) H' ∧ Evo Θ.W H1 H',
    ⟨_, rfl, Nat.zero_le _, acc, vacc, hB0, e4.keep _ _ hD3 nb (fun _ z => by cases z), DvAll.stay (hE3.hk.stay e4) _ _ hda3, (E'.evo e4).wipe _, hE4, W.st _ _ _ hG3 (hE3.hk.stay e4), hG1, hev3.trans e4⟩, ?_⟩
  rintro j kk H5 ⟨hk5, hj5, acc5, vacc5, hB5, hD5, hda5, hF5, hE5, hG5, hG15, hev5⟩
  by_cases hjn : j = es.length
  · left
    subst hjn
    exact ⟨(W1.w (D :: M)).stops H5 hG15, by trivial, hlt, acc5, vacc5, hBe acc5 hB5, hD5, hda5, hE5, hG5, hev5⟩
  right
  have jlt : j < es.length := by omega
  refine ⟨(W1.w (D :: M)).goes j H5 jlt hG15, _, fun H' z => ⟨es.length - (j + 1), by omega, z⟩, fun x5 H6 y5 => ?_⟩
  obtain ⟨ey5, d5, hd5, hx5⟩ := (W1.w (D :: M)).yields j H5 x5 H6 jlt hG15 y5 hE5.hk
  obtain ⟨hsz, hg5⟩ := hBs j d5 acc5 hd5 hB5
  intro s2 H2' C2 cl2 fp2
  refine hg5 _ (c.blk s2 H2' scope C2 cl2 fp2) x5 _ H6 _ (hF5.evo ey5) (.dat hx5) fun Γ2 σ2 E2 hw2 q2 => ?_
  refine ⟨(hw2 _ his1).trans (wipe_wipe _ fun _ z => z), ?_⟩
  simp only [tYes, if_true]
  intro s3 H3' C3 cl3 fp3
  refine q2 _ (c.blk s3 H3' scope C3 cl3 fp3) σ2 H6 _ E2 XR.none fun v s H7 e7 ok7 q7 => ?_
  obtain ⟨z, rfl, hB7⟩ := q7
  have e57 : Evo Θ.W H5 H7 := ey5.trans e7
  have hD7 : H7 D = some (.lst vacc5) := e57.keep _ _ hD5 nb (fun _ z => by cases z)
  have hst := hE5.hk.stay e57
  have hda7 := DvAll.stay hst _ _ hda5
  have hev7 : Evo Θ.W H1 H7 := hev5.trans e57
  have st : Stay (D :: M) H7 (upd H7 D (.lst (vacc5 ++ [v]))) := fun a o h n t => by
    by_cases ha : a = D
    · subst ha
      rw [hD7] at h
      cases h
      exact absurd rfl (n List.mem_cons_self vacc5)
    · rw [upd_ne ha]
      exact h
  exact ⟨vacc5, hD7, by rw [hda7.length]; exact hsz, by trivial, jlt, acc5 ++ [z], vacc5 ++ [v], hB7, upd_same, DvAll.stay st _ _ (hda7.append (.cons (dat_d ok7) .nil)), (hF5.evo e57).wrote hD7 nb nq no1, (hE5.evo e57).wrote hD7 nb nq noD, W.st _ _ _ (W.st _ _ _ hG5 hst) st, W1.st _ _ _ (W1.st _ _ _ hG15 hst) st, hev7.write hD hD7 E1.good⟩
end
section
variable {Θ : Th} {M : List Addr} {Γ : Gm} {pos : Pos} {x : Str} {s : Sl}
/-- a target that is a cell: of the def, of the block -/
theorem g_nmC {i : Nat} {G : Gm → Prop} (hN : posN Θ.N x = some i) (hx : locB Θ.sc x = true) (hf : Θ.full = true) (hq : G (Γ.set i (some s))) : dG Θ M (.Name x pos) s Γ [i] G := g_name (posN_ok hN) (locB_ok hx) (.inl hf) hq
theorem g_nmB {i : Nat} {G : Gm → Prop} (hN : posN Θ.N x = some i) (hx : locB Θ.sc x = true) (hc : Θ.cl x = true) (hq : G (Γ.set i (some s))) : dG Θ M (.Name x pos) s Γ [i] G := by
  intro X c v σ H R E ok k
  have hL : L2.Loc X.env.scope x := by rw [c.sc]; exact locB_ok hx
  exact wG_of (pg_name (i := i) c.nd (by rw [c.N]; exact posN_ok hN) hL (.inl (c.clo x hc))) (k _ _ (E.set ok) (fun vs h => wipe_set (h i (by simp))) hq)
end
end Dl
set_option Elab.async false
set_option linter.all false
set_option maxRecDepth 100000
set_option maxHeartbeats 2000000
set_option autoImplicit false
namespace Dl
open PySem PySem.Spec PyProof.Rows L2
/-! ### sorted of any data that are alike; min, max of two ints -/
def rSortD (K : PySem.W.Frag) : List V → Hp → VK → Prop := fun vs H Q => ∃ (a : Addr) (xs : List V) (ds : List PyData), vs = [V.ref a] ∧ SqL K H a xs ∧ DpAll K H xs ds ∧ PySem.W.AllAlike ds ∧ PySem.W.Sortable ds ∧ (∀ d ∈ ds, d.depth ≤ 20) ∧
  ∀ (zs : List (V × PyData)) (p : Addr), zs.Perm (xs.zip ds) → H p = none → Q (.ref p) (upd H p (.lst (zs.map (·.1))))
theorem dpAll_len {K : PySem.W.Frag} {H : Hp} : ∀ {ds : List PyData} {xs : List V}, DpAll K H xs ds → xs.length = ds.length
  | [], _, h => by cases h; rfl
  | d :: ds, _, h => by
    cases h with
    | cons _ h2 => rw [List.length_cons, List.length_cons, dpAll_len h2]
theorem each_rel : ∀ {xs : List V} {us : List Value} {ds : List PyData}, Vals xs us → xs.length = ds.length → PySem.W.EachIs (fun (v : Value) (b : V × PyData) => RelV b.1 v) us (xs.zip ds)
  | [], _, _, .nil, _ => .nil
  | x :: xs, u :: us, d :: ds, .cons r t, h => .cons r (each_rel t (by simpa using h))
  | x :: xs, u :: us, [], .cons r t, h => by simp at h
theorem each_reads {X : Cx} {pins : List (Addr × Obj)} {σ : L2.St} {H : Hp} {s : Shared} (I : Inv X pins σ H s) : ∀ {xs : List V} {us : List Value} {ds : List PyData}, Vals xs us → DpAll X.K H xs ds → PySem.W.EachIs (fun (v : Value) (b : V × PyData) => ∃ as, Reads s.heap v b.2 as) us (xs.zip ds)
  | [], _, _, .nil, _ => .nil
  | x :: xs, u :: us, _, .cons r t, h => by
    cases h with
    | cons h1 h2 => exact .cons (Dp.reads I _ _ _ h1 r) (each_reads I t h2)
theorem each_vals : ∀ {us : List Value} {zs : List (V × PyData)}, PySem.W.EachIs (fun (v : Value) (b : V × PyData) => RelV b.1 v) us zs → Vals (zs.map (·.1)) us
  | _, _, .nil => .nil
  | _, _, .cons h t => .cons h (each_vals t)
theorem cr_sortD {X : Cx} (hu : X.A.units + 64 < cLine) : CallR X (.builtin "sorted") (rSortD X.K) := by
  intro pins s σ H vs us Q I r h
  obtain ⟨a, xs, ds, rfl, hs, da, hal, hk, hdep, q⟩ := h
  obtain ⟨its, rv, hl, hz⟩ := I.list hs
  obtain ⟨u, rfl, ru⟩ := vals1 r
  obtain rfl : u = Value.ref a := ru
  have hlen := dpAll_len da
  have em : (xs.zip ds).map (fun b : V × PyData => b.2) = ds := List.map_snd_zip (Nat.le_of_eq hlen.symm)
  refine PySem.W.sorted_data (β := V × PyData) (enc := fun b => b.2) (bs := xs.zip ds) (R := fun v b => RelV b.1 v) hl.isList (each_rel rv hlen) (each_reads I rv da) (by rw [em]; exact hal) (by rw [em]; exact hk) (by rw [List.length_zip]; exact Nat.le_trans (Nat.min_le_left _ _) hz) (fun b hb => ?_) fun out ol e => ?_
  · have := hdep b.2 (List.of_mem_zip hb).2
    show X.A.units + 2 + b.2.depth < cLine
    omega
  · have hp := List.mergeSort_perm (xs.zip ds) (PySem.W.dataLe false fun b : V × PyData => b.2)
    obtain ⟨n, hn⟩ := sortedAll_at s.heap its out.toArray
    refine ⟨.ref (s.heap.objs.size + 1), upd H (s.heap.objs.size + 1) (.lst (((xs.zip ds).mergeSort (PySem.W.dataLe false fun b : V × PyData => b.2)).map (·.1))), I.laid (t' := s.toks) (fun b o e => sortedAll_old e) (Nat.le_succ _) ⟨?_, out, n, each_vals e, hn⟩, rfl, q _ _ hp (I.hok.fresh (Nat.le_succ _))⟩
    rw [List.length_map, hp.length_eq, List.length_zip]
    exact Nat.le_trans (Nat.min_le_left _ _) hz
section
variable {Θ : Th} {M : List Addr} {Q : Sl → Prop}
theorem dvAll_zip {K : PySem.W.Frag} {H : Hp} : ∀ {ds : List PyData} {vs : List V}, DvAll K M H vs ds → ∀ p ∈ vs.zip ds, Dv K M H p.1 p.2
  | [], _, h => by cases h; intro p hp; simp at hp
  | d :: ds, _, h => by
    cases h with
    | cons h1 h2 =>
      intro p hp
      rw [List.zip_cons_cons] at hp
      rcases List.mem_cons.mp hp with rfl | hp
      · exact h1
      · exact dvAll_zip h2 p hp
theorem dvAll_of {K : PySem.W.Frag} {H : Hp} : ∀ {zs : List (V × PyData)}, (∀ p ∈ zs, Dv K M H p.1 p.2) → DvAll K M H (zs.map (·.1)) (zs.map (·.2))
  | [], _ => .nil
  | z :: zs, h => .cons (h z List.mem_cons_self) (dvAll_of fun p hp => h p (List.mem_cons_of_mem _ hp))
theorem c_sortD {ds : List PyData} (hal : PySem.W.AllAlike ds) (hk : PySem.W.Sortable ds) (hdep : ∀ d ∈ ds, d.depth ≤ 20) (hq : ∀ out : List PyData, out.Perm ds → Q (.dat (.list out))) : CallD Θ M (.builtin "sorted") [.dat (.list ds)] Q :=
  CallD.of (r := fun X => rSortD X.K) (fun X c => cr_sortD c.units) fun X c vs H R hk' ok k => by
    cases ok with
    | cons o1 o2 =>
      cases o2
      obtain ⟨l, xs, rfl, nl, hl, da⟩ := dat_list o1
      refine ⟨l, xs, ds, rfl, .of hl, by rw [c.K]; exact DvAll.dp _ _ da, hal, hk, hdep, fun zs p pm hp => ?_⟩
      have g : ∀ z ∈ zs, Dv Θ.W.K M H z.1 z.2 := fun z hz => dvAll_zip da z (pm.mem_iff.mp hz)
      have hlen : xs.length = ds.length := DvAll.length da
      refine k _ _ _ (Evo.new hp) (new_lst hk' hp (dvAll_of g)) (hq _ ?_)
      have := pm.map (fun z : V × PyData => z.2)
      rw [List.map_snd_zip (Nat.le_of_eq hlen.symm)] at this
      exact this
theorem c_min2I {i j : Int} (hq : Q (.dat (.int (min i j)))) : CallD Θ M (.builtin "min") [.dat (.int i), .dat (.int j)] Q :=
  CallD.of (fun X c => call_min2 c.calm) fun X c vs H R hk ok k => by
    cases ok with
    | cons o1 o2 =>
      cases o2 with
      | cons o2 o3 =>
        cases o3
        rw [dat_int o1, dat_int o2]
        refine ⟨i, j, rfl, k _ _ H (Evo.refl H) (.dat ?_) hq⟩
        have e : (if j < i then j else i) = min i j := by split <;> omega
        rw [e]
        exact .int _
theorem c_max2I {i j : Int} (hq : Q (.dat (.int (max i j)))) : CallD Θ M (.builtin "max") [.dat (.int i), .dat (.int j)] Q :=
  CallD.of (fun X c => call_max2 c.calm) fun X c vs H R hk ok k => by
    cases ok with
    | cons o1 o2 =>
      cases o2 with
      | cons o2 o3 =>
        cases o3
        rw [dat_int o1, dat_int o2]
        refine ⟨i, j, rfl, k _ _ H (Evo.refl H) (.dat ?_) hq⟩
        have e : (if j > i then j else i) = max i j := by split <;> omega
        rw [e]
        exact .int _
end
end Dl
set_option Elab.async false
set_option linter.all false
set_option maxRecDepth 100000
set_option maxHeartbeats 2000000
set_option autoImplicit false
namespace Dl
open PySem PySem.Spec PyProof.Rows L2
section
variable {Θ : Th} {M0 M : List Addr} {Γ : Gm} {Ex : Xn → Prop} {a : Expr} {pos : Pos} {x y : Str} {Kn : List Addr → Gm → Prop} {Rt : Sl → Prop}
/-- x, y = a, [] -/
theorem s_prNew {i j : Nat} {px py pt pl : Pos} {kt k2 : Nat} {pt2 : Pos} (hN : posN Θ.N x = some i) (hN2 : posN Θ.N y = some j) (hij : (i == j) = false) (hx : Θ.sc.names.lookup x = some .local) (hy : Θ.sc.names.lookup y = some .local)
    (h : dE Θ M a Γ Ex fun s => s.pure = true ∧ ∀ D, D ∉ M0 → D ∉ M → Kn (D :: M) ((Γ.set i (some s)).set j (some (.own D []))))
    (hw : ∀ env : Env, env.scope = Θ.sc → swappedStores [.Tuple [.Name x px, .Name y py] kt pt] (.Tuple [a, .List [] pl] k2 pt2) env = pure (some [x, y]) := by (intro env h; obtain ⟨e1, e2, e3, e4, e5, e6, e7, e8, e9⟩ := env; cases h; rfl))
    (hs : ∀ env : Env, env.scope = Θ.sc → swapsWithSole [.Tuple [.Name x px, .Name y py] kt pt] (.Tuple [a, .List [] pl] k2 pt2) pos.line env = pure false := by intro _ _; rfl)
    (h1 : ∀ env, starEach [a, .List [] pl] env = (false, eval a env) :: starEach [.List [] pl] env := by intro _; rfl) (h2 : ∀ env, starEach [.List [] pl] env = (false, eval (.List [] pl) env) :: starEach [] env := by intro _; rfl) :
    dS Θ M0 M (.Assign [.Tuple [.Name x px, .Name y py] kt pt] (.Tuple [a, .List [] pl] k2 pt2) pos) Γ Ex Rt Kn := by
  intro X c F hF H0 σ H D s xt kn rt
  refine wS_of (ps_par c.calm c.nd (by rw [c.N]; exact posN_ok hN) (by rw [c.N]; exact posN_ok hN2) (fun z => by rw [z] at hij; simp at hij) (by rw [c.sc]; exact hx) (by rw [c.sc]; exact hy) (pa_cons (pe X a) (pa_cons (pe_lst pa_nil) pa_nil (h2 _)) (h1 _)) (hw _ c.sc) (hs _ c.sc)) (h X c σ H _ s.env (xt.xr s.sub s.ev) fun v t H1 e1 ok q => ?_)
  refine ⟨Nat.zero_le _, fun p hp => ⟨_, _, rfl, ?_⟩⟩
  have s1 := (s.evo hF e1).set (i := i) ok
  have nM := s1.env.hk.nin hp
  have s2 := s1.adopt hF hp (Evo.new (o := .lst []) hp) upd_same
  exact kn _ _ _ _ (s2.setOwn (i := j) s1.env.bM nM upd_same .nil) (q.2 p (fun z => nM (s.sub p z)) nM)
end
end Dl
set_option Elab.async false
set_option linter.all false
set_option maxRecDepth 100000
set_option maxHeartbeats 4000000
namespace K76
open PySem PySem.Spec PyProof.Rows L2
def topS (i : Nat) : Stmt := PySem.Challenge.pw_mostwebs_k76_faults_of_wide_webs.main.body.getD i (.Pass ⟨0, 0, 0, 0⟩)
abbrev s_is_number : Stmt := topS 15
abbrev s_is_index : Stmt := topS 16
abbrev s_is_between : Stmt := topS 17
abbrev s_is_name : Stmt := topS 18
abbrev s_is_sized : Stmt := topS 19
abbrev s_is_tuple_of : Stmt := topS 20
abbrev s_has_divisor : Stmt := topS 21
abbrev s_is_fraction : Stmt := topS 22
abbrev s_is_share : Stmt := topS 23
abbrev s_is_named : Stmt := topS 24
abbrev s_is_tie : Stmt := topS 25
abbrev s_is_item : Stmt := topS 26
abbrev s_is_menu : Stmt := topS 27
abbrev s_is_kind : Stmt := topS 28
abbrev s_is_web : Stmt := topS 29
abbrev s_greatest_common : Stmt := topS 31
abbrev s_made : Stmt := topS 32
abbrev s_check_two : Stmt := topS 33
abbrev s_plus : Stmt := topS 34
abbrev s_summed : Stmt := topS 35
abbrev s_check_names : Stmt := topS 37
abbrev s_check_colours : Stmt := topS 38
abbrev s_fits_ties : Stmt := topS 39
abbrev s_plain_mirror : Stmt := topS 40
abbrev s_check_menu : Stmt := topS 41
abbrev s_couples_of : Stmt := topS 42
abbrev s_checked_kind : Stmt := topS 43
abbrev s_plain_menu : Stmt := topS 44
abbrev s_pair_at : Stmt := topS 47
abbrev s_plain_item : Stmt := topS 48
abbrev s_checked_web : Stmt := topS 49
abbrev s__law_bag : Stmt := topS 51
abbrev s__law_take : Stmt := topS 52
abbrev s__law_some : Stmt := topS 53
abbrev s__law_mixed : Stmt := topS 54
abbrev s__law_rows : Stmt := topS 55
abbrev s__law_mirror : Stmt := topS 56
abbrev s__law_all_items : Stmt := topS 57
abbrev s__law_items_let : Stmt := topS 58
abbrev s__law_web : Stmt := topS 59
abbrev s__law_pairs : Stmt := topS 60
abbrev s__law_put : Stmt := topS 61
abbrev s__law_wide_menu : Stmt := topS 62
abbrev s__law_fraction : Stmt := topS 63
abbrev s__law_wide_kind : Stmt := topS 64
abbrev s__law_fault : Stmt := topS 65
abbrev s__law_told : Stmt := topS 66
abbrev s_law : Stmt := topS 67
def d_is_number : He.DefD := ⟨("is_number", none), "is_number", "is_number", defArgs s_is_number, defBody s_is_number, defScope s_is_number, [], []⟩
def d_is_index : He.DefD := ⟨("is_index", none), "is_index", "is_index", defArgs s_is_index, defBody s_is_index, defScope s_is_index, [], []⟩
def d_is_between : He.DefD := ⟨("is_between", none), "is_between", "is_between", defArgs s_is_between, defBody s_is_between, defScope s_is_between, [], []⟩
def d_is_name : He.DefD := ⟨("is_name", none), "is_name", "is_name", defArgs s_is_name, defBody s_is_name, defScope s_is_name, [], []⟩
def d_is_sized : He.DefD := ⟨("is_sized", none), "is_sized", "is_sized", defArgs s_is_sized, defBody s_is_sized, defScope s_is_sized, [], []⟩
def d_is_tuple_of : He.DefD := ⟨("is_tuple_of", none), "is_tuple_of", "is_tuple_of", defArgs s_is_tuple_of, defBody s_is_tuple_of, defScope s_is_tuple_of, [], []⟩
def d_has_divisor : He.DefD := ⟨("has_divisor", none), "has_divisor", "has_divisor", defArgs s_has_divisor, defBody s_has_divisor, defScope s_has_divisor, [], []⟩
def d_is_fraction : He.DefD := ⟨("is_fraction", none), "is_fraction", "is_fraction", defArgs s_is_fraction, defBody s_is_fraction, defScope s_is_fraction, [], []⟩
def d_is_share : He.DefD := ⟨("is_share", none), "is_share", "is_share", defArgs s_is_share, defBody s_is_share, defScope s_is_share, [], []⟩
def d_is_named : He.DefD := ⟨("is_named", none), "is_named", "is_named", defArgs s_is_named, defBody s_is_named, defScope s_is_named, [], []⟩
def d_is_tie : He.DefD := ⟨("is_tie", none), "is_tie", "is_tie", defArgs s_is_tie, defBody s_is_tie, defScope s_is_tie, [], []⟩
def d_is_item : He.DefD := ⟨("is_item", none), "is_item", "is_item", defArgs s_is_item, defBody s_is_item, defScope s_is_item, [], []⟩
def d_is_menu : He.DefD := ⟨("is_menu", none), "is_menu", "is_menu", defArgs s_is_menu, defBody s_is_menu, defScope s_is_menu, [], []⟩
def d_is_kind : He.DefD := ⟨("is_kind", none), "is_kind", "is_kind", defArgs s_is_kind, defBody s_is_kind, defScope s_is_kind, [], []⟩
def d_is_web : He.DefD := ⟨("is_web", none), "is_web", "is_web", defArgs s_is_web, defBody s_is_web, defScope s_is_web, [], []⟩
def d_greatest_common : He.DefD := ⟨("greatest_common", none), "greatest_common", "greatest_common", defArgs s_greatest_common, defBody s_greatest_common, defScope s_greatest_common, [], []⟩
def d_made : He.DefD := ⟨("made", none), "made", "made", defArgs s_made, defBody s_made, defScope s_made, [], []⟩
def d_check_two : He.DefD := ⟨("check_two", none), "check_two", "check_two", defArgs s_check_two, defBody s_check_two, defScope s_check_two, [], []⟩
def d_plus : He.DefD := ⟨("plus", none), "plus", "plus", defArgs s_plus, defBody s_plus, defScope s_plus, [], []⟩
def d_summed : He.DefD := ⟨("summed", none), "summed", "summed", defArgs s_summed, defBody s_summed, defScope s_summed, [], []⟩
def d_check_names : He.DefD := ⟨("check_names", none), "check_names", "check_names", defArgs s_check_names, defBody s_check_names, defScope s_check_names, [], []⟩
def d_check_colours : He.DefD := ⟨("check_colours", none), "check_colours", "check_colours", defArgs s_check_colours, defBody s_check_colours, defScope s_check_colours, [], []⟩
def d_fits_ties : He.DefD := ⟨("fits_ties", none), "fits_ties", "fits_ties", defArgs s_fits_ties, defBody s_fits_ties, defScope s_fits_ties, [], []⟩
def d_plain_mirror : He.DefD := ⟨("plain_mirror", none), "plain_mirror", "plain_mirror", defArgs s_plain_mirror, defBody s_plain_mirror, defScope s_plain_mirror, [], []⟩
def d_check_menu : He.DefD := ⟨("check_menu", none), "check_menu", "check_menu", defArgs s_check_menu, defBody s_check_menu, defScope s_check_menu, [], []⟩
def d_couples_of : He.DefD := ⟨("couples_of", none), "couples_of", "couples_of", defArgs s_couples_of, defBody s_couples_of, defScope s_couples_of, [], []⟩
def d_checked_kind : He.DefD := ⟨("checked_kind", none), "checked_kind", "checked_kind", defArgs s_checked_kind, defBody s_checked_kind, defScope s_checked_kind, [], []⟩
def d_plain_menu : He.DefD := ⟨("plain_menu", none), "plain_menu", "plain_menu", defArgs s_plain_menu, defBody s_plain_menu, defScope s_plain_menu, [], []⟩
def d_pair_at : He.DefD := ⟨("pair_at", none), "pair_at", "pair_at", defArgs s_pair_at, defBody s_pair_at, defScope s_pair_at, [], []⟩
def d_plain_item : He.DefD := ⟨("plain_item", none), "plain_item", "plain_item", defArgs s_plain_item, defBody s_plain_item, defScope s_plain_item, [], []⟩
def d_checked_web : He.DefD := ⟨("checked_web", none), "checked_web", "checked_web", defArgs s_checked_web, defBody s_checked_web, defScope s_checked_web, [], []⟩
def d__law_bag : He.DefD := ⟨("_law_bag", none), "_law_bag", "_law_bag", defArgs s__law_bag, defBody s__law_bag, defScope s__law_bag, [], []⟩
def d__law_take : He.DefD := ⟨("_law_take", none), "_law_take", "_law_take", defArgs s__law_take, defBody s__law_take, defScope s__law_take, [], []⟩
def d__law_some : He.DefD := ⟨("_law_some", none), "_law_some", "_law_some", defArgs s__law_some, defBody s__law_some, defScope s__law_some, [], []⟩
def d__law_mixed : He.DefD := ⟨("_law_mixed", none), "_law_mixed", "_law_mixed", defArgs s__law_mixed, defBody s__law_mixed, defScope s__law_mixed, [], []⟩
def d__law_rows : He.DefD := ⟨("_law_rows", none), "_law_rows", "_law_rows", defArgs s__law_rows, defBody s__law_rows, defScope s__law_rows, [], []⟩
def d__law_mirror : He.DefD := ⟨("_law_mirror", none), "_law_mirror", "_law_mirror", defArgs s__law_mirror, defBody s__law_mirror, defScope s__law_mirror, [], []⟩
def d__law_all_items : He.DefD := ⟨("_law_all_items", none), "_law_all_items", "_law_all_items", defArgs s__law_all_items, defBody s__law_all_items, defScope s__law_all_items, [], []⟩
def d__law_items_let : He.DefD := ⟨("_law_items_let", none), "_law_items_let", "_law_items_let", defArgs s__law_items_let, defBody s__law_items_let, defScope s__law_items_let, [], []⟩
def d__law_web : He.DefD := ⟨("_law_web", none), "_law_web", "_law_web", defArgs s__law_web, defBody s__law_web, defScope s__law_web, [], []⟩
def d__law_pairs : He.DefD := ⟨("_law_pairs", none), "_law_pairs", "_law_pairs", defArgs s__law_pairs, defBody s__law_pairs, defScope s__law_pairs, [], []⟩
def d__law_put : He.DefD := ⟨("_law_put", none), "_law_put", "_law_put", defArgs s__law_put, defBody s__law_put, defScope s__law_put, [], []⟩
def d__law_wide_menu : He.DefD := ⟨("_law_wide_menu", none), "_law_wide_menu", "_law_wide_menu", defArgs s__law_wide_menu, defBody s__law_wide_menu, defScope s__law_wide_menu, [], []⟩
def d__law_fraction : He.DefD := ⟨("_law_fraction", none), "_law_fraction", "_law_fraction", defArgs s__law_fraction, defBody s__law_fraction, defScope s__law_fraction, [], []⟩
def d__law_wide_kind : He.DefD := ⟨("_law_wide_kind", none), "_law_wide_kind", "_law_wide_kind", defArgs s__law_wide_kind, defBody s__law_wide_kind, defScope s__law_wide_kind, [], []⟩
def d__law_fault : He.DefD := ⟨("_law_fault", none), "_law_fault", "_law_fault", defArgs s__law_fault, defBody s__law_fault, defScope s__law_fault, [], []⟩
def d__law_told : He.DefD := ⟨("_law_told", none), "_law_told", "_law_told", defArgs s__law_told, defBody s__law_told, defScope s__law_told, [], []⟩
def d_law : He.DefD := ⟨("law", none), "law", "law", defArgs s_law, defBody s_law, defScope s_law, [], []⟩
def fnL0 : List He.DefD := [d_is_number, d_is_index, d_is_between, d_is_name, d_is_sized, d_is_tuple_of, d_has_divisor, d_is_fraction, d_is_share, d_is_named, d_is_tie, d_is_item, d_is_menu, d_is_kind]
def fnL1 : List He.DefD := [d_is_web, d_greatest_common, d_made, d_check_two, d_plus, d_summed, d_check_names, d_check_colours, d_fits_ties, d_plain_mirror, d_check_menu, d_couples_of, d_checked_kind, d_plain_menu]
def fnL2 : List He.DefD := [d_pair_at, d_plain_item, d_checked_web, d__law_bag, d__law_take, d__law_some, d__law_mixed, d__law_rows, d__law_mirror, d__law_all_items, d__law_items_let, d__law_web, d__law_pairs, d__law_put]
def fnL3 : List He.DefD := [d__law_wide_menu, d__law_fraction, d__law_wide_kind, d__law_fault, d__law_told, d_law]
def fnL : List He.DefD := fnL0 ++ fnL1 ++ fnL2 ++ fnL3
def faL0 : List He.Fa := [.glo "is_number", .glo "is_index", .glo "is_between", .glo "is_name", .glo "is_sized", .glo "is_tuple_of", .glo "has_divisor", .glo "is_fraction", .glo "is_share", .glo "is_named", .glo "is_tie", .glo "is_item", .glo "is_menu", .glo "is_kind"]
def faL1 : List He.Fa := [.glo "is_web", .glo "greatest_common", .glo "made", .glo "check_two", .glo "plus", .glo "summed", .glo "check_names", .glo "check_colours", .glo "fits_ties", .glo "plain_mirror", .glo "check_menu", .glo "couples_of", .glo "checked_kind", .glo "plain_menu"]
def faL2 : List He.Fa := [.glo "pair_at", .glo "plain_item", .glo "checked_web", .glo "_law_bag", .glo "_law_take", .glo "_law_some", .glo "_law_mixed", .glo "_law_rows", .glo "_law_mirror", .glo "_law_all_items", .glo "_law_items_let", .glo "_law_web", .glo "_law_pairs", .glo "_law_put"]
def faL3 : List He.Fa := [.glo "_law_wide_menu", .glo "_law_fraction", .glo "_law_wide_kind", .glo "_law_fault", .glo "_law_told", .glo "law", .glo "WebError", .glo "Faulty", .glo "BadKind", .glo "BadWeb", .glo "Nothing", .glo "TooLarge", .str "LETTERS" "abcdefghijklmnopqrstuvwxyz", .str "DIGITS" "0123456789"]
def faL4 : List He.Fa := [.int "MOST_LETTERS" 8, .int "MOST_SHARE" 20, .int "MOST_MENU" 64, .glo "RESERVED", .int "MOST_PLACES" 60, .free "ValueError", .free "abs", .free "all", .free "bool", .free "enumerate", .free "int", .free "isinstance", .free "len", .free "list"]
def faL5 : List He.Fa := [.free "max", .free "min", .free "range", .free "set", .free "sorted", .free "str", .free "sum", .free "super", .free "tuple", .free "zip"]
def faL : List He.Fa := faL0 ++ faL1 ++ faL2 ++ faL3 ++ faL4 ++ faL5
def looseL0 : List PySem.Str := ["_wall", "WebError", "Faulty", "BadKind", "BadWeb", "Nothing", "TooLarge", "LETTERS", "DIGITS", "MOST_LETTERS", "MOST_SHARE", "MOST_MENU", "RESERVED", "is_number"]
def looseL1 : List PySem.Str := ["is_index", "is_between", "is_name", "is_sized", "is_tuple_of", "has_divisor", "is_fraction", "is_share", "is_named", "is_tie", "is_item", "is_menu", "is_kind", "is_web"]
def looseL2 : List PySem.Str := ["greatest_common", "made", "check_two", "plus", "summed", "check_names", "check_colours", "fits_ties", "plain_mirror", "check_menu", "couples_of", "checked_kind", "plain_menu", "MOST_PLACES"]
def looseL3 : List PySem.Str := ["pair_at", "plain_item", "checked_web", "_law_bag", "_law_take", "_law_some", "_law_mixed", "_law_rows", "_law_mirror", "_law_all_items", "_law_items_let", "_law_web", "_law_pairs", "_law_put"]
def looseL4 : List PySem.Str := ["_law_wide_menu", "_law_fraction", "_law_wide_kind", "_law_fault", "_law_told"]
def looseL : List PySem.Str := looseL0 ++ looseL1 ++ looseL2 ++ looseL3 ++ looseL4
abbrev Top (G : Dl.Gd) : Prop := Dl.TopG G faL fnL
section
variable {G : Dl.Gd}
theorem fr_ValueError (T : Top G) : G.mg "ValueError" = none := T.free 61
theorem fr_abs (T : Top G) : G.mg "abs" = none := T.free 62
theorem fr_all (T : Top G) : G.mg "all" = none := T.free 63
theorem fr_bool (T : Top G) : G.mg "bool" = none := T.free 64
theorem fr_enumerate (T : Top G) : G.mg "enumerate" = none := T.free 65
theorem fr_int (T : Top G) : G.mg "int" = none := T.free 66
theorem fr_isinstance (T : Top G) : G.mg "isinstance" = none := T.free 67
theorem fr_len (T : Top G) : G.mg "len" = none := T.free 68
theorem fr_list (T : Top G) : G.mg "list" = none := T.free 69
theorem fr_max (T : Top G) : G.mg "max" = none := T.free 70
theorem fr_min (T : Top G) : G.mg "min" = none := T.free 71
theorem fr_range (T : Top G) : G.mg "range" = none := T.free 72
theorem fr_set (T : Top G) : G.mg "set" = none := T.free 73
theorem fr_sorted (T : Top G) : G.mg "sorted" = none := T.free 74
theorem fr_str (T : Top G) : G.mg "str" = none := T.free 75
theorem fr_sum (T : Top G) : G.mg "sum" = none := T.free 76
theorem fr_super (T : Top G) : G.mg "super" = none := T.free 77
theorem fr_tuple (T : Top G) : G.mg "tuple" = none := T.free 78
theorem fr_zip (T : Top G) : G.mg "zip" = none := T.free 79
theorem st_LETTERS (T : Top G) : ∃ t, G.mg "LETTERS" = some (.str "abcdefghijklmnopqrstuvwxyz" t) := T.str 54
theorem st_DIGITS (T : Top G) : ∃ t, G.mg "DIGITS" = some (.str "0123456789" t) := T.str 55
theorem in_MOST_LETTERS (T : Top G) : ∃ t, G.mg "MOST_LETTERS" = some (.int 8 t) := T.int 56
theorem in_MOST_SHARE (T : Top G) : ∃ t, G.mg "MOST_SHARE" = some (.int 20 t) := T.int 57
theorem in_MOST_MENU (T : Top G) : ∃ t, G.mg "MOST_MENU" = some (.int 64 t) := T.int 58
theorem in_MOST_PLACES (T : Top G) : ∃ t, G.mg "MOST_PLACES" = some (.int 60 t) := T.int 60
def N_is_number : List Str := ["thing"]
theorem sc_is_number : FnScope N_is_number ["thing"] (defScope s_is_number) := ⟨rfl, rfl, rfl, by decide +kernel, rfl, by decide +kernel, by decide +kernel⟩
theorem mk_is_number (T : Top G) {S : Dl.Spec} {k : Nat} (hl : ∀ a, (S.arg a).length = 1) (h : ∀ (cdv : Value) (M0 : List Addr) (a : S.α), S.pre a → Dl.dSs (G.fn N_is_number (defScope s_is_number) k "is_number" cdv) M0 M0 (defBody s_is_number) (Dl.startG N_is_number (S.arg a)) (S.exn a) (S.post a) fun _ _ => S.post a (.dat .none)) : Dl.Fn G (k + 1) "is_number" S :=
  T.fn_ok 0 0 (params := defArgs s_is_number) (body := defBody s_is_number) (scope := defScope s_is_number) rfl rfl sc_is_number (fun _ _ _ _ _ _ us hl => match us, hl with | [_], _ => rfl) hl h
def N_is_index : List Str := ["thing"]
theorem sc_is_index : FnScope N_is_index ["thing"] (defScope s_is_index) := ⟨rfl, rfl, rfl, by decide +kernel, rfl, by decide +kernel, by decide +kernel⟩
theorem mk_is_index (T : Top G) {S : Dl.Spec} {k : Nat} (hl : ∀ a, (S.arg a).length = 1) (h : ∀ (cdv : Value) (M0 : List Addr) (a : S.α), S.pre a → Dl.dSs (G.fn N_is_index (defScope s_is_index) k "is_index" cdv) M0 M0 (defBody s_is_index) (Dl.startG N_is_index (S.arg a)) (S.exn a) (S.post a) fun _ _ => S.post a (.dat .none)) : Dl.Fn G (k + 1) "is_index" S :=
  T.fn_ok 1 1 (params := defArgs s_is_index) (body := defBody s_is_index) (scope := defScope s_is_index) rfl rfl sc_is_index (fun _ _ _ _ _ _ us hl => match us, hl with | [_], _ => rfl) hl h
def N_is_between : List Str := ["thing", "low", "high"]
theorem sc_is_between : FnScope N_is_between ["thing", "low", "high"] (defScope s_is_between) := ⟨rfl, rfl, rfl, by decide +kernel, rfl, by decide +kernel, by decide +kernel⟩
theorem mk_is_between (T : Top G) {S : Dl.Spec} {k : Nat} (hl : ∀ a, (S.arg a).length = 3) (h : ∀ (cdv : Value) (M0 : List Addr) (a : S.α), S.pre a → Dl.dSs (G.fn N_is_between (defScope s_is_between) k "is_between" cdv) M0 M0 (defBody s_is_between) (Dl.startG N_is_between (S.arg a)) (S.exn a) (S.post a) fun _ _ => S.post a (.dat .none)) : Dl.Fn G (k + 1) "is_between" S :=
  T.fn_ok 2 2 (params := defArgs s_is_between) (body := defBody s_is_between) (scope := defScope s_is_between) rfl rfl sc_is_between (fun _ _ _ _ _ _ us hl => match us, hl with | [_, _, _], _ => rfl) hl h
def N_is_name : List Str := ["thing", "sign"]
theorem sc_is_name : FnScope N_is_name ["thing"] (defScope s_is_name) := ⟨rfl, rfl, rfl, by decide +kernel, rfl, by decide +kernel, by decide +kernel⟩
theorem mk_is_name (T : Top G) {S : Dl.Spec} {k : Nat} (hl : ∀ a, (S.arg a).length = 1) (h : ∀ (cdv : Value) (M0 : List Addr) (a : S.α), S.pre a → Dl.dSs (G.fn N_is_name (defScope s_is_name) k "is_name" cdv) M0 M0 (defBody s_is_name) (Dl.startG N_is_name (S.arg a)) (S.exn a) (S.post a) fun _ _ => S.post a (.dat .none)) : Dl.Fn G (k + 1) "is_name" S :=
  T.fn_ok 3 3 (params := defArgs s_is_name) (body := defBody s_is_name) (scope := defScope s_is_name) rfl rfl sc_is_name (fun _ _ _ _ _ _ us hl => match us, hl with | [_], _ => rfl) hl h
def N_is_sized : List Str := ["thing", "many"]
theorem sc_is_sized : FnScope N_is_sized ["thing", "many"] (defScope s_is_sized) := ⟨rfl, rfl, rfl, by decide +kernel, rfl, by decide +kernel, by decide +kernel⟩
theorem mk_is_sized (T : Top G) {S : Dl.Spec} {k : Nat} (hl : ∀ a, (S.arg a).length = 2) (h : ∀ (cdv : Value) (M0 : List Addr) (a : S.α), S.pre a → Dl.dSs (G.fn N_is_sized (defScope s_is_sized) k "is_sized" cdv) M0 M0 (defBody s_is_sized) (Dl.startG N_is_sized (S.arg a)) (S.exn a) (S.post a) fun _ _ => S.post a (.dat .none)) : Dl.Fn G (k + 1) "is_sized" S :=
  T.fn_ok 4 4 (params := defArgs s_is_sized) (body := defBody s_is_sized) (scope := defScope s_is_sized) rfl rfl sc_is_sized (fun _ _ _ _ _ _ us hl => match us, hl with | [_, _], _ => rfl) hl h
def N_is_tuple_of : List Str := ["thing", "is_one", "one"]
theorem sc_is_tuple_of : FnScope N_is_tuple_of ["thing", "is_one"] (defScope s_is_tuple_of) := ⟨rfl, rfl, rfl, by decide +kernel, rfl, by decide +kernel, by decide +kernel⟩
theorem mk_is_tuple_of (T : Top G) {S : Dl.Spec} {k : Nat} (hl : ∀ a, (S.arg a).length = 2) (h : ∀ (cdv : Value) (M0 : List Addr) (a : S.α), S.pre a → Dl.dSs (G.fn N_is_tuple_of (defScope s_is_tuple_of) k "is_tuple_of" cdv) M0 M0 (defBody s_is_tuple_of) (Dl.startG N_is_tuple_of (S.arg a)) (S.exn a) (S.post a) fun _ _ => S.post a (.dat .none)) : Dl.Fn G (k + 1) "is_tuple_of" S :=
  T.fn_ok 5 5 (params := defArgs s_is_tuple_of) (body := defBody s_is_tuple_of) (scope := defScope s_is_tuple_of) rfl rfl sc_is_tuple_of (fun _ _ _ _ _ _ us hl => match us, hl with | [_, _], _ => rfl) hl h
def N_has_divisor : List Str := ["one", "other"]
theorem sc_has_divisor : FnScope N_has_divisor ["one", "other"] (defScope s_has_divisor) := ⟨rfl, rfl, rfl, by decide +kernel, rfl, by decide +kernel, by decide +kernel⟩
theorem mk_has_divisor (T : Top G) {S : Dl.Spec} {k : Nat} (hl : ∀ a, (S.arg a).length = 2) (h : ∀ (cdv : Value) (M0 : List Addr) (a : S.α), S.pre a → Dl.dSs (G.fn N_has_divisor (defScope s_has_divisor) k "has_divisor" cdv) M0 M0 (defBody s_has_divisor) (Dl.startG N_has_divisor (S.arg a)) (S.exn a) (S.post a) fun _ _ => S.post a (.dat .none)) : Dl.Fn G (k + 1) "has_divisor" S :=
  T.fn_ok 6 6 (params := defArgs s_has_divisor) (body := defBody s_has_divisor) (scope := defScope s_has_divisor) rfl rfl sc_has_divisor (fun _ _ _ _ _ _ us hl => match us, hl with | [_, _], _ => rfl) hl h
def N_is_fraction : List Str := ["thing"]
theorem sc_is_fraction : FnScope N_is_fraction ["thing"] (defScope s_is_fraction) := ⟨rfl, rfl, rfl, by decide +kernel, rfl, by decide +kernel, by decide +kernel⟩
theorem mk_is_fraction (T : Top G) {S : Dl.Spec} {k : Nat} (hl : ∀ a, (S.arg a).length = 1) (h : ∀ (cdv : Value) (M0 : List Addr) (a : S.α), S.pre a → Dl.dSs (G.fn N_is_fraction (defScope s_is_fraction) k "is_fraction" cdv) M0 M0 (defBody s_is_fraction) (Dl.startG N_is_fraction (S.arg a)) (S.exn a) (S.post a) fun _ _ => S.post a (.dat .none)) : Dl.Fn G (k + 1) "is_fraction" S :=
  T.fn_ok 7 7 (params := defArgs s_is_fraction) (body := defBody s_is_fraction) (scope := defScope s_is_fraction) rfl rfl sc_is_fraction (fun _ _ _ _ _ _ us hl => match us, hl with | [_], _ => rfl) hl h
def N_is_share : List Str := ["thing"]
theorem sc_is_share : FnScope N_is_share ["thing"] (defScope s_is_share) := ⟨rfl, rfl, rfl, by decide +kernel, rfl, by decide +kernel, by decide +kernel⟩
theorem mk_is_share (T : Top G) {S : Dl.Spec} {k : Nat} (hl : ∀ a, (S.arg a).length = 1) (h : ∀ (cdv : Value) (M0 : List Addr) (a : S.α), S.pre a → Dl.dSs (G.fn N_is_share (defScope s_is_share) k "is_share" cdv) M0 M0 (defBody s_is_share) (Dl.startG N_is_share (S.arg a)) (S.exn a) (S.post a) fun _ _ => S.post a (.dat .none)) : Dl.Fn G (k + 1) "is_share" S :=
  T.fn_ok 8 8 (params := defArgs s_is_share) (body := defBody s_is_share) (scope := defScope s_is_share) rfl rfl sc_is_share (fun _ _ _ _ _ _ us hl => match us, hl with | [_], _ => rfl) hl h
def N_is_named : List Str := ["thing"]
theorem sc_is_named : FnScope N_is_named ["thing"] (defScope s_is_named) := ⟨rfl, rfl, rfl, by decide +kernel, rfl, by decide +kernel, by decide +kernel⟩
theorem mk_is_named (T : Top G) {S : Dl.Spec} {k : Nat} (hl : ∀ a, (S.arg a).length = 1) (h : ∀ (cdv : Value) (M0 : List Addr) (a : S.α), S.pre a → Dl.dSs (G.fn N_is_named (defScope s_is_named) k "is_named" cdv) M0 M0 (defBody s_is_named) (Dl.startG N_is_named (S.arg a)) (S.exn a) (S.post a) fun _ _ => S.post a (.dat .none)) : Dl.Fn G (k + 1) "is_named" S :=
  T.fn_ok 9 9 (params := defArgs s_is_named) (body := defBody s_is_named) (scope := defScope s_is_named) rfl rfl sc_is_named (fun _ _ _ _ _ _ us hl => match us, hl with | [_], _ => rfl) hl h
def N_is_tie : List Str := ["thing"]
theorem sc_is_tie : FnScope N_is_tie ["thing"] (defScope s_is_tie) := ⟨rfl, rfl, rfl, by decide +kernel, rfl, by decide +kernel, by decide +kernel⟩
theorem mk_is_tie (T : Top G) {S : Dl.Spec} {k : Nat} (hl : ∀ a, (S.arg a).length = 1) (h : ∀ (cdv : Value) (M0 : List Addr) (a : S.α), S.pre a → Dl.dSs (G.fn N_is_tie (defScope s_is_tie) k "is_tie" cdv) M0 M0 (defBody s_is_tie) (Dl.startG N_is_tie (S.arg a)) (S.exn a) (S.post a) fun _ _ => S.post a (.dat .none)) : Dl.Fn G (k + 1) "is_tie" S :=
  T.fn_ok 10 10 (params := defArgs s_is_tie) (body := defBody s_is_tie) (scope := defScope s_is_tie) rfl rfl sc_is_tie (fun _ _ _ _ _ _ us hl => match us, hl with | [_], _ => rfl) hl h
def N_is_item : List Str := ["thing"]
theorem sc_is_item : FnScope N_is_item ["thing"] (defScope s_is_item) := ⟨rfl, rfl, rfl, by decide +kernel, rfl, by decide +kernel, by decide +kernel⟩
theorem mk_is_item (T : Top G) {S : Dl.Spec} {k : Nat} (hl : ∀ a, (S.arg a).length = 1) (h : ∀ (cdv : Value) (M0 : List Addr) (a : S.α), S.pre a → Dl.dSs (G.fn N_is_item (defScope s_is_item) k "is_item" cdv) M0 M0 (defBody s_is_item) (Dl.startG N_is_item (S.arg a)) (S.exn a) (S.post a) fun _ _ => S.post a (.dat .none)) : Dl.Fn G (k + 1) "is_item" S :=
  T.fn_ok 11 11 (params := defArgs s_is_item) (body := defBody s_is_item) (scope := defScope s_is_item) rfl rfl sc_is_item (fun _ _ _ _ _ _ us hl => match us, hl with | [_], _ => rfl) hl h
def N_is_menu : List Str := ["thing"]
theorem sc_is_menu : FnScope N_is_menu ["thing"] (defScope s_is_menu) := ⟨rfl, rfl, rfl, by decide +kernel, rfl, by decide +kernel, by decide +kernel⟩
theorem mk_is_menu (T : Top G) {S : Dl.Spec} {k : Nat} (hl : ∀ a, (S.arg a).length = 1) (h : ∀ (cdv : Value) (M0 : List Addr) (a : S.α), S.pre a → Dl.dSs (G.fn N_is_menu (defScope s_is_menu) k "is_menu" cdv) M0 M0 (defBody s_is_menu) (Dl.startG N_is_menu (S.arg a)) (S.exn a) (S.post a) fun _ _ => S.post a (.dat .none)) : Dl.Fn G (k + 1) "is_menu" S :=
  T.fn_ok 12 12 (params := defArgs s_is_menu) (body := defBody s_is_menu) (scope := defScope s_is_menu) rfl rfl sc_is_menu (fun _ _ _ _ _ _ us hl => match us, hl with | [_], _ => rfl) hl h
def N_is_kind : List Str := ["thing"]
theorem sc_is_kind : FnScope N_is_kind ["thing"] (defScope s_is_kind) := ⟨rfl, rfl, rfl, by decide +kernel, rfl, by decide +kernel, by decide +kernel⟩
theorem mk_is_kind (T : Top G) {S : Dl.Spec} {k : Nat} (hl : ∀ a, (S.arg a).length = 1) (h : ∀ (cdv : Value) (M0 : List Addr) (a : S.α), S.pre a → Dl.dSs (G.fn N_is_kind (defScope s_is_kind) k "is_kind" cdv) M0 M0 (defBody s_is_kind) (Dl.startG N_is_kind (S.arg a)) (S.exn a) (S.post a) fun _ _ => S.post a (.dat .none)) : Dl.Fn G (k + 1) "is_kind" S :=
  T.fn_ok 13 13 (params := defArgs s_is_kind) (body := defBody s_is_kind) (scope := defScope s_is_kind) rfl rfl sc_is_kind (fun _ _ _ _ _ _ us hl => match us, hl with | [_], _ => rfl) hl h
def N_is_web : List Str := ["thing"]
theorem sc_is_web : FnScope N_is_web ["thing"] (defScope s_is_web) := ⟨rfl, rfl, rfl, by decide +kernel, rfl, by decide +kernel, by decide +kernel⟩
theorem mk_is_web (T : Top G) {S : Dl.Spec} {k : Nat} (hl : ∀ a, (S.arg a).length = 1) (h : ∀ (cdv : Value) (M0 : List Addr) (a : S.α), S.pre a → Dl.dSs (G.fn N_is_web (defScope s_is_web) k "is_web" cdv) M0 M0 (defBody s_is_web) (Dl.startG N_is_web (S.arg a)) (S.exn a) (S.post a) fun _ _ => S.post a (.dat .none)) : Dl.Fn G (k + 1) "is_web" S :=
  T.fn_ok 14 14 (params := defArgs s_is_web) (body := defBody s_is_web) (scope := defScope s_is_web) rfl rfl sc_is_web (fun _ _ _ _ _ _ us hl => match us, hl with | [_], _ => rfl) hl h
def N_greatest_common : List Str := ["one", "other"]
theorem sc_greatest_common : FnScope N_greatest_common ["one", "other"] (defScope s_greatest_common) := ⟨rfl, rfl, rfl, by decide +kernel, rfl, by decide +kernel, by decide +kernel⟩
theorem mk_greatest_common (T : Top G) {S : Dl.Spec} {k : Nat} (hl : ∀ a, (S.arg a).length = 2) (h : ∀ (cdv : Value) (M0 : List Addr) (a : S.α), S.pre a → Dl.dSs (G.fn N_greatest_common (defScope s_greatest_common) k "greatest_common" cdv) M0 M0 (defBody s_greatest_common) (Dl.startG N_greatest_common (S.arg a)) (S.exn a) (S.post a) fun _ _ => S.post a (.dat .none)) : Dl.Fn G (k + 1) "greatest_common" S :=
  T.fn_ok 15 15 (params := defArgs s_greatest_common) (body := defBody s_greatest_common) (scope := defScope s_greatest_common) rfl rfl sc_greatest_common (fun _ _ _ _ _ _ us hl => match us, hl with | [_, _], _ => rfl) hl h
def N_made : List Str := ["top", "below", "by"]
theorem sc_made : FnScope N_made ["top", "below"] (defScope s_made) := ⟨rfl, rfl, rfl, by decide +kernel, rfl, by decide +kernel, by decide +kernel⟩
theorem mk_made (T : Top G) {S : Dl.Spec} {k : Nat} (hl : ∀ a, (S.arg a).length = 2) (h : ∀ (cdv : Value) (M0 : List Addr) (a : S.α), S.pre a → Dl.dSs (G.fn N_made (defScope s_made) k "made" cdv) M0 M0 (defBody s_made) (Dl.startG N_made (S.arg a)) (S.exn a) (S.post a) fun _ _ => S.post a (.dat .none)) : Dl.Fn G (k + 1) "made" S :=
  T.fn_ok 16 16 (params := defArgs s_made) (body := defBody s_made) (scope := defScope s_made) rfl rfl sc_made (fun _ _ _ _ _ _ us hl => match us, hl with | [_, _], _ => rfl) hl h
def N_check_two : List Str := ["one", "other"]
theorem sc_check_two : FnScope N_check_two ["one", "other"] (defScope s_check_two) := ⟨rfl, rfl, rfl, by decide +kernel, rfl, by decide +kernel, by decide +kernel⟩
theorem mk_check_two (T : Top G) {S : Dl.Spec} {k : Nat} (hl : ∀ a, (S.arg a).length = 2) (h : ∀ (cdv : Value) (M0 : List Addr) (a : S.α), S.pre a → Dl.dSs (G.fn N_check_two (defScope s_check_two) k "check_two" cdv) M0 M0 (defBody s_check_two) (Dl.startG N_check_two (S.arg a)) (S.exn a) (S.post a) fun _ _ => S.post a (.dat .none)) : Dl.Fn G (k + 1) "check_two" S :=
  T.fn_ok 17 17 (params := defArgs s_check_two) (body := defBody s_check_two) (scope := defScope s_check_two) rfl rfl sc_check_two (fun _ _ _ _ _ _ us hl => match us, hl with | [_, _], _ => rfl) hl h
def N_plus : List Str := ["one", "other"]
theorem sc_plus : FnScope N_plus ["one", "other"] (defScope s_plus) := ⟨rfl, rfl, rfl, by decide +kernel, rfl, by decide +kernel, by decide +kernel⟩
theorem mk_plus (T : Top G) {S : Dl.Spec} {k : Nat} (hl : ∀ a, (S.arg a).length = 2) (h : ∀ (cdv : Value) (M0 : List Addr) (a : S.α), S.pre a → Dl.dSs (G.fn N_plus (defScope s_plus) k "plus" cdv) M0 M0 (defBody s_plus) (Dl.startG N_plus (S.arg a)) (S.exn a) (S.post a) fun _ _ => S.post a (.dat .none)) : Dl.Fn G (k + 1) "plus" S :=
  T.fn_ok 18 18 (params := defArgs s_plus) (body := defBody s_plus) (scope := defScope s_plus) rfl rfl sc_plus (fun _ _ _ _ _ _ us hl => match us, hl with | [_, _], _ => rfl) hl h
def N_summed : List Str := ["some", "found", "one"]
theorem sc_summed : FnScope N_summed ["some"] (defScope s_summed) := ⟨rfl, rfl, rfl, by decide +kernel, rfl, by decide +kernel, by decide +kernel⟩
theorem mk_summed (T : Top G) {S : Dl.Spec} {k : Nat} (hl : ∀ a, (S.arg a).length = 1) (h : ∀ (cdv : Value) (M0 : List Addr) (a : S.α), S.pre a → Dl.dSs (G.fn N_summed (defScope s_summed) k "summed" cdv) M0 M0 (defBody s_summed) (Dl.startG N_summed (S.arg a)) (S.exn a) (S.post a) fun _ _ => S.post a (.dat .none)) : Dl.Fn G (k + 1) "summed" S :=
  T.fn_ok 19 19 (params := defArgs s_summed) (body := defBody s_summed) (scope := defScope s_summed) rfl rfl sc_summed (fun _ _ _ _ _ _ us hl => match us, hl with | [_], _ => rfl) hl h
def N_check_names : List Str := ["named", "word", "at", "one", "its"]
theorem sc_check_names : FnScope N_check_names ["named", "word"] (defScope s_check_names) := ⟨rfl, rfl, rfl, by decide +kernel, rfl, by decide +kernel, by decide +kernel⟩
theorem mk_check_names (T : Top G) {S : Dl.Spec} {k : Nat} (hl : ∀ a, (S.arg a).length = 2) (h : ∀ (cdv : Value) (M0 : List Addr) (a : S.α), S.pre a → Dl.dSs (G.fn N_check_names (defScope s_check_names) k "check_names" cdv) M0 M0 (defBody s_check_names) (Dl.startG N_check_names (S.arg a)) (S.exn a) (S.post a) fun _ _ => S.post a (.dat .none)) : Dl.Fn G (k + 1) "check_names" S :=
  T.fn_ok 20 20 (params := defArgs s_check_names) (body := defBody s_check_names) (scope := defScope s_check_names) rfl rfl sc_check_names (fun _ _ _ _ _ _ us hl => match us, hl with | [_, _], _ => rfl) hl h
def N_check_colours : List Str := ["colours", "at", "name", "share", "its"]
theorem sc_check_colours : FnScope N_check_colours ["colours"] (defScope s_check_colours) := ⟨rfl, rfl, rfl, by decide +kernel, rfl, by decide +kernel, by decide +kernel⟩
theorem mk_check_colours (T : Top G) {S : Dl.Spec} {k : Nat} (hl : ∀ a, (S.arg a).length = 1) (h : ∀ (cdv : Value) (M0 : List Addr) (a : S.α), S.pre a → Dl.dSs (G.fn N_check_colours (defScope s_check_colours) k "check_colours" cdv) M0 M0 (defBody s_check_colours) (Dl.startG N_check_colours (S.arg a)) (S.exn a) (S.post a) fun _ _ => S.post a (.dat .none)) : Dl.Fn G (k + 1) "check_colours" S :=
  T.fn_ok 21 21 (params := defArgs s_check_colours) (body := defBody s_check_colours) (scope := defScope s_check_colours) rfl rfl sc_check_colours (fun _ _ _ _ _ _ us hl => match us, hl with | [_], _ => rfl) hl h
def N_fits_ties : List Str := ["ties", "item", "number", "name", "way"]
theorem sc_fits_ties : FnScope N_fits_ties ["ties", "item"] (defScope s_fits_ties) := ⟨rfl, rfl, rfl, by decide +kernel, rfl, by decide +kernel, by decide +kernel⟩
theorem mk_fits_ties (T : Top G) {S : Dl.Spec} {k : Nat} (hl : ∀ a, (S.arg a).length = 2) (h : ∀ (cdv : Value) (M0 : List Addr) (a : S.α), S.pre a → Dl.dSs (G.fn N_fits_ties (defScope s_fits_ties) k "fits_ties" cdv) M0 M0 (defBody s_fits_ties) (Dl.startG N_fits_ties (S.arg a)) (S.exn a) (S.post a) fun _ _ => S.post a (.dat .none)) : Dl.Fn G (k + 1) "fits_ties" S :=
  T.fn_ok 22 22 (params := defArgs s_fits_ties) (body := defBody s_fits_ties) (scope := defScope s_fits_ties) rfl rfl sc_fits_ties (fun _ _ _ _ _ _ us hl => match us, hl with | [_, _], _ => rfl) hl h
def N_plain_mirror : List Str := ["ties", "item", "turned", "number", "name", "way"]
theorem sc_plain_mirror : FnScope N_plain_mirror ["ties", "item"] (defScope s_plain_mirror) := ⟨rfl, rfl, rfl, by decide +kernel, rfl, by decide +kernel, by decide +kernel⟩
theorem mk_plain_mirror (T : Top G) {S : Dl.Spec} {k : Nat} (hl : ∀ a, (S.arg a).length = 2) (h : ∀ (cdv : Value) (M0 : List Addr) (a : S.α), S.pre a → Dl.dSs (G.fn N_plain_mirror (defScope s_plain_mirror) k "plain_mirror" cdv) M0 M0 (defBody s_plain_mirror) (Dl.startG N_plain_mirror (S.arg a)) (S.exn a) (S.post a) fun _ _ => S.post a (.dat .none)) : Dl.Fn G (k + 1) "plain_mirror" S :=
  T.fn_ok 23 23 (params := defArgs s_plain_mirror) (body := defBody s_plain_mirror) (scope := defScope s_plain_mirror) rfl rfl sc_plain_mirror (fun _ _ _ _ _ _ us hl => match us, hl with | [_, _], _ => rfl) hl h
def N_check_menu : List Str := ["kind", "where", "menu", "is_own", "items", "ascends", "item", "share", "one", "other"]
theorem sc_check_menu : FnScope N_check_menu ["kind", "where", "menu", "is_own"] (defScope s_check_menu) := ⟨rfl, rfl, rfl, by decide +kernel, rfl, by decide +kernel, by decide +kernel⟩
theorem mk_check_menu (T : Top G) {S : Dl.Spec} {k : Nat} (hl : ∀ a, (S.arg a).length = 4) (h : ∀ (cdv : Value) (M0 : List Addr) (a : S.α), S.pre a → Dl.dSs (G.fn N_check_menu (defScope s_check_menu) k "check_menu" cdv) M0 M0 (defBody s_check_menu) (Dl.startG N_check_menu (S.arg a)) (S.exn a) (S.post a) fun _ _ => S.post a (.dat .none)) : Dl.Fn G (k + 1) "check_menu" S :=
  T.fn_ok 24 24 (params := defArgs s_check_menu) (body := defBody s_check_menu) (scope := defScope s_check_menu) rfl rfl sc_check_menu (fun _ _ _ _ _ _ us hl => match us, hl with | [_, _, _, _], _ => rfl) hl h
def N_couples_of : List Str := ["many", "one", "other"]
theorem sc_couples_of : FnScope N_couples_of ["many"] (defScope s_couples_of) := ⟨rfl, rfl, rfl, by decide +kernel, rfl, by decide +kernel, by decide +kernel⟩
theorem mk_couples_of (T : Top G) {S : Dl.Spec} {k : Nat} (hl : ∀ a, (S.arg a).length = 1) (h : ∀ (cdv : Value) (M0 : List Addr) (a : S.α), S.pre a → Dl.dSs (G.fn N_couples_of (defScope s_couples_of) k "couples_of" cdv) M0 M0 (defBody s_couples_of) (Dl.startG N_couples_of (S.arg a)) (S.exn a) (S.post a) fun _ _ => S.post a (.dat .none)) : Dl.Fn G (k + 1) "couples_of" S :=
  T.fn_ok 25 25 (params := defArgs s_couples_of) (body := defBody s_couples_of) (scope := defScope s_couples_of) rfl rfl sc_couples_of (fun _ _ _ _ _ _ us hl => match us, hl with | [_], _ => rfl) hl h
def N_checked_kind : List Str := ["thing", "one", "other", "menu"]
theorem sc_checked_kind : FnScope N_checked_kind ["thing"] (defScope s_checked_kind) := ⟨rfl, rfl, rfl, by decide +kernel, rfl, by decide +kernel, by decide +kernel⟩
theorem mk_checked_kind (T : Top G) {S : Dl.Spec} {k : Nat} (hl : ∀ a, (S.arg a).length = 1) (h : ∀ (cdv : Value) (M0 : List Addr) (a : S.α), S.pre a → Dl.dSs (G.fn N_checked_kind (defScope s_checked_kind) k "checked_kind" cdv) M0 M0 (defBody s_checked_kind) (Dl.startG N_checked_kind (S.arg a)) (S.exn a) (S.post a) fun _ _ => S.post a (.dat .none)) : Dl.Fn G (k + 1) "checked_kind" S :=
  T.fn_ok 26 26 (params := defArgs s_checked_kind) (body := defBody s_checked_kind) (scope := defScope s_checked_kind) rfl rfl sc_checked_kind (fun _ _ _ _ _ _ us hl => match us, hl with | [_], _ => rfl) hl h
def N_plain_menu : List Str := ["kind", "one", "other", "menu", "item", "share"]
theorem sc_plain_menu : FnScope N_plain_menu ["kind", "one", "other"] (defScope s_plain_menu) := ⟨rfl, rfl, rfl, by decide +kernel, rfl, by decide +kernel, by decide +kernel⟩
theorem mk_plain_menu (T : Top G) {S : Dl.Spec} {k : Nat} (hl : ∀ a, (S.arg a).length = 3) (h : ∀ (cdv : Value) (M0 : List Addr) (a : S.α), S.pre a → Dl.dSs (G.fn N_plain_menu (defScope s_plain_menu) k "plain_menu" cdv) M0 M0 (defBody s_plain_menu) (Dl.startG N_plain_menu (S.arg a)) (S.exn a) (S.post a) fun _ _ => S.post a (.dat .none)) : Dl.Fn G (k + 1) "plain_menu" S :=
  T.fn_ok 27 27 (params := defArgs s_plain_menu) (body := defBody s_plain_menu) (scope := defScope s_plain_menu) rfl rfl sc_plain_menu (fun _ _ _ _ _ _ us hl => match us, hl with | [_, _, _], _ => rfl) hl h
def N_pair_at : List Str := ["many", "one", "other"]
theorem sc_pair_at : FnScope N_pair_at ["many", "one", "other"] (defScope s_pair_at) := ⟨rfl, rfl, rfl, by decide +kernel, rfl, by decide +kernel, by decide +kernel⟩
theorem mk_pair_at (T : Top G) {S : Dl.Spec} {k : Nat} (hl : ∀ a, (S.arg a).length = 3) (h : ∀ (cdv : Value) (M0 : List Addr) (a : S.α), S.pre a → Dl.dSs (G.fn N_pair_at (defScope s_pair_at) k "pair_at" cdv) M0 M0 (defBody s_pair_at) (Dl.startG N_pair_at (S.arg a)) (S.exn a) (S.post a) fun _ _ => S.post a (.dat .none)) : Dl.Fn G (k + 1) "pair_at" S :=
  T.fn_ok 28 28 (params := defArgs s_pair_at) (body := defBody s_pair_at) (scope := defScope s_pair_at) rfl rfl sc_pair_at (fun _ _ _ _ _ _ us hl => match us, hl with | [_, _, _], _ => rfl) hl h
def N_plain_item : List Str := ["kind", "web", "one", "other"]
theorem sc_plain_item : FnScope N_plain_item ["kind", "web", "one", "other"] (defScope s_plain_item) := ⟨rfl, rfl, rfl, by decide +kernel, rfl, by decide +kernel, by decide +kernel⟩
theorem mk_plain_item (T : Top G) {S : Dl.Spec} {k : Nat} (hl : ∀ a, (S.arg a).length = 4) (h : ∀ (cdv : Value) (M0 : List Addr) (a : S.α), S.pre a → Dl.dSs (G.fn N_plain_item (defScope s_plain_item) k "plain_item" cdv) M0 M0 (defBody s_plain_item) (Dl.startG N_plain_item (S.arg a)) (S.exn a) (S.post a) fun _ _ => S.post a (.dat .none)) : Dl.Fn G (k + 1) "plain_item" S :=
  T.fn_ok 29 29 (params := defArgs s_plain_item) (body := defBody s_plain_item) (scope := defScope s_plain_item) rfl rfl sc_plain_item (fun _ _ _ _ _ _ us hl => match us, hl with | [_, _, _, _], _ => rfl) hl h
def N_checked_web : List Str := ["kind", "thing", "place", "colour", "one", "other", "menu", "item", "share"]
theorem sc_checked_web : FnScope N_checked_web ["kind", "thing"] (defScope s_checked_web) := ⟨rfl, rfl, rfl, by decide +kernel, rfl, by decide +kernel, by decide +kernel⟩
theorem mk_checked_web (T : Top G) {S : Dl.Spec} {k : Nat} (hl : ∀ a, (S.arg a).length = 2) (h : ∀ (cdv : Value) (M0 : List Addr) (a : S.α), S.pre a → Dl.dSs (G.fn N_checked_web (defScope s_checked_web) k "checked_web" cdv) M0 M0 (defBody s_checked_web) (Dl.startG N_checked_web (S.arg a)) (S.exn a) (S.post a) fun _ _ => S.post a (.dat .none)) : Dl.Fn G (k + 1) "checked_web" S :=
  T.fn_ok 30 30 (params := defArgs s_checked_web) (body := defBody s_checked_web) (scope := defScope s_checked_web) rfl rfl sc_checked_web (fun _ _ _ _ _ _ us hl => match us, hl with | [_, _], _ => rfl) hl h
def N__law_bag : List Str := ["script", "cell"]
theorem sc__law_bag : FnScope N__law_bag ["script"] (defScope s__law_bag) := ⟨rfl, rfl, rfl, by decide +kernel, rfl, by decide +kernel, by decide +kernel⟩
theorem mk__law_bag (T : Top G) {S : Dl.Spec} {k : Nat} (hl : ∀ a, (S.arg a).length = 1) (h : ∀ (cdv : Value) (M0 : List Addr) (a : S.α), S.pre a → Dl.dSs (G.fn N__law_bag (defScope s__law_bag) k "_law_bag" cdv) M0 M0 (defBody s__law_bag) (Dl.startG N__law_bag (S.arg a)) (S.exn a) (S.post a) fun _ _ => S.post a (.dat .none)) : Dl.Fn G (k + 1) "_law_bag" S :=
  T.fn_ok 31 31 (params := defArgs s__law_bag) (body := defBody s__law_bag) (scope := defScope s__law_bag) rfl rfl sc__law_bag (fun _ _ _ _ _ _ us hl => match us, hl with | [_], _ => rfl) hl h
def N__law_take : List Str := ["bag", "many", "cell", "stirred", "drawn", "begin", "second"]
theorem sc__law_take : FnScope N__law_take ["bag", "many"] (defScope s__law_take) := ⟨rfl, rfl, rfl, by decide +kernel, rfl, by decide +kernel, by decide +kernel⟩
theorem mk__law_take (T : Top G) {S : Dl.Spec} {k : Nat} (hl : ∀ a, (S.arg a).length = 2) (h : ∀ (cdv : Value) (M0 : List Addr) (a : S.α), S.pre a → Dl.dSs (G.fn N__law_take (defScope s__law_take) k "_law_take" cdv) M0 M0 (defBody s__law_take) (Dl.startG N__law_take (S.arg a)) (S.exn a) (S.post a) fun _ _ => S.post a (.dat .none)) : Dl.Fn G (k + 1) "_law_take" S :=
  T.fn_ok 32 32 (params := defArgs s__law_take) (body := defBody s__law_take) (scope := defScope s__law_take) rfl rfl sc__law_take (fun _ _ _ _ _ _ us hl => match us, hl with | [_, _], _ => rfl) hl h
def N__law_some : List Str := ["bag", "things"]
theorem sc__law_some : FnScope N__law_some ["bag", "things"] (defScope s__law_some) := ⟨rfl, rfl, rfl, by decide +kernel, rfl, by decide +kernel, by decide +kernel⟩
theorem mk__law_some (T : Top G) {S : Dl.Spec} {k : Nat} (hl : ∀ a, (S.arg a).length = 2) (h : ∀ (cdv : Value) (M0 : List Addr) (a : S.α), S.pre a → Dl.dSs (G.fn N__law_some (defScope s__law_some) k "_law_some" cdv) M0 M0 (defBody s__law_some) (Dl.startG N__law_some (S.arg a)) (S.exn a) (S.post a) fun _ _ => S.post a (.dat .none)) : Dl.Fn G (k + 1) "_law_some" S :=
  T.fn_ok 33 33 (params := defArgs s__law_some) (body := defBody s__law_some) (scope := defScope s__law_some) rfl rfl sc__law_some (fun _ _ _ _ _ _ us hl => match us, hl with | [_, _], _ => rfl) hl h
def N__law_mixed : List Str := ["bag", "things", "found", "thing"]
theorem sc__law_mixed : FnScope N__law_mixed ["bag", "things"] (defScope s__law_mixed) := ⟨rfl, rfl, rfl, by decide +kernel, rfl, by decide +kernel, by decide +kernel⟩
theorem mk__law_mixed (T : Top G) {S : Dl.Spec} {k : Nat} (hl : ∀ a, (S.arg a).length = 2) (h : ∀ (cdv : Value) (M0 : List Addr) (a : S.α), S.pre a → Dl.dSs (G.fn N__law_mixed (defScope s__law_mixed) k "_law_mixed" cdv) M0 M0 (defBody s__law_mixed) (Dl.startG N__law_mixed (S.arg a)) (S.exn a) (S.post a) fun _ _ => S.post a (.dat .none)) : Dl.Fn G (k + 1) "_law_mixed" S :=
  T.fn_ok 34 34 (params := defArgs s__law_mixed) (body := defBody s__law_mixed) (scope := defScope s__law_mixed) rfl rfl sc__law_mixed (fun _ _ _ _ _ _ us hl => match us, hl with | [_, _], _ => rfl) hl h
def N__law_rows : List Str := ["many", "size", "found", "lap", "row", "place"]
theorem sc__law_rows : FnScope N__law_rows ["many", "size"] (defScope s__law_rows) := ⟨rfl, rfl, rfl, by decide +kernel, rfl, by decide +kernel, by decide +kernel⟩
theorem mk__law_rows (T : Top G) {S : Dl.Spec} {k : Nat} (hl : ∀ a, (S.arg a).length = 2) (h : ∀ (cdv : Value) (M0 : List Addr) (a : S.α), S.pre a → Dl.dSs (G.fn N__law_rows (defScope s__law_rows) k "_law_rows" cdv) M0 M0 (defBody s__law_rows) (Dl.startG N__law_rows (S.arg a)) (S.exn a) (S.post a) fun _ _ => S.post a (.dat .none)) : Dl.Fn G (k + 1) "_law_rows" S :=
  T.fn_ok 35 35 (params := defArgs s__law_rows) (body := defBody s__law_rows) (scope := defScope s__law_rows) rfl rfl sc__law_rows (fun _ _ _ _ _ _ us hl => match us, hl with | [_, _], _ => rfl) hl h
def N__law_mirror : List Str := ["ties", "item", "number", "name", "way"]
theorem sc__law_mirror : FnScope N__law_mirror ["ties", "item"] (defScope s__law_mirror) := ⟨rfl, rfl, rfl, by decide +kernel, rfl, by decide +kernel, by decide +kernel⟩
theorem mk__law_mirror (T : Top G) {S : Dl.Spec} {k : Nat} (hl : ∀ a, (S.arg a).length = 2) (h : ∀ (cdv : Value) (M0 : List Addr) (a : S.α), S.pre a → Dl.dSs (G.fn N__law_mirror (defScope s__law_mirror) k "_law_mirror" cdv) M0 M0 (defBody s__law_mirror) (Dl.startG N__law_mirror (S.arg a)) (S.exn a) (S.post a) fun _ _ => S.post a (.dat .none)) : Dl.Fn G (k + 1) "_law_mirror" S :=
  T.fn_ok 36 36 (params := defArgs s__law_mirror) (body := defBody s__law_mirror) (scope := defScope s__law_mirror) rfl rfl sc__law_mirror (fun _ _ _ _ _ _ us hl => match us, hl with | [_, _], _ => rfl) hl h
def N__law_all_items : List Str := ["ties", "found", "name", "way", "item", "number"]
theorem sc__law_all_items : FnScope N__law_all_items ["ties"] (defScope s__law_all_items) := ⟨rfl, rfl, rfl, by decide +kernel, rfl, by decide +kernel, by decide +kernel⟩
theorem mk__law_all_items (T : Top G) {S : Dl.Spec} {k : Nat} (hl : ∀ a, (S.arg a).length = 1) (h : ∀ (cdv : Value) (M0 : List Addr) (a : S.α), S.pre a → Dl.dSs (G.fn N__law_all_items (defScope s__law_all_items) k "_law_all_items" cdv) M0 M0 (defBody s__law_all_items) (Dl.startG N__law_all_items (S.arg a)) (S.exn a) (S.post a) fun _ _ => S.post a (.dat .none)) : Dl.Fn G (k + 1) "_law_all_items" S :=
  T.fn_ok 37 37 (params := defArgs s__law_all_items) (body := defBody s__law_all_items) (scope := defScope s__law_all_items) rfl rfl sc__law_all_items (fun _ _ _ _ _ _ us hl => match us, hl with | [_], _ => rfl) hl h
def N__law_items_let : List Str := ["kind", "one", "other", "low", "high", "at", "items", "item", "share", "k", "j"]
theorem sc__law_items_let : FnScope N__law_items_let ["kind", "one", "other"] (defScope s__law_items_let) := ⟨rfl, rfl, rfl, by decide +kernel, rfl, by decide +kernel, by decide +kernel⟩
theorem mk__law_items_let (T : Top G) {S : Dl.Spec} {k : Nat} (hl : ∀ a, (S.arg a).length = 3) (h : ∀ (cdv : Value) (M0 : List Addr) (a : S.α), S.pre a → Dl.dSs (G.fn N__law_items_let (defScope s__law_items_let) k "_law_items_let" cdv) M0 M0 (defBody s__law_items_let) (Dl.startG N__law_items_let (S.arg a)) (S.exn a) (S.post a) fun _ _ => S.post a (.dat .none)) : Dl.Fn G (k + 1) "_law_items_let" S :=
  T.fn_ok 38 38 (params := defArgs s__law_items_let) (body := defBody s__law_items_let) (scope := defScope s__law_items_let) rfl rfl sc__law_items_let (fun _ _ _ _ _ _ us hl => match us, hl with | [_, _, _], _ => rfl) hl h
def N__law_web : List Str := ["bag", "kind", "many", "colours", "items", "one", "other", "place"]
theorem sc__law_web : FnScope N__law_web ["bag", "kind", "many"] (defScope s__law_web) := ⟨rfl, rfl, rfl, by decide +kernel, rfl, by decide +kernel, by decide +kernel⟩
theorem mk__law_web (T : Top G) {S : Dl.Spec} {k : Nat} (hl : ∀ a, (S.arg a).length = 3) (h : ∀ (cdv : Value) (M0 : List Addr) (a : S.α), S.pre a → Dl.dSs (G.fn N__law_web (defScope s__law_web) k "_law_web" cdv) M0 M0 (defBody s__law_web) (Dl.startG N__law_web (S.arg a)) (S.exn a) (S.post a) fun _ _ => S.post a (.dat .none)) : Dl.Fn G (k + 1) "_law_web" S :=
  T.fn_ok 39 39 (params := defArgs s__law_web) (body := defBody s__law_web) (scope := defScope s__law_web) rfl rfl sc__law_web (fun _ _ _ _ _ _ us hl => match us, hl with | [_, _, _], _ => rfl) hl h
def N__law_pairs : List Str := ["many", "one", "other"]
theorem sc__law_pairs : FnScope N__law_pairs ["many"] (defScope s__law_pairs) := ⟨rfl, rfl, rfl, by decide +kernel, rfl, by decide +kernel, by decide +kernel⟩
theorem mk__law_pairs (T : Top G) {S : Dl.Spec} {k : Nat} (hl : ∀ a, (S.arg a).length = 1) (h : ∀ (cdv : Value) (M0 : List Addr) (a : S.α), S.pre a → Dl.dSs (G.fn N__law_pairs (defScope s__law_pairs) k "_law_pairs" cdv) M0 M0 (defBody s__law_pairs) (Dl.startG N__law_pairs (S.arg a)) (S.exn a) (S.post a) fun _ _ => S.post a (.dat .none)) : Dl.Fn G (k + 1) "_law_pairs" S :=
  T.fn_ok 40 40 (params := defArgs s__law_pairs) (body := defBody s__law_pairs) (scope := defScope s__law_pairs) rfl rfl sc__law_pairs (fun _ _ _ _ _ _ us hl => match us, hl with | [_], _ => rfl) hl h
def N__law_put : List Str := ["row", "at", "place"]
theorem sc__law_put : FnScope N__law_put ["row", "at", "place"] (defScope s__law_put) := ⟨rfl, rfl, rfl, by decide +kernel, rfl, by decide +kernel, by decide +kernel⟩
theorem mk__law_put (T : Top G) {S : Dl.Spec} {k : Nat} (hl : ∀ a, (S.arg a).length = 3) (h : ∀ (cdv : Value) (M0 : List Addr) (a : S.α), S.pre a → Dl.dSs (G.fn N__law_put (defScope s__law_put) k "_law_put" cdv) M0 M0 (defBody s__law_put) (Dl.startG N__law_put (S.arg a)) (S.exn a) (S.post a) fun _ _ => S.post a (.dat .none)) : Dl.Fn G (k + 1) "_law_put" S :=
  T.fn_ok 41 41 (params := defArgs s__law_put) (body := defBody s__law_put) (scope := defScope s__law_put) rfl rfl sc__law_put (fun _ _ _ _ _ _ us hl => match us, hl with | [_, _, _], _ => rfl) hl h
def N__law_wide_menu : List Str := ["bag", "ties", "is_own", "most", "items", "item", "weights", "at", "weight"]
theorem sc__law_wide_menu : FnScope N__law_wide_menu ["bag", "ties", "is_own", "most"] (defScope s__law_wide_menu) := ⟨rfl, rfl, rfl, by decide +kernel, rfl, by decide +kernel, by decide +kernel⟩
theorem mk__law_wide_menu (T : Top G) {S : Dl.Spec} {k : Nat} (hl : ∀ a, (S.arg a).length = 4) (h : ∀ (cdv : Value) (M0 : List Addr) (a : S.α), S.pre a → Dl.dSs (G.fn N__law_wide_menu (defScope s__law_wide_menu) k "_law_wide_menu" cdv) M0 M0 (defBody s__law_wide_menu) (Dl.startG N__law_wide_menu (S.arg a)) (S.exn a) (S.post a) fun _ _ => S.post a (.dat .none)) : Dl.Fn G (k + 1) "_law_wide_menu" S :=
  T.fn_ok 42 42 (params := defArgs s__law_wide_menu) (body := defBody s__law_wide_menu) (scope := defScope s__law_wide_menu) rfl rfl sc__law_wide_menu (fun _ _ _ _ _ _ us hl => match us, hl with | [_, _, _, _], _ => rfl) hl h
def N__law_fraction : List Str := ["top", "below", "one", "other"]
theorem sc__law_fraction : FnScope N__law_fraction ["top", "below"] (defScope s__law_fraction) := ⟨rfl, rfl, rfl, by decide +kernel, rfl, by decide +kernel, by decide +kernel⟩
theorem mk__law_fraction (T : Top G) {S : Dl.Spec} {k : Nat} (hl : ∀ a, (S.arg a).length = 2) (h : ∀ (cdv : Value) (M0 : List Addr) (a : S.α), S.pre a → Dl.dSs (G.fn N__law_fraction (defScope s__law_fraction) k "_law_fraction" cdv) M0 M0 (defBody s__law_fraction) (Dl.startG N__law_fraction (S.arg a)) (S.exn a) (S.post a) fun _ _ => S.post a (.dat .none)) : Dl.Fn G (k + 1) "_law_fraction" S :=
  T.fn_ok 43 43 (params := defArgs s__law_fraction) (body := defBody s__law_fraction) (scope := defScope s__law_fraction) rfl rfl sc__law_fraction (fun _ _ _ _ _ _ us hl => match us, hl with | [_, _], _ => rfl) hl h
def N__law_wide_kind : List Str := ["bag", "size", "two", "three", "colours", "one", "both", "more", "ties", "menus", "first", "second", "couple"]
theorem sc__law_wide_kind : FnScope N__law_wide_kind ["bag", "size"] (defScope s__law_wide_kind) := ⟨rfl, rfl, rfl, by decide +kernel, rfl, by decide +kernel, by decide +kernel⟩
theorem mk__law_wide_kind (T : Top G) {S : Dl.Spec} {k : Nat} (hl : ∀ a, (S.arg a).length = 2) (h : ∀ (cdv : Value) (M0 : List Addr) (a : S.α), S.pre a → Dl.dSs (G.fn N__law_wide_kind (defScope s__law_wide_kind) k "_law_wide_kind" cdv) M0 M0 (defBody s__law_wide_kind) (Dl.startG N__law_wide_kind (S.arg a)) (S.exn a) (S.post a) fun _ _ => S.post a (.dat .none)) : Dl.Fn G (k + 1) "_law_wide_kind" S :=
  T.fn_ok 44 44 (params := defArgs s__law_wide_kind) (body := defBody s__law_wide_kind) (scope := defScope s__law_wide_kind) rfl rfl sc__law_wide_kind (fun _ _ _ _ _ _ us hl => match us, hl with | [_, _], _ => rfl) hl h
def N__law_fault : List Str := ["kind", "web", "place", "colour", "at", "one", "other"]
theorem sc__law_fault : FnScope N__law_fault ["kind", "web"] (defScope s__law_fault) := ⟨rfl, rfl, rfl, by decide +kernel, rfl, by decide +kernel, by decide +kernel⟩
theorem mk__law_fault (T : Top G) {S : Dl.Spec} {k : Nat} (hl : ∀ a, (S.arg a).length = 2) (h : ∀ (cdv : Value) (M0 : List Addr) (a : S.α), S.pre a → Dl.dSs (G.fn N__law_fault (defScope s__law_fault) k "_law_fault" cdv) M0 M0 (defBody s__law_fault) (Dl.startG N__law_fault (S.arg a)) (S.exn a) (S.post a) fun _ _ => S.post a (.dat .none)) : Dl.Fn G (k + 1) "_law_fault" S :=
  T.fn_ok 45 45 (params := defArgs s__law_fault) (body := defBody s__law_fault) (scope := defScope s__law_fault) rfl rfl sc__law_fault (fun _ _ _ _ _ _ us hl => match us, hl with | [_, _], _ => rfl) hl h
def N__law_told : List Str := ["kind", "web", "error"]
theorem sc__law_told : FnScope N__law_told ["kind", "web"] (defScope s__law_told) := ⟨rfl, rfl, rfl, by decide +kernel, rfl, by decide +kernel, by decide +kernel⟩
theorem mk__law_told (T : Top G) {S : Dl.Spec} {k : Nat} (hl : ∀ a, (S.arg a).length = 2) (h : ∀ (cdv : Value) (M0 : List Addr) (a : S.α), S.pre a → Dl.dSs (G.fn N__law_told (defScope s__law_told) k "_law_told" cdv) M0 M0 (defBody s__law_told) (Dl.startG N__law_told (S.arg a)) (S.exn a) (S.post a) fun _ _ => S.post a (.dat .none)) : Dl.Fn G (k + 1) "_law_told" S :=
  T.fn_ok 46 46 (params := defArgs s__law_told) (body := defBody s__law_told) (scope := defScope s__law_told) rfl rfl sc__law_told (fun _ _ _ _ _ _ us hl => match us, hl with | [_, _], _ => rfl) hl h
def N_law : List Str := ["script", "bag", "lap", "kind", "web", "bent", "turn", "at", "place", "way", "due", "bad", "thing"]
theorem sc_law : FnScope N_law ["script"] (defScope s_law) := ⟨rfl, rfl, rfl, by decide +kernel, rfl, by decide +kernel, by decide +kernel⟩
theorem mk_law (T : Top G) {S : Dl.Spec} {k : Nat} (hl : ∀ a, (S.arg a).length = 1) (h : ∀ (cdv : Value) (M0 : List Addr) (a : S.α), S.pre a → Dl.dSs (G.fn N_law (defScope s_law) k "law" cdv) M0 M0 (defBody s_law) (Dl.startG N_law (S.arg a)) (S.exn a) (S.post a) fun _ _ => S.post a (.dat .none)) : Dl.Fn G (k + 1) "law" S :=
  T.fn_ok 47 47 (params := defArgs s_law) (body := defBody s_law) (scope := defScope s_law) rfl rfl sc_law (fun _ _ _ _ _ _ us hl => match us, hl with | [_], _ => rfl) hl h
end
end K76
set_option Elab.async false
set_option linter.all false
set_option autoImplicit false
namespace K76
open PySem PySem.Spec PyProof.Rows L2
abbrev Sh := Int × Int
def eSh (s : Sh) : PyData := .tuple [.int s.1, .int s.2]
abbrev Itm := List Int
def eI (x : Itm) : PyData := .tuple (x.map .int)
abbrev Row := Itm × Sh
def eRow (r : Row) : PyData := .tuple [eI r.1, eSh r.2]
abbrev Menu := List Row
def eMenu (m : Menu) : PyData := .tuple (m.map eRow)
def nmS (c : Nat) : Str := ⟨#[c]⟩
abbrev Col := Nat × Sh
def eCol (c : Col) : PyData := .tuple [.str (nmS c.1), eSh c.2]
abbrev Tie := Nat × Bool
def wayS (b : Bool) : Str := if b then "both" else "one"
def eTie (t : Tie) : PyData := .tuple [.str (nmS t.1), .str (wayS t.2)]
structure Kd where
  size : Int
  cols : List Col
  ties : List Tie
  menus : List Menu
def eKd (k : Kd) : PyData := .tuple [.int k.size, .tuple (k.cols.map eCol), .tuple (k.ties.map eTie), .tuple (k.menus.map eMenu)]
/-- f answers true on what keeps P -/
def okSpec (P : PyData → Prop) : Dl.Spec where
  α := PyData
  arg d := [.dat d]
  pre d := P d
  post _ s := s = .dat (.bool true)
def names : List Str := ["a", "b", "c", "q", "t", "u", "v", "w"]
def resS0 : List Str := ["all", "and", "answer", "back", "both", "colour", "else", "end", "if", "in", "is", "kind", "menu"]
def resS1 : List Str := ["none", "not", "of", "on", "one", "or", "over", "places", "program", "relation", "same", "set", "share"]
def resS2 : List Str := ["some", "still", "tie", "to", "ways", "web", "while", "with", "x", "y", "yes", "z"]
def resS : List Str := resS0 ++ resS1 ++ resS2
/-- what the head tells beside the defs -/
structure Ext (G : Dl.Gd) : Prop where
  res : ∃ f vs, G.mg "RESERVED" = some (.ref f) ∧ (∀ H, SqT G.W.K H f vs) ∧ ∀ M H, Dl.DvAll G.W.K M H vs (resS.map .str)
  tell : Dl.TellOk G "BadKind" "Nothing"
  tellW : Dl.TellOk G "BadWeb" "Nothing"
  ex0 : Dl.ExOk G "Nothing"
  lamI : Dl.MkLam G "is_item"
  lamM : Dl.MkLam G "is_menu"
end K76
set_option Elab.async false
set_option linter.all false
set_option maxRecDepth 100000
set_option maxHeartbeats 4000000
set_option autoImplicit false
namespace K76
open PySem PySem.Spec PyProof.Rows L2
local macro_rules | `(tactic| walk_at "nm") => `(tactic| (refine Dl.d_nm (s := ?nmS) ?nmA ?nmB ?_; (case nmA => rfl); (case nmB => rfl)))
local macro_rules | `(tactic| walk_at "fr") => `(tactic| first | assumption)
local macro_rules | `(tactic| walk_at "name") => `(tactic| first
  | walk_at "nm"
  | ((with_reducible show Dl.dE _ _ (Expr.Name "int" _) _ _ _); refine Dl.d_t_int ?frA ?frB ?_; (case frA => walk_at "fr"); (case frB => rfl))
  | ((with_reducible show Dl.dE _ _ (Expr.Name "tuple" _) _ _ _); refine Dl.d_t_tuple ?frA ?frB ?_; (case frA => walk_at "fr"); (case frB => rfl))
  | ((with_reducible show Dl.dE _ _ (Expr.Name "list" _) _ _ _); refine Dl.d_t_list ?frA ?frB ?_; (case frA => walk_at "fr"); (case frB => rfl))
  | ((with_reducible show Dl.dE _ _ (Expr.Name "str" _) _ _ _); refine Dl.d_t_str ?frA ?frB ?_; (case frA => walk_at "fr"); (case frB => rfl))
  | ((with_reducible show Dl.dE _ _ (Expr.Name "bool" _) _ _ _); refine Dl.d_t_bool ?frA ?frB ?_; (case frA => walk_at "fr"); (case frB => rfl))
  | ((with_reducible show Dl.dE _ _ (Expr.Name "set" _) _ _ _); refine Dl.d_t_set ?frA ?frB ?_; (case frA => walk_at "fr"); (case frB => rfl))
  | walk_at "glob")
local macro_rules | `(tactic| walk_at "glob") => `(tactic| first
  | (refine Dl.d_globInt (i := ?gI) ?gA ?gB ?_; (case gA => rfl); (case gB => assumption))
  | (refine Dl.d_globStr (i := ?gI) ?gA ?gB ?_; (case gA => rfl); (case gB => assumption)))
local macro_rules | `(tactic| walk_at "call") => `(tactic| first
  | ((with_reducible show Dl.dE _ _ (Expr.Call (Expr.Name "isinstance" _) _ _ _) _ _ _); refine Dl.d_b_isinstance ?frA ?frB ?_; (case frA => walk_at "fr"); (case frB => rfl))
  | ((with_reducible show Dl.dE _ _ (Expr.Call (Expr.Name "len" _) _ _ _) _ _ _); refine Dl.d_b_len ?frA ?frB ?_; (case frA => walk_at "fr"); (case frB => rfl))
  | ((with_reducible show Dl.dE _ _ (Expr.Call (Expr.Name "all" _) _ _ _) _ _ _); refine Dl.d_b_all ?frA ?frB ?_; (case frA => walk_at "fr"); (case frB => rfl))
  | ((with_reducible show Dl.dE _ _ (Expr.Call (Expr.Name "any" _) _ _ _) _ _ _); refine Dl.d_b_any ?frA ?frB ?_; (case frA => walk_at "fr"); (case frB => rfl))
  | ((with_reducible show Dl.dE _ _ (Expr.Call (Expr.Name "abs" _) _ _ _) _ _ _); refine Dl.d_b_abs ?frA ?frB ?_; (case frA => walk_at "fr"); (case frB => rfl))
  | ((with_reducible show Dl.dE _ _ (Expr.Call (Expr.Name "sum" _) _ _ _) _ _ _); refine Dl.d_b_sum ?frA ?frB ?_; (case frA => walk_at "fr"); (case frB => rfl))
  | ((with_reducible show Dl.dE _ _ (Expr.Call (Expr.Name "min" _) _ _ _) _ _ _); refine Dl.d_b_min ?frA ?frB ?_; (case frA => walk_at "fr"); (case frB => rfl))
  | ((with_reducible show Dl.dE _ _ (Expr.Call (Expr.Name "max" _) _ _ _) _ _ _); refine Dl.d_b_max ?frA ?frB ?_; (case frA => walk_at "fr"); (case frB => rfl))
  | ((with_reducible show Dl.dE _ _ (Expr.Call (Expr.Name "sorted" _) _ _ _) _ _ _); refine Dl.d_b_sorted ?frA ?frB ?_; (case frA => walk_at "fr"); (case frB => rfl))
  | ((with_reducible show Dl.dE _ _ (Expr.Call (Expr.Name "int" _) _ _ _) _ _ _); refine Dl.d_c_int ?frA ?frB ?_; (case frA => walk_at "fr"); (case frB => rfl))
  | ((with_reducible show Dl.dE _ _ (Expr.Call (Expr.Name "tuple" _) _ _ _) _ _ _); refine Dl.d_c_tuple ?frA ?frB ?_; (case frA => walk_at "fr"); (case frB => rfl))
  | ((with_reducible show Dl.dE _ _ (Expr.Call (Expr.Name "list" _) _ _ _) _ _ _); refine Dl.d_c_list ?frA ?frB ?_; (case frA => walk_at "fr"); (case frB => rfl))
  | ((with_reducible show Dl.dE _ _ (Expr.Call (Expr.Name "str" _) _ _ _) _ _ _); refine Dl.d_c_str ?frA ?frB ?_; (case frA => walk_at "fr"); (case frB => rfl))
  | ((with_reducible show Dl.dE _ _ (Expr.Call (Expr.Name "bool" _) _ _ _) _ _ _); refine Dl.d_c_bool ?frA ?frB ?_; (case frA => walk_at "fr"); (case frB => rfl))
  | ((with_reducible show Dl.dE _ _ (Expr.Call (Expr.Name "set" _) _ _ _) _ _ _); refine Dl.d_c_set ?frA ?frB ?_; (case frA => walk_at "fr"); (case frB => rfl))
  | (refine Dl.d_fn (j := ?fnJ) (S := ?fnS) ?fnA ?fnB ?fnC ?_; (case fnA => assumption); (case fnB => exact Nat.le_of_ble_eq_true rfl); (case fnC => rfl)))
local macro_rules | `(tactic| walk_at "ed") => `(tactic| ((with_reducible show Dl.dE _ _ _ _ _ _); first
  | ((with_reducible show Dl.dE _ _ (Expr.Name _ _) _ _ _); walk_at "name")
  | ((with_reducible show Dl.dE _ _ (Expr.Constant (Const.int _) _ _) _ _ _); refine Dl.d_int ?_)
  | ((with_reducible show Dl.dE _ _ (Expr.Constant (Const.str _) _ _) _ _ _); refine Dl.d_str ?_)
  | ((with_reducible show Dl.dE _ _ (Expr.Constant (Const.bool _) _ _) _ _ _); refine Dl.d_bool ?_)
  | ((with_reducible show Dl.dE _ _ (Expr.Constant Const.none _ _) _ _ _); refine Dl.d_none ?_)
  | ((with_reducible show Dl.dE _ _ (Expr.Call (Expr.Name _ _) [_, Expr.Tuple [Expr.Name _ _, Expr.Name _ _] _ _] _ _) _ _ _); (refine Dl.d_isi2 ?frA ?frB ?frC ?frD ?frE ?frF ?_; (case frA => walk_at "fr"); (case frB => walk_at "fr"); (case frC => walk_at "fr"); (case frD => rfl); (case frE => rfl); (case frF => rfl)))
  | ((with_reducible show Dl.dE _ _ (Expr.Call (Expr.Name _ _) _ _ _) _ _ _); walk_at "call")
  | ((with_reducible show Dl.dE _ _ (Expr.BoolOp _ [_] _) _ _ _); refine Dl.d_one ?_)
  | ((with_reducible show Dl.dE _ _ (Expr.BoolOp BoolOp.And _ _) _ _ _); refine Dl.d_and ?_)
  | ((with_reducible show Dl.dE _ _ (Expr.BoolOp BoolOp.Or _ _) _ _ _); refine Dl.d_or ?_)
  | ((with_reducible show Dl.dE _ _ (Expr.UnaryOp UnaryOp.Not _ _) _ _ _); refine Dl.d_not ?_)
  | ((with_reducible show Dl.dE _ _ (Expr.UnaryOp UnaryOp.USub _ _) _ _ _); refine Dl.d_neg ?_)
  | ((with_reducible show Dl.dE _ _ (Expr.BinOp _ _ _ _) _ _ _); refine Dl.d_bin ?_)
  | ((with_reducible show Dl.dE _ _ (Expr.Compare _ [_] _ _) _ _ _); refine Dl.d_cmp ?_)
  | ((with_reducible show Dl.dE _ _ (Expr.Compare _ [_, _] _ _) _ _ _); refine Dl.d_chain ?_)
  | ((with_reducible show Dl.dE _ _ (Expr.IfExp _ _ _ _) _ _ _); refine Dl.d_if ?_)
  | ((with_reducible show Dl.dE _ _ (Expr.Tuple _ _ _) _ _ _); refine Dl.d_tup ?_)
  | ((with_reducible show Dl.dE _ _ (Expr.List _ _) _ _ _); refine Dl.d_lst ?_)
  | ((with_reducible show Dl.dE _ _ (Expr.Subscript _ (Expr.Slice _ _ _ _) _) _ _ _); refine Dl.d_slice ?_)
  | ((with_reducible show Dl.dE _ _ (Expr.Subscript _ _ _) _ _ _); refine Dl.d_ix ?_)))
local macro_rules | `(tactic| walk_at "ad") => `(tactic| ((with_reducible show Dl.dA _ _ _ _ _ _); first | refine Dl.a_nil ?_ | refine Dl.a_cons ?_))
local macro_rules | `(tactic| walk_at "td") => `(tactic| first
  | ((with_reducible show Dl.dT _ _ (Expr.UnaryOp UnaryOp.Not _ _) _ _ _); refine Dl.t_not ?_)
  | ((with_reducible show Dl.dT _ _ (Expr.BoolOp _ _ _) _ _ _); refine Dl.t_bool ?_)
  | ((with_reducible show Dl.dT _ _ (Expr.Compare _ [_] _ _) _ _ _); refine Dl.t_cmp ?_)
  | ((with_reducible show Dl.dT _ _ (Expr.Compare _ [_, _] _ _) _ _ _); refine Dl.t_chain ?_)
  | ((with_reducible show Dl.dT _ _ (_) _ _ _); refine Dl.t_val ?_)
  | ((with_reducible show Dl.dW _ _ (Expr.BoolOp BoolOp.And [_] _) _ _ _); refine Dl.w_and1 ?_)
  | ((with_reducible show Dl.dW _ _ (Expr.BoolOp BoolOp.Or [_] _) _ _ _); refine Dl.w_or1 ?_)
  | ((with_reducible show Dl.dW _ _ (Expr.BoolOp BoolOp.And _ _) _ _ _); refine Dl.w_and ?_)
  | ((with_reducible show Dl.dW _ _ (Expr.BoolOp BoolOp.Or _ _) _ _ _); refine Dl.w_or ?_))
local macro_rules | `(tactic| walk_at "od") => `(tactic| ((with_reducible show Dl.OpD _ _ _ _ _ _); first
  | refine Dl.o_add ?_ | refine Dl.o_sub ?_ | refine Dl.o_lt ?_ | refine Dl.o_le ?_ | refine Dl.o_gt ?_ | refine Dl.o_ge ?_ | refine Dl.o_eq ?_ | refine Dl.o_ne ?_ | refine Dl.o_eqS ?_ | refine Dl.o_mul ?_ ?_ | refine Dl.o_mod ?_ ?_ | refine Dl.o_fdivW ?_ ?_ | refine Dl.o_inS ?_ | refine Dl.o_notInS ?_
  | refine Dl.o_isN ?_ | refine Dl.o_notN ?_))
local macro_rules | `(tactic| walk_at "cd") => `(tactic| ((with_reducible show Dl.CallD _ _ _ _ _); first
  | refine Dl.c_lenT ?_ | refine Dl.c_lenL ?_ | refine Dl.c_lenO ?_ | refine Dl.c_abs ?_ | refine Dl.c_int ?_ | refine Dl.c_lenS ?_ ?_ | refine Dl.c_allT ?_
  | refine Dl.c_isInt ?_ | refine Dl.c_isBool ?_ | refine Dl.c_isStr ?_ | refine Dl.c_isTuple ?_ | refine Dl.c_isList ?_
  | refine Dl.c_allF ?_ | refine Dl.c_tupL ?_ | refine Dl.c_tupT ?_))
local macro_rules | `(tactic| walk_at "sd") => `(tactic| first
  | ((with_reducible show Dl.dS _ _ _ (Stmt.Return (some _) _) _ _ _ _); refine Dl.s_ret ?_)
  | ((with_reducible show Dl.dS _ _ _ (Stmt.Assign [Expr.Tuple [Expr.Name _ _, Expr.Name _ _] _ _] (Expr.Tuple [_, _] _ _) _) _ _ _ _); (refine Dl.s_pr (i := ?stI) (j := ?stJ) ?stA ?stB ?stC ?stD ?stE ?_; (case stA => rfl); (case stB => rfl); (case stC => rfl); (case stD => rfl); (case stE => rfl)))
  | ((with_reducible show Dl.dS _ _ _ (Stmt.If _ _ _ _) _ _ _ _); refine Dl.s_if ?_)
  | ((with_reducible show Dl.dS _ _ _ (Stmt.Assign [Expr.Name _ _] _ _) _ _ _ _); (refine Dl.s_st (i := ?stI) ?stA ?stB ?stC ?_; (case stA => rfl); (case stB => rfl); (case stC => rfl)))
  | ((with_reducible show Dl.dS _ _ _ (Stmt.Expr _ _) _ _ _ _); refine Dl.s_expr ?_)
  | ((with_reducible show Dl.dSs _ _ _ _ _ _ _ _); first | refine Dl.s_cons ?_ | refine Dl.s_nil ?_))
local macro_rules | `(tactic| walk_at "xd") => `(tactic| ((with_reducible show Dl.IxD _ _ _ _ _); first | (refine Dl.x_T (d := ?ixD) ?ixE ?_; (case ixE => rfl)) | (refine Dl.x_L (d := ?ixD) ?ixE ?_; (case ixE => rfl)) | (refine Dl.x_O (d := ?ixD) ?ixE ?_; (case ixE => rfl))))
local macro_rules | `(tactic| walk_at "ds") => `(tactic| (refine Dl.ex_dats (ds := ?dsW) ?dsA ?dsB ?_; (case dsA => rfl); (case dsB => rfl)))
local macro_rules | `(tactic| walk_at "dl") => `(tactic| first
  | walk_at "ds"
  | walk_at "ed"
  | walk_at "ad"
  | walk_at "td"
  | walk_at "od"
  | walk_at "cd"
  | walk_at "sd"
  | walk_at "xd"
  | ((with_reducible refine ⟨_, rfl, fun hc => ?_, fun hc => ?_⟩) <;> (first | contradiction | (exfalso; revert hc; simp [Dl.isTy, Dl.tyD]; done) | skip))
  | ((with_reducible refine ⟨fun hc => ?_, fun hc => ?_⟩) <;> (first | contradiction | (exfalso; revert hc; simp [Dl.isTy, Dl.tyD]; done) | skip))
  | (refine ⟨_, _, rfl, rfl, ?_⟩)
  | (refine ⟨rfl, ?_⟩)
  | (with_reducible refine ⟨_, rfl, ?_⟩)
  | (refine ⟨(_, _), rfl, ?_⟩)
  | (refine ⟨(_, _, _), rfl, ?_⟩)
  | (refine ⟨True.intro, fun _ hs => ?_, fun _ hx => False.elim hx⟩; replace hs : _ = Dl.Sl.dat _ := hs; subst hs)
  | (refine ⟨by assumption, fun _ hs => ?_, fun _ hx => False.elim hx⟩; replace hs : _ = Dl.Sl.dat _ := hs; subst hs)
  | fail)
def isNumber (d : PyData) : Bool := Dl.isTy d "int" && !Dl.isTy d "bool"
theorem isNumber_int (n : Int) : isNumber (.int n) = true := by simp [isNumber, Dl.isTy, Dl.tyD]
section
variable {G : Dl.Gd}
theorem ok_is_number (T : Top G) : Dl.Fn G 1 "is_number" (Dl.predSpec isNumber) := by
  have f1 := fr_isinstance T
  have f2 := fr_int T
  have f3 := fr_bool T
  refine mk_is_number T (fun _ => rfl) fun cdv M0 d _ => ?_
  repeat' walk_at "dl"
  all_goals (show _ = _; simp [isNumber, *])
def betweenSpec : Dl.Spec where
  α := Int × Int × Int
  arg a := [.dat (.int a.1), .dat (.int a.2.1), .dat (.int a.2.2)]
  pre _ := True
  post a s := s = .dat (.bool (decide (a.2.1 ≤ a.1) && decide (a.1 ≤ a.2.2)))
theorem ok_is_between (T : Top G) : Dl.Fn G 2 "is_between" betweenSpec := by
  have h1 := ok_is_number T
  refine mk_is_between T (fun _ => rfl) fun cdv M0 ⟨n, lo, hi⟩ _ => ?_
  repeat' walk_at "dl"
  all_goals (show _ = _; simp_all [isNumber_int])
  all_goals omega
def sizedSpec : Dl.Spec where
  α := List PyData × Int
  arg a := [.dat (.tuple a.1), .dat (.int a.2)]
  pre _ := True
  post a s := s = .dat (.bool (decide ((a.1.length : Int) = a.2)))
theorem ok_is_sized (T : Top G) : Dl.Fn G 1 "is_sized" sizedSpec := by
  have f1 := fr_isinstance T
  have f2 := fr_len T
  have f3 := fr_tuple T
  refine mk_is_sized T (fun _ => rfl) fun cdv M0 ⟨ds, n⟩ _ => ?_
  repeat' walk_at "dl"
  exact rfl
theorem gcd_step {a b x y : Nat} (h : Nat.gcd a b = Nat.gcd x y) (hb : b ≠ 0) : Nat.gcd b (a % b) = Nat.gcd x y := by
  rw [← h, Nat.gcd_comm b, ← Nat.gcd_rec, Nat.gcd_comm]
def divSpec : Dl.Spec where
  α := Int × Int
  arg a := [.dat (.int a.1), .dat (.int a.2)]
  pre _ := True
  post a s := s = .dat (.bool (!decide (Nat.gcd a.1.natAbs a.2.natAbs = 1)))
theorem abs_nat (i : Int) : (if i < 0 then -i else i) = (i.natAbs : Int) := by omega
theorem ok_has_divisor (T : Top G) : Dl.Fn G 1 "has_divisor" divSpec := by
  have f1 := fr_abs T
  refine mk_has_divisor T (fun _ => rfl) fun cdv M0 ⟨x, y⟩ _ => ?_
  repeat' walk_at "dl"
  rw [abs_nat, abs_nat]
  refine Dl.s_while (fun m M Γ => M = M0 ∧ ∃ a b : Nat, Γ = [some (.dat (.int a)), some (.dat (.int b))] ∧ m = b ∧ Nat.gcd a b = Nat.gcd x.natAbs y.natAbs) y.natAbs ⟨rfl, x.natAbs, y.natAbs, rfl, rfl, rfl⟩ fun m M Γ hI => ?_
  obtain ⟨rfl, a, b, rfl, rfl, hg⟩ := hI
  repeat' walk_at "dl"
  · rename_i hc
    simp at hc
    omega
  · rename_i hc
    simp at hc
    exact ⟨a % m, Nat.mod_lt _ (by omega), rfl, m, a % m, rfl, rfl, gcd_step hg hc⟩
  · rename_i hc
    simp at hc
    subst hc
    show _ = _
    have e : ((a : Int) = 1) = (Nat.gcd x.natAbs y.natAbs = 1) := by
      rw [← hg, Nat.gcd_zero_right]
      exact propext (by omega)
    simp [e]
def frac (s : Sh) : Bool := decide (1 ≤ s.2) && decide (Nat.gcd s.1.natAbs s.2.natAbs = 1)
def isShare (s : Sh) : Bool := frac s && decide ((s.1.natAbs : Int) ≤ 20) && decide (s.2 ≤ 20)
def shSpec (p : Sh → Bool) : Dl.Spec where
  α := Sh
  arg a := [.dat (eSh a)]
  pre _ := True
  post a s := s = .dat (.bool (p a))
theorem ok_is_fraction (T : Top G) : Dl.Fn G 2 "is_fraction" (shSpec frac) := by
  have h1 := ok_is_number T
  have h2 := ok_is_sized T
  have h3 := ok_has_divisor T
  refine mk_is_fraction T (fun _ => rfl) fun cdv M0 ⟨x, y⟩ _ => ?_
  repeat' walk_at "dl"
  all_goals (show _ = _; simp_all [frac, isNumber_int] <;> (try (intro _; omega)))
theorem ok_is_share (T : Top G) : Dl.Fn G 3 "is_share" (shSpec isShare) := by
  have h1 := ok_is_fraction T
  have f1 := fr_abs T
  have f2 := in_MOST_SHARE T
  refine mk_is_share T (fun _ => rfl) fun cdv M0 ⟨x, y⟩ _ => ?_
  repeat' walk_at "dl"
  all_goals (show _ = _; simp_all [isShare, abs_nat] <;> (try (intro _; omega)))
end
end K76
set_option Elab.async false
set_option linter.all false
set_option maxRecDepth 100000
set_option maxHeartbeats 4000000
set_option autoImplicit false
namespace K76
open PySem PySem.Spec PyProof.Rows L2
local macro_rules | `(tactic| walk_at "nm") => `(tactic| (refine Dl.d_nm (s := ?nmS) ?nmA ?nmB ?_; (case nmA => rfl); (case nmB => rfl)))
local macro_rules | `(tactic| walk_at "fr") => `(tactic| first | assumption)
local macro_rules | `(tactic| walk_at "name") => `(tactic| first
  | walk_at "nm"
  | ((with_reducible show Dl.dE _ _ (Expr.Name "int" _) _ _ _); refine Dl.d_t_int ?frA ?frB ?_; (case frA => walk_at "fr"); (case frB => rfl))
  | ((with_reducible show Dl.dE _ _ (Expr.Name "tuple" _) _ _ _); refine Dl.d_t_tuple ?frA ?frB ?_; (case frA => walk_at "fr"); (case frB => rfl))
  | ((with_reducible show Dl.dE _ _ (Expr.Name "list" _) _ _ _); refine Dl.d_t_list ?frA ?frB ?_; (case frA => walk_at "fr"); (case frB => rfl))
  | ((with_reducible show Dl.dE _ _ (Expr.Name "str" _) _ _ _); refine Dl.d_t_str ?frA ?frB ?_; (case frA => walk_at "fr"); (case frB => rfl))
  | ((with_reducible show Dl.dE _ _ (Expr.Name "bool" _) _ _ _); refine Dl.d_t_bool ?frA ?frB ?_; (case frA => walk_at "fr"); (case frB => rfl))
  | ((with_reducible show Dl.dE _ _ (Expr.Name "set" _) _ _ _); refine Dl.d_t_set ?frA ?frB ?_; (case frA => walk_at "fr"); (case frB => rfl))
  | walk_at "glob")
local macro_rules | `(tactic| walk_at "glob") => `(tactic| first
  | (refine Dl.d_globInt (i := ?gI) ?gA ?gB ?_; (case gA => rfl); (case gB => assumption))
  | (refine Dl.d_globStr (i := ?gI) ?gA ?gB ?_; (case gA => rfl); (case gB => assumption)))
local macro_rules | `(tactic| walk_at "call") => `(tactic| first
  | ((with_reducible show Dl.dE _ _ (Expr.Call (Expr.Name "isinstance" _) _ _ _) _ _ _); refine Dl.d_b_isinstance ?frA ?frB ?_; (case frA => walk_at "fr"); (case frB => rfl))
  | ((with_reducible show Dl.dE _ _ (Expr.Call (Expr.Name "len" _) _ _ _) _ _ _); refine Dl.d_b_len ?frA ?frB ?_; (case frA => walk_at "fr"); (case frB => rfl))
  | ((with_reducible show Dl.dE _ _ (Expr.Call (Expr.Name "all" _) _ _ _) _ _ _); refine Dl.d_b_all ?frA ?frB ?_; (case frA => walk_at "fr"); (case frB => rfl))
  | ((with_reducible show Dl.dE _ _ (Expr.Call (Expr.Name "any" _) _ _ _) _ _ _); refine Dl.d_b_any ?frA ?frB ?_; (case frA => walk_at "fr"); (case frB => rfl))
  | ((with_reducible show Dl.dE _ _ (Expr.Call (Expr.Name "abs" _) _ _ _) _ _ _); refine Dl.d_b_abs ?frA ?frB ?_; (case frA => walk_at "fr"); (case frB => rfl))
  | ((with_reducible show Dl.dE _ _ (Expr.Call (Expr.Name "sum" _) _ _ _) _ _ _); refine Dl.d_b_sum ?frA ?frB ?_; (case frA => walk_at "fr"); (case frB => rfl))
  | ((with_reducible show Dl.dE _ _ (Expr.Call (Expr.Name "min" _) _ _ _) _ _ _); refine Dl.d_b_min ?frA ?frB ?_; (case frA => walk_at "fr"); (case frB => rfl))
  | ((with_reducible show Dl.dE _ _ (Expr.Call (Expr.Name "max" _) _ _ _) _ _ _); refine Dl.d_b_max ?frA ?frB ?_; (case frA => walk_at "fr"); (case frB => rfl))
  | ((with_reducible show Dl.dE _ _ (Expr.Call (Expr.Name "sorted" _) _ _ _) _ _ _); refine Dl.d_b_sorted ?frA ?frB ?_; (case frA => walk_at "fr"); (case frB => rfl))
  | ((with_reducible show Dl.dE _ _ (Expr.Call (Expr.Name "int" _) _ _ _) _ _ _); refine Dl.d_c_int ?frA ?frB ?_; (case frA => walk_at "fr"); (case frB => rfl))
  | ((with_reducible show Dl.dE _ _ (Expr.Call (Expr.Name "tuple" _) _ _ _) _ _ _); refine Dl.d_c_tuple ?frA ?frB ?_; (case frA => walk_at "fr"); (case frB => rfl))
  | ((with_reducible show Dl.dE _ _ (Expr.Call (Expr.Name "list" _) _ _ _) _ _ _); refine Dl.d_c_list ?frA ?frB ?_; (case frA => walk_at "fr"); (case frB => rfl))
  | ((with_reducible show Dl.dE _ _ (Expr.Call (Expr.Name "str" _) _ _ _) _ _ _); refine Dl.d_c_str ?frA ?frB ?_; (case frA => walk_at "fr"); (case frB => rfl))
  | ((with_reducible show Dl.dE _ _ (Expr.Call (Expr.Name "bool" _) _ _ _) _ _ _); refine Dl.d_c_bool ?frA ?frB ?_; (case frA => walk_at "fr"); (case frB => rfl))
  | ((with_reducible show Dl.dE _ _ (Expr.Call (Expr.Name "set" _) _ _ _) _ _ _); refine Dl.d_c_set ?frA ?frB ?_; (case frA => walk_at "fr"); (case frB => rfl))
  | (refine Dl.d_fn (j := ?fnJ) (S := ?fnS) ?fnA ?fnB ?fnC ?_; (case fnA => assumption); (case fnB => exact Nat.le_of_ble_eq_true rfl); (case fnC => rfl)))
local macro_rules | `(tactic| walk_at "ed") => `(tactic| ((with_reducible show Dl.dE _ _ _ _ _ _); first
  | ((with_reducible show Dl.dE _ _ (Expr.Name _ _) _ _ _); walk_at "name")
  | ((with_reducible show Dl.dE _ _ (Expr.Constant (Const.int _) _ _) _ _ _); refine Dl.d_int ?_)
  | ((with_reducible show Dl.dE _ _ (Expr.Constant (Const.str _) _ _) _ _ _); refine Dl.d_str ?_)
  | ((with_reducible show Dl.dE _ _ (Expr.Constant (Const.bool _) _ _) _ _ _); refine Dl.d_bool ?_)
  | ((with_reducible show Dl.dE _ _ (Expr.Constant Const.none _ _) _ _ _); refine Dl.d_none ?_)
  | ((with_reducible show Dl.dE _ _ (Expr.Call (Expr.Name _ _) [_, Expr.Tuple [Expr.Name _ _, Expr.Name _ _] _ _] _ _) _ _ _); (refine Dl.d_isi2 ?frA ?frB ?frC ?frD ?frE ?frF ?_; (case frA => walk_at "fr"); (case frB => walk_at "fr"); (case frC => walk_at "fr"); (case frD => rfl); (case frE => rfl); (case frF => rfl)))
  | ((with_reducible show Dl.dE _ _ (Expr.Call (Expr.Name _ _) _ _ _) _ _ _); walk_at "call")
  | ((with_reducible show Dl.dE _ _ (Expr.BoolOp _ [_] _) _ _ _); refine Dl.d_one ?_)
  | ((with_reducible show Dl.dE _ _ (Expr.BoolOp BoolOp.And _ _) _ _ _); refine Dl.d_and ?_)
  | ((with_reducible show Dl.dE _ _ (Expr.BoolOp BoolOp.Or _ _) _ _ _); refine Dl.d_or ?_)
  | ((with_reducible show Dl.dE _ _ (Expr.UnaryOp UnaryOp.Not _ _) _ _ _); refine Dl.d_not ?_)
  | ((with_reducible show Dl.dE _ _ (Expr.UnaryOp UnaryOp.USub _ _) _ _ _); refine Dl.d_neg ?_)
  | ((with_reducible show Dl.dE _ _ (Expr.BinOp _ _ _ _) _ _ _); refine Dl.d_bin ?_)
  | ((with_reducible show Dl.dE _ _ (Expr.Compare _ [_] _ _) _ _ _); refine Dl.d_cmp ?_)
  | ((with_reducible show Dl.dE _ _ (Expr.Compare _ [_, _] _ _) _ _ _); refine Dl.d_chain ?_)
  | ((with_reducible show Dl.dE _ _ (Expr.IfExp _ _ _ _) _ _ _); refine Dl.d_if ?_)
  | ((with_reducible show Dl.dE _ _ (Expr.Tuple _ _ _) _ _ _); refine Dl.d_tup ?_)
  | ((with_reducible show Dl.dE _ _ (Expr.List _ _) _ _ _); refine Dl.d_lst ?_)
  | ((with_reducible show Dl.dE _ _ (Expr.Subscript _ (Expr.Slice _ _ _ _) _) _ _ _); refine Dl.d_slice ?_)
  | ((with_reducible show Dl.dE _ _ (Expr.Subscript _ _ _) _ _ _); refine Dl.d_ix ?_)))
local macro_rules | `(tactic| walk_at "ad") => `(tactic| ((with_reducible show Dl.dA _ _ _ _ _ _); first | refine Dl.a_nil ?_ | refine Dl.a_cons ?_))
local macro_rules | `(tactic| walk_at "td") => `(tactic| first
  | ((with_reducible show Dl.dT _ _ (Expr.UnaryOp UnaryOp.Not _ _) _ _ _); refine Dl.t_not ?_)
  | ((with_reducible show Dl.dT _ _ (Expr.BoolOp _ _ _) _ _ _); refine Dl.t_bool ?_)
  | ((with_reducible show Dl.dT _ _ (Expr.Compare _ [_] _ _) _ _ _); refine Dl.t_cmp ?_)
  | ((with_reducible show Dl.dT _ _ (Expr.Compare _ [_, _] _ _) _ _ _); refine Dl.t_chain ?_)
  | ((with_reducible show Dl.dT _ _ (_) _ _ _); refine Dl.t_val ?_)
  | ((with_reducible show Dl.dW _ _ (Expr.BoolOp BoolOp.And [_] _) _ _ _); refine Dl.w_and1 ?_)
  | ((with_reducible show Dl.dW _ _ (Expr.BoolOp BoolOp.Or [_] _) _ _ _); refine Dl.w_or1 ?_)
  | ((with_reducible show Dl.dW _ _ (Expr.BoolOp BoolOp.And _ _) _ _ _); refine Dl.w_and ?_)
  | ((with_reducible show Dl.dW _ _ (Expr.BoolOp BoolOp.Or _ _) _ _ _); refine Dl.w_or ?_))
local macro_rules | `(tactic| walk_at "od") => `(tactic| ((with_reducible show Dl.OpD _ _ _ _ _ _); first
  | refine Dl.o_add ?_ | refine Dl.o_sub ?_ | refine Dl.o_lt ?_ | refine Dl.o_le ?_ | refine Dl.o_gt ?_ | refine Dl.o_ge ?_ | refine Dl.o_eq ?_ | refine Dl.o_ne ?_ | refine Dl.o_eqS ?_ | refine Dl.o_mul ?_ ?_ | refine Dl.o_mod ?_ ?_ | refine Dl.o_fdivW ?_ ?_ | refine Dl.o_inS ?_ | refine Dl.o_notInS ?_
  | refine Dl.o_isN ?_ | refine Dl.o_notN ?_))
local macro_rules | `(tactic| walk_at "cd") => `(tactic| ((with_reducible show Dl.CallD _ _ _ _ _); first
  | refine Dl.c_lenT ?_ | refine Dl.c_lenL ?_ | refine Dl.c_lenO ?_ | refine Dl.c_abs ?_ | refine Dl.c_int ?_ | refine Dl.c_lenS ?_ ?_ | refine Dl.c_allT ?_
  | refine Dl.c_isInt ?_ | refine Dl.c_isBool ?_ | refine Dl.c_isStr ?_ | refine Dl.c_isTuple ?_ | refine Dl.c_isList ?_
  | refine Dl.c_allF ?_ | refine Dl.c_tupL ?_ | refine Dl.c_tupT ?_))
local macro_rules | `(tactic| walk_at "sd") => `(tactic| first
  | ((with_reducible show Dl.dS _ _ _ (Stmt.Return (some _) _) _ _ _ _); refine Dl.s_ret ?_)
  | ((with_reducible show Dl.dS _ _ _ (Stmt.Assign [Expr.Tuple [Expr.Name _ _, Expr.Name _ _] _ _] (Expr.Tuple [_, _] _ _) _) _ _ _ _); (refine Dl.s_pr (i := ?stI) (j := ?stJ) ?stA ?stB ?stC ?stD ?stE ?_; (case stA => rfl); (case stB => rfl); (case stC => rfl); (case stD => rfl); (case stE => rfl)))
  | ((with_reducible show Dl.dS _ _ _ (Stmt.If _ _ _ _) _ _ _ _); refine Dl.s_if ?_)
  | ((with_reducible show Dl.dS _ _ _ (Stmt.Assign [Expr.Name _ _] _ _) _ _ _ _); (refine Dl.s_st (i := ?stI) ?stA ?stB ?stC ?_; (case stA => rfl); (case stB => rfl); (case stC => rfl)))
  | ((with_reducible show Dl.dS _ _ _ (Stmt.Expr _ _) _ _ _ _); refine Dl.s_expr ?_)
  | ((with_reducible show Dl.dSs _ _ _ _ _ _ _ _); first | refine Dl.s_cons ?_ | refine Dl.s_nil ?_))
local macro_rules | `(tactic| walk_at "xd") => `(tactic| ((with_reducible show Dl.IxD _ _ _ _ _); first | (refine Dl.x_T (d := ?ixD) ?ixE ?_; (case ixE => rfl)) | (refine Dl.x_L (d := ?ixD) ?ixE ?_; (case ixE => rfl)) | (refine Dl.x_O (d := ?ixD) ?ixE ?_; (case ixE => rfl))))
local macro_rules | `(tactic| walk_at "ds") => `(tactic| (refine Dl.ex_dats (ds := ?dsW) ?dsA ?dsB ?_; (case dsA => rfl); (case dsB => rfl)))
local macro_rules | `(tactic| walk_at "dl") => `(tactic| first
  | walk_at "ds"
  | walk_at "ed"
  | walk_at "ad"
  | walk_at "td"
  | walk_at "od"
  | walk_at "cd"
  | walk_at "sd"
  | walk_at "xd"
  | ((with_reducible refine ⟨_, rfl, fun hc => ?_, fun hc => ?_⟩) <;> (first | contradiction | (exfalso; revert hc; simp [Dl.isTy, Dl.tyD]; done) | skip))
  | ((with_reducible refine ⟨fun hc => ?_, fun hc => ?_⟩) <;> (first | contradiction | (exfalso; revert hc; simp [Dl.isTy, Dl.tyD]; done) | skip))
  | (refine ⟨_, _, rfl, rfl, ?_⟩)
  | (refine ⟨rfl, ?_⟩)
  | (with_reducible refine ⟨_, rfl, ?_⟩)
  | (refine ⟨(_, _), rfl, ?_⟩)
  | (refine ⟨(_, _, _), rfl, ?_⟩)
  | (refine ⟨True.intro, fun _ hs => ?_, fun _ hx => False.elim hx⟩; replace hs : _ = Dl.Sl.dat _ := hs; subst hs)
  | (refine ⟨by assumption, fun _ hs => ?_, fun _ hx => False.elim hx⟩; replace hs : _ = Dl.Sl.dat _ := hs; subst hs)
  | fail)
section
variable {G : Dl.Gd}
def tupleOfSpec (G : Dl.Gd) (j : Nat) : Dl.Spec where
  α := List PyData × Dl.Sl × (PyData → Prop)
  arg a := [.dat (.tuple a.1), a.2.1]
  pre a := Dl.Can G j a.2.1 (okSpec a.2.2) ∧ ∀ d ∈ a.1, a.2.2 d
  post _ s := s = .dat (.bool true)
theorem ok_is_tuple_of (T : Top G) (j : Nat) : Dl.Fn G (j + 1) "is_tuple_of" (tupleOfSpec G j) := by
  have f1 := fr_isinstance T
  have f2 := fr_all T
  have f3 := fr_tuple T
  refine mk_is_tuple_of T (fun _ => rfl) fun cdv M0 ⟨ds, f, P⟩ hp => ?_
  obtain ⟨hC, hP⟩ := hp
  repeat' walk_at "dl"
  refine Dl.d_ofLc (Dl.l_T (QL := fun zs => zs = ds.map fun _ => PyData.bool true) id (fun _ => PyData.bool true) (own := [("one", 2)]) (is := [2]) (by kernel_rfl) (by decide) ?_) ?_
  · refine Dl.i_tupL (Dl.d_nm (s := .dat (.tuple ds)) rfl rfl ⟨ds, rfl, fun hl => ⟨ds, by simp, hl, fun D x hx => ?_, rfl⟩⟩)
    refine Dl.g_nm (i := 2) rfl rfl ?_
    refine Dl.d_callC (i := 1) (s := f) hC (Nat.le_refl _) rfl rfl rfl ?_
    refine Dl.a_cons (Dl.d_nm (s := .dat x) rfl rfl (Dl.a_nil ⟨x, rfl, hP x hx, fun s hs => hs, fun _ h => h⟩))
  · intro zs hz
    subst hz
    refine Dl.a_nil (Dl.c_allT ?_)
    exact ⟨rfl, by show _ = _; simp⟩
def inNames : List Nat := [97, 98, 99, 113, 116, 117, 118, 119]
def nameSpec : Dl.Spec where
  α := Nat
  arg c := [.dat (.str (nmS c))]
  pre c := c ∈ inNames
  post _ s := s = .dat (.bool true)
theorem name_le {c : Nat} (h : c ∈ inNames) : c = 97 ∨ c = 98 ∨ c = 99 ∨ c = 113 ∨ c = 116 ∨ c = 117 ∨ c = 118 ∨ c = 119 := by
  simp [inNames] at h
  exact h
theorem ok_is_name (T : Top G) (X : Ext G) : Dl.Fn G 1 "is_name" nameSpec := by
  have f1 := fr_isinstance T
  have f2 := fr_all T
  have f3 := fr_str T
  have f4 := fr_len T
  have s1 := st_LETTERS T
  have s2 := st_DIGITS T
  have i1 := in_MOST_LETTERS T
  obtain ⟨rf, rvs, r1, r2, r3⟩ := X.res
  refine mk_is_name T (fun _ => rfl) fun cdv M0 c hp => ?_
  have hl : (nmS c).length = 1 := rfl
  have hs1 : (nmS c).length ≤ sizeLine := by rw [hl, sizeLine_eq]; omega
  repeat' walk_at "dl"
  · exact hs1
  · refine Dl.x_S (ch := c) hs1 rfl ?_
    repeat' walk_at "dl"
    · rename_i hc
      exfalso
      rcases name_le hp with rfl | rfl | rfl | rfl | rfl | rfl | rfl | rfl <;> revert hc <;> decide +kernel
    · refine Dl.d_globTup rfl r1 r2 (r3 M0) ?_
      refine Dl.o_notInT (by rcases name_le hp with rfl | rfl | rfl | rfl | rfl | rfl | rfl | rfl <;> decide +kernel) (by decide +kernel) ?_
      refine ⟨_, rfl, fun hc => ?_, fun hc => ?_⟩
      · repeat' walk_at "dl"
        refine Dl.d_ofLc (Dl.l_T (QL := fun zs => zs = [PyData.bool true]) (fun k : Nat => .str ⟨#[k]⟩) (fun _ => PyData.bool true) (own := [("sign", 1)]) (is := [1]) (by kernel_rfl) (by decide) ?_) ?_
        · refine Dl.i_str (Dl.d_nm (s := .dat (.str (nmS c))) rfl rfl ⟨_, rfl, [c], rfl, ?_, fun D x hx => ?_, rfl⟩)
          · show 1 ≤ sizeLine
            rw [sizeLine_eq]; omega
          · refine Dl.g_nm (i := 1) rfl rfl ?_
            refine Dl.d_cmp (Dl.d_nm (s := .dat (.str ⟨#[x]⟩)) rfl rfl ?_)
            repeat' walk_at "dl"
            refine Dl.o_addS (by rw [sizeLine_eq]; decide) (Dl.o_inS ?_)
            show Dl.Sl.dat (.bool _) = Dl.Sl.dat (.bool true)
            rw [List.mem_singleton.mp hx]
            congr 2
            rcases name_le hp with rfl | rfl | rfl | rfl | rfl | rfl | rfl | rfl <;> decide +kernel
        · intro zs hz
          subst hz
          exact Dl.a_nil (Dl.c_all (bs := [true]) ⟨rfl, rfl⟩)
      · exfalso
        rcases name_le hp with rfl | rfl | rfl | rfl | rfl | rfl | rfl | rfl <;> revert hc <;> decide +kernel
end
end K76
set_option Elab.async false
set_option linter.all false
set_option maxRecDepth 100000
set_option maxHeartbeats 4000000
set_option autoImplicit false
namespace K76
open PySem PySem.Spec PyProof.Rows L2
local macro_rules | `(tactic| walk_at "nm") => `(tactic| (refine Dl.d_nm (s := ?nmS) ?nmA ?nmB ?_; (case nmA => rfl); (case nmB => rfl)))
local macro_rules | `(tactic| walk_at "fr") => `(tactic| first | assumption)
local macro_rules | `(tactic| walk_at "name") => `(tactic| first
  | walk_at "nm"
  | ((with_reducible show Dl.dE _ _ (Expr.Name "int" _) _ _ _); refine Dl.d_t_int ?frA ?frB ?_; (case frA => walk_at "fr"); (case frB => rfl))
  | ((with_reducible show Dl.dE _ _ (Expr.Name "tuple" _) _ _ _); refine Dl.d_t_tuple ?frA ?frB ?_; (case frA => walk_at "fr"); (case frB => rfl))
  | ((with_reducible show Dl.dE _ _ (Expr.Name "list" _) _ _ _); refine Dl.d_t_list ?frA ?frB ?_; (case frA => walk_at "fr"); (case frB => rfl))
  | ((with_reducible show Dl.dE _ _ (Expr.Name "str" _) _ _ _); refine Dl.d_t_str ?frA ?frB ?_; (case frA => walk_at "fr"); (case frB => rfl))
  | ((with_reducible show Dl.dE _ _ (Expr.Name "bool" _) _ _ _); refine Dl.d_t_bool ?frA ?frB ?_; (case frA => walk_at "fr"); (case frB => rfl))
  | ((with_reducible show Dl.dE _ _ (Expr.Name "set" _) _ _ _); refine Dl.d_t_set ?frA ?frB ?_; (case frA => walk_at "fr"); (case frB => rfl))
  | walk_at "glob")
local macro_rules | `(tactic| walk_at "glob") => `(tactic| first
  | (refine Dl.d_globInt (i := ?gI) ?gA ?gB ?_; (case gA => rfl); (case gB => assumption))
  | (refine Dl.d_globStr (i := ?gI) ?gA ?gB ?_; (case gA => rfl); (case gB => assumption)))
local macro_rules | `(tactic| walk_at "call") => `(tactic| first
  | ((with_reducible show Dl.dE _ _ (Expr.Call (Expr.Name "isinstance" _) _ _ _) _ _ _); refine Dl.d_b_isinstance ?frA ?frB ?_; (case frA => walk_at "fr"); (case frB => rfl))
  | ((with_reducible show Dl.dE _ _ (Expr.Call (Expr.Name "len" _) _ _ _) _ _ _); refine Dl.d_b_len ?frA ?frB ?_; (case frA => walk_at "fr"); (case frB => rfl))
  | ((with_reducible show Dl.dE _ _ (Expr.Call (Expr.Name "all" _) _ _ _) _ _ _); refine Dl.d_b_all ?frA ?frB ?_; (case frA => walk_at "fr"); (case frB => rfl))
  | ((with_reducible show Dl.dE _ _ (Expr.Call (Expr.Name "any" _) _ _ _) _ _ _); refine Dl.d_b_any ?frA ?frB ?_; (case frA => walk_at "fr"); (case frB => rfl))
  | ((with_reducible show Dl.dE _ _ (Expr.Call (Expr.Name "abs" _) _ _ _) _ _ _); refine Dl.d_b_abs ?frA ?frB ?_; (case frA => walk_at "fr"); (case frB => rfl))
  | ((with_reducible show Dl.dE _ _ (Expr.Call (Expr.Name "sum" _) _ _ _) _ _ _); refine Dl.d_b_sum ?frA ?frB ?_; (case frA => walk_at "fr"); (case frB => rfl))
  | ((with_reducible show Dl.dE _ _ (Expr.Call (Expr.Name "min" _) _ _ _) _ _ _); refine Dl.d_b_min ?frA ?frB ?_; (case frA => walk_at "fr"); (case frB => rfl))
  | ((with_reducible show Dl.dE _ _ (Expr.Call (Expr.Name "max" _) _ _ _) _ _ _); refine Dl.d_b_max ?frA ?frB ?_; (case frA => walk_at "fr"); (case frB => rfl))
  | ((with_reducible show Dl.dE _ _ (Expr.Call (Expr.Name "sorted" _) _ _ _) _ _ _); refine Dl.d_b_sorted ?frA ?frB ?_; (case frA => walk_at "fr"); (case frB => rfl))
  | ((with_reducible show Dl.dE _ _ (Expr.Call (Expr.Name "int" _) _ _ _) _ _ _); refine Dl.d_c_int ?frA ?frB ?_; (case frA => walk_at "fr"); (case frB => rfl))
  | ((with_reducible show Dl.dE _ _ (Expr.Call (Expr.Name "tuple" _) _ _ _) _ _ _); refine Dl.d_c_tuple ?frA ?frB ?_; (case frA => walk_at "fr"); (case frB => rfl))
  | ((with_reducible show Dl.dE _ _ (Expr.Call (Expr.Name "list" _) _ _ _) _ _ _); refine Dl.d_c_list ?frA ?frB ?_; (case frA => walk_at "fr"); (case frB => rfl))
  | ((with_reducible show Dl.dE _ _ (Expr.Call (Expr.Name "str" _) _ _ _) _ _ _); refine Dl.d_c_str ?frA ?frB ?_; (case frA => walk_at "fr"); (case frB => rfl))
  | ((with_reducible show Dl.dE _ _ (Expr.Call (Expr.Name "bool" _) _ _ _) _ _ _); refine Dl.d_c_bool ?frA ?frB ?_; (case frA => walk_at "fr"); (case frB => rfl))
  | ((with_reducible show Dl.dE _ _ (Expr.Call (Expr.Name "set" _) _ _ _) _ _ _); refine Dl.d_c_set ?frA ?frB ?_; (case frA => walk_at "fr"); (case frB => rfl))
  | (refine Dl.d_fn (j := ?fnJ) (S := ?fnS) ?fnA ?fnB ?fnC ?_; (case fnA => assumption); (case fnB => exact Nat.le_of_ble_eq_true rfl); (case fnC => rfl)))
local macro_rules | `(tactic| walk_at "ed") => `(tactic| ((with_reducible show Dl.dE _ _ _ _ _ _); first
  | ((with_reducible show Dl.dE _ _ (Expr.Name _ _) _ _ _); walk_at "name")
  | ((with_reducible show Dl.dE _ _ (Expr.Constant (Const.int _) _ _) _ _ _); refine Dl.d_int ?_)
  | ((with_reducible show Dl.dE _ _ (Expr.Constant (Const.str _) _ _) _ _ _); refine Dl.d_str ?_)
  | ((with_reducible show Dl.dE _ _ (Expr.Constant (Const.bool _) _ _) _ _ _); refine Dl.d_bool ?_)
  | ((with_reducible show Dl.dE _ _ (Expr.Constant Const.none _ _) _ _ _); refine Dl.d_none ?_)
  | ((with_reducible show Dl.dE _ _ (Expr.Call (Expr.Name _ _) [_, Expr.Tuple [Expr.Name _ _, Expr.Name _ _] _ _] _ _) _ _ _); (refine Dl.d_isi2 ?frA ?frB ?frC ?frD ?frE ?frF ?_; (case frA => walk_at "fr"); (case frB => walk_at "fr"); (case frC => walk_at "fr"); (case frD => rfl); (case frE => rfl); (case frF => rfl)))
  | ((with_reducible show Dl.dE _ _ (Expr.Call (Expr.Name _ _) _ _ _) _ _ _); walk_at "call")
  | ((with_reducible show Dl.dE _ _ (Expr.BoolOp _ [_] _) _ _ _); refine Dl.d_one ?_)
  | ((with_reducible show Dl.dE _ _ (Expr.BoolOp BoolOp.And _ _) _ _ _); refine Dl.d_and ?_)
  | ((with_reducible show Dl.dE _ _ (Expr.BoolOp BoolOp.Or _ _) _ _ _); refine Dl.d_or ?_)
  | ((with_reducible show Dl.dE _ _ (Expr.UnaryOp UnaryOp.Not _ _) _ _ _); refine Dl.d_not ?_)
  | ((with_reducible show Dl.dE _ _ (Expr.UnaryOp UnaryOp.USub _ _) _ _ _); refine Dl.d_neg ?_)
  | ((with_reducible show Dl.dE _ _ (Expr.BinOp _ _ _ _) _ _ _); refine Dl.d_bin ?_)
  | ((with_reducible show Dl.dE _ _ (Expr.Compare _ [_] _ _) _ _ _); refine Dl.d_cmp ?_)
  | ((with_reducible show Dl.dE _ _ (Expr.Compare _ [_, _] _ _) _ _ _); refine Dl.d_chain ?_)
  | ((with_reducible show Dl.dE _ _ (Expr.IfExp _ _ _ _) _ _ _); refine Dl.d_if ?_)
  | ((with_reducible show Dl.dE _ _ (Expr.Tuple _ _ _) _ _ _); refine Dl.d_tup ?_)
  | ((with_reducible show Dl.dE _ _ (Expr.List _ _) _ _ _); refine Dl.d_lst ?_)
  | ((with_reducible show Dl.dE _ _ (Expr.Subscript _ (Expr.Slice _ _ _ _) _) _ _ _); refine Dl.d_slice ?_)
  | ((with_reducible show Dl.dE _ _ (Expr.Subscript _ _ _) _ _ _); refine Dl.d_ix ?_)))
local macro_rules | `(tactic| walk_at "ad") => `(tactic| ((with_reducible show Dl.dA _ _ _ _ _ _); first | refine Dl.a_nil ?_ | refine Dl.a_cons ?_))
local macro_rules | `(tactic| walk_at "td") => `(tactic| first
  | ((with_reducible show Dl.dT _ _ (Expr.UnaryOp UnaryOp.Not _ _) _ _ _); refine Dl.t_not ?_)
  | ((with_reducible show Dl.dT _ _ (Expr.BoolOp _ _ _) _ _ _); refine Dl.t_bool ?_)
  | ((with_reducible show Dl.dT _ _ (Expr.Compare _ [_] _ _) _ _ _); refine Dl.t_cmp ?_)
  | ((with_reducible show Dl.dT _ _ (Expr.Compare _ [_, _] _ _) _ _ _); refine Dl.t_chain ?_)
  | ((with_reducible show Dl.dT _ _ (_) _ _ _); refine Dl.t_val ?_)
  | ((with_reducible show Dl.dW _ _ (Expr.BoolOp BoolOp.And [_] _) _ _ _); refine Dl.w_and1 ?_)
  | ((with_reducible show Dl.dW _ _ (Expr.BoolOp BoolOp.Or [_] _) _ _ _); refine Dl.w_or1 ?_)
  | ((with_reducible show Dl.dW _ _ (Expr.BoolOp BoolOp.And _ _) _ _ _); refine Dl.w_and ?_)
  | ((with_reducible show Dl.dW _ _ (Expr.BoolOp BoolOp.Or _ _) _ _ _); refine Dl.w_or ?_))
local macro_rules | `(tactic| walk_at "od") => `(tactic| ((with_reducible show Dl.OpD _ _ _ _ _ _); first
  | refine Dl.o_add ?_ | refine Dl.o_sub ?_ | refine Dl.o_lt ?_ | refine Dl.o_le ?_ | refine Dl.o_gt ?_ | refine Dl.o_ge ?_ | refine Dl.o_eq ?_ | refine Dl.o_ne ?_ | refine Dl.o_eqS ?_ | refine Dl.o_mul ?_ ?_ | refine Dl.o_mod ?_ ?_ | refine Dl.o_fdivW ?_ ?_ | refine Dl.o_inS ?_ | refine Dl.o_notInS ?_
  | refine Dl.o_isN ?_ | refine Dl.o_notN ?_))
local macro_rules | `(tactic| walk_at "cd") => `(tactic| ((with_reducible show Dl.CallD _ _ _ _ _); first
  | refine Dl.c_lenT ?_ | refine Dl.c_lenL ?_ | refine Dl.c_lenO ?_ | refine Dl.c_abs ?_ | refine Dl.c_int ?_ | refine Dl.c_lenS ?_ ?_ | refine Dl.c_allT ?_
  | refine Dl.c_isInt ?_ | refine Dl.c_isBool ?_ | refine Dl.c_isStr ?_ | refine Dl.c_isTuple ?_ | refine Dl.c_isList ?_
  | refine Dl.c_allF ?_ | refine Dl.c_tupL ?_ | refine Dl.c_tupT ?_))
local macro_rules | `(tactic| walk_at "sd") => `(tactic| first
  | ((with_reducible show Dl.dS _ _ _ (Stmt.Return (some _) _) _ _ _ _); refine Dl.s_ret ?_)
  | ((with_reducible show Dl.dS _ _ _ (Stmt.Assign [Expr.Tuple [Expr.Name _ _, Expr.Name _ _] _ _] (Expr.Tuple [_, _] _ _) _) _ _ _ _); (refine Dl.s_pr (i := ?stI) (j := ?stJ) ?stA ?stB ?stC ?stD ?stE ?_; (case stA => rfl); (case stB => rfl); (case stC => rfl); (case stD => rfl); (case stE => rfl)))
  | ((with_reducible show Dl.dS _ _ _ (Stmt.If _ _ _ _) _ _ _ _); refine Dl.s_if ?_)
  | ((with_reducible show Dl.dS _ _ _ (Stmt.Assign [Expr.Name _ _] _ _) _ _ _ _); (refine Dl.s_st (i := ?stI) ?stA ?stB ?stC ?_; (case stA => rfl); (case stB => rfl); (case stC => rfl)))
  | ((with_reducible show Dl.dS _ _ _ (Stmt.Expr _ _) _ _ _ _); refine Dl.s_expr ?_)
  | ((with_reducible show Dl.dSs _ _ _ _ _ _ _ _); first | refine Dl.s_cons ?_ | refine Dl.s_nil ?_))
local macro_rules | `(tactic| walk_at "xd") => `(tactic| ((with_reducible show Dl.IxD _ _ _ _ _); first | (refine Dl.x_T (d := ?ixD) ?ixE ?_; (case ixE => rfl)) | (refine Dl.x_L (d := ?ixD) ?ixE ?_; (case ixE => rfl)) | (refine Dl.x_O (d := ?ixD) ?ixE ?_; (case ixE => rfl))))
local macro_rules | `(tactic| walk_at "ds") => `(tactic| (refine Dl.ex_dats (ds := ?dsW) ?dsA ?dsB ?_; (case dsA => rfl); (case dsB => rfl)))
local macro_rules | `(tactic| walk_at "dl") => `(tactic| first
  | walk_at "ds"
  | walk_at "ed"
  | walk_at "ad"
  | walk_at "td"
  | walk_at "od"
  | walk_at "cd"
  | walk_at "sd"
  | walk_at "xd"
  | ((with_reducible refine ⟨_, rfl, fun hc => ?_, fun hc => ?_⟩) <;> (first | contradiction | (exfalso; revert hc; simp [Dl.isTy, Dl.tyD]; done) | skip))
  | ((with_reducible refine ⟨fun hc => ?_, fun hc => ?_⟩) <;> (first | contradiction | (exfalso; revert hc; simp [Dl.isTy, Dl.tyD]; done) | skip))
  | (refine ⟨_, _, rfl, rfl, ?_⟩)
  | (refine ⟨rfl, ?_⟩)
  | (with_reducible refine ⟨_, rfl, ?_⟩)
  | (refine ⟨(_, _), rfl, ?_⟩)
  | (refine ⟨(_, _, _), rfl, ?_⟩)
  | (refine ⟨True.intro, fun _ hs => ?_, fun _ hx => False.elim hx⟩; replace hs : _ = Dl.Sl.dat _ := hs; subst hs)
  | (refine ⟨by assumption, fun _ hs => ?_, fun _ hx => False.elim hx⟩; replace hs : _ = Dl.Sl.dat _ := hs; subst hs)
  | fail)
section
variable {G : Dl.Gd}
def ColOk (d : PyData) : Prop := ∃ c : Nat × Sh, d = .tuple [.str (nmS c.1), eSh c.2] ∧ c.1 ∈ inNames ∧ isShare c.2 = true
theorem ok_is_named (T : Top G) (X : Ext G) : Dl.Fn G 4 "is_named" (okSpec ColOk) := by
  have h1 := ok_is_sized T
  have h2 := ok_is_name T X
  have h3 := ok_is_share T
  refine mk_is_named T (fun _ => rfl) fun cdv M0 d hp => ?_
  obtain ⟨⟨c, s⟩, rfl, h4, h5⟩ := hp
  repeat' walk_at "dl"
  show _ = _
  rw [h5]
def TieOk (d : PyData) : Prop := ∃ (c : Nat) (b : Bool), d = .tuple [.str (nmS c), .str (wayS b)] ∧ c ∈ inNames
theorem ok_is_tie (T : Top G) (X : Ext G) : Dl.Fn G 4 "is_tie" (okSpec TieOk) := by
  have h1 := ok_is_sized T
  have h2 := ok_is_name T X
  have f1 := fr_isinstance T
  have f3 := fr_str T
  refine mk_is_tie T (fun _ => rfl) fun cdv M0 d hp => ?_
  obtain ⟨c, b, rfl, h4⟩ := hp
  repeat' walk_at "dl"
  refine Dl.o_inT (d := .str (wayS b)) (ds := [.str "both", .str "one"]) (by cases b <;> decide +kernel) (by decide +kernel) ?_
  refine ⟨rfl, ?_⟩
  have e : ([PyData.str "both", PyData.str "one"].any fun z => PyData.eqv z (.str (wayS b))) = true := by cases b <;> decide +kernel
  show Dl.Sl.dat (.bool _) = Dl.Sl.dat (.bool true)
  rw [e]
def ItmOk (x : Itm) : Prop := x.length ≤ 3 ∧ ∀ n ∈ x, 0 ≤ n ∧ n ≤ 3
def ItmD (d : PyData) : Prop := ∃ x : Itm, d = eI x ∧ ItmOk x
theorem ok_is_item (T : Top G) (X : Ext G) : Dl.Fn G 6 "is_item" (okSpec ItmD) := by
  have h1 := ok_is_tuple_of T 3
  have h2 := ok_is_between T
  have f1 := fr_len T
  refine T.fn_okC 11 11 (params := defArgs s_is_item) (body := defBody s_is_item) (scope := defScope s_is_item) rfl rfl sc_is_item (fun _ _ _ _ _ _ us hl => match us, hl with | [_], _ => rfl) (fun _ => rfl) fun cdv M0 d hc hp => ?_
  obtain ⟨x, rfl, h3, h4⟩ := hp
  obtain ⟨oc, od, fd, osl, lk, rfl⟩ := hc
  obtain ⟨c, P, e1, TB, hm, hu⟩ := X.lamI.ex _ _ _ _ lk
  rw [e1]
  repeat' walk_at "dl"
  refine Dl.d_lam rfl TB hm hu (fun f => ?_) (by intro _; rfl) (by decide +kernel) (by intro _; rfl)
  refine Dl.a_nil ⟨(x.map .int, _, fun d => ∃ n : Int, d = .int n ∧ 0 ≤ n ∧ n ≤ 3), rfl, ⟨.lam ⟨2, ["one"], ["one"], rfl, ⟨rfl, rfl, rfl, by decide +kernel, rfl, by decide +kernel, by decide +kernel⟩, (fun _ _ _ us hl => match us, hl with | [_], _ => rfl), fun _ => rfl, fun cdv M1 d hp => ?_⟩, fun d hd => ?_⟩, fun s hs => ?_, fun _ h => h.elim⟩
  · obtain ⟨n, rfl, b1, b2⟩ := hp
    repeat' walk_at "dl"
    show _ = _
    simp [b1, b2]
  · obtain ⟨n, hn, rfl⟩ := List.mem_map.mp hd
    exact ⟨n, rfl, h4 n hn⟩
  · replace hs : _ = Dl.Sl.dat _ := hs
    subst hs
    repeat' walk_at "dl"
    show _ = _
    have e : ((x.map PyData.int).length : Int) ≤ 3 := by rw [List.length_map]; exact_mod_cast h3
    rw [decide_eq_true e]
def RowD (d : PyData) : Prop := ∃ r : Row, d = eRow r ∧ ItmOk r.1 ∧ isShare r.2 = true
def MenuOk (m : Menu) : Prop := m.length ≤ 64 ∧ ∀ r ∈ m, ItmOk r.1 ∧ isShare r.2 = true
def MenuD (d : PyData) : Prop := ∃ m : Menu, d = eMenu m ∧ MenuOk m
theorem ok_is_menu (T : Top G) (X : Ext G) : Dl.Fn G 9 "is_menu" (okSpec MenuD) := by
  have h1 := ok_is_tuple_of T 7
  have h2 := ok_is_sized T
  have h3 := ok_is_item T X
  have h4 := ok_is_share T
  have f1 := fr_len T
  have i1 := in_MOST_MENU T
  refine T.fn_okC 12 12 (params := defArgs s_is_menu) (body := defBody s_is_menu) (scope := defScope s_is_menu) rfl rfl sc_is_menu (fun _ _ _ _ _ _ us hl => match us, hl with | [_], _ => rfl) (fun _ => rfl) fun cdv M0 d hc hp => ?_
  obtain ⟨m, rfl, h5, h6⟩ := hp
  obtain ⟨oc, od, fd, osl, lk, rfl⟩ := hc
  obtain ⟨c, P, e1, TB, hm, hu⟩ := X.lamM.ex _ _ _ _ lk
  rw [e1]
  repeat' walk_at "dl"
  refine Dl.d_lam rfl TB hm hu (fun f => ?_) (by intro _; rfl) (by decide +kernel) (by intro _; rfl)
  refine Dl.a_nil ⟨(m.map eRow, _, RowD), rfl, ⟨.lam ⟨6, ["one"], ["one"], rfl, ⟨rfl, rfl, rfl, by decide +kernel, rfl, by decide +kernel, by decide +kernel⟩, (fun _ _ _ us hl => match us, hl with | [_], _ => rfl), fun _ => rfl, fun cdv M1 d hp => ?_⟩, fun d hd => ?_⟩, fun s hs => ?_, fun _ h => h.elim⟩
  · obtain ⟨⟨x, s⟩, rfl, b1, b2⟩ := hp
    have b3 : (okSpec ItmD).pre (eI x) := ⟨x, rfl, b1⟩
    repeat' walk_at "dl"
    show _ = _
    rw [b2]
  · obtain ⟨r, hr, rfl⟩ := List.mem_map.mp hd
    exact ⟨r, rfl, h6 r hr⟩
  · replace hs : _ = Dl.Sl.dat _ := hs
    subst hs
    repeat' walk_at "dl"
    show _ = _
    have e : ((m.map eRow).length : Int) ≤ 64 := by rw [List.length_map]; exact_mod_cast h5
    rw [decide_eq_true e]
def KindOk (k : Kd) : Prop := (k.size = 2 ∨ k.size = 3) ∧ (1 ≤ k.cols.length ∧ k.cols.length ≤ 3) ∧ (∀ c ∈ k.cols, c.1 ∈ inNames ∧ isShare c.2 = true) ∧ k.ties.length ≤ 3 ∧ (∀ t ∈ k.ties, t.1 ∈ inNames) ∧
  (∀ m ∈ k.menus, MenuOk m) ∧ k.menus.length = k.cols.length * (k.cols.length + 1) / 2
def KindD (d : PyData) : Prop := ∃ k : Kd, d = eKd k ∧ KindOk k
end
end K76
set_option Elab.async false
set_option linter.all false
set_option maxRecDepth 100000
set_option maxHeartbeats 4000000
set_option autoImplicit false
namespace K76
open PySem PySem.Spec PyProof.Rows L2
local macro_rules | `(tactic| walk_at "nm") => `(tactic| (refine Dl.d_nm (s := ?nmS) ?nmA ?nmB ?_; (case nmA => rfl); (case nmB => rfl)))
local macro_rules | `(tactic| walk_at "fr") => `(tactic| first | assumption)
local macro_rules | `(tactic| walk_at "name") => `(tactic| first
  | walk_at "nm"
  | ((with_reducible show Dl.dE _ _ (Expr.Name "int" _) _ _ _); refine Dl.d_t_int ?frA ?frB ?_; (case frA => walk_at "fr"); (case frB => rfl))
  | ((with_reducible show Dl.dE _ _ (Expr.Name "tuple" _) _ _ _); refine Dl.d_t_tuple ?frA ?frB ?_; (case frA => walk_at "fr"); (case frB => rfl))
  | ((with_reducible show Dl.dE _ _ (Expr.Name "list" _) _ _ _); refine Dl.d_t_list ?frA ?frB ?_; (case frA => walk_at "fr"); (case frB => rfl))
  | ((with_reducible show Dl.dE _ _ (Expr.Name "str" _) _ _ _); refine Dl.d_t_str ?frA ?frB ?_; (case frA => walk_at "fr"); (case frB => rfl))
  | ((with_reducible show Dl.dE _ _ (Expr.Name "bool" _) _ _ _); refine Dl.d_t_bool ?frA ?frB ?_; (case frA => walk_at "fr"); (case frB => rfl))
  | ((with_reducible show Dl.dE _ _ (Expr.Name "set" _) _ _ _); refine Dl.d_t_set ?frA ?frB ?_; (case frA => walk_at "fr"); (case frB => rfl))
  | walk_at "glob")
local macro_rules | `(tactic| walk_at "glob") => `(tactic| first
  | (refine Dl.d_globInt (i := ?gI) ?gA ?gB ?_; (case gA => rfl); (case gB => assumption))
  | (refine Dl.d_globStr (i := ?gI) ?gA ?gB ?_; (case gA => rfl); (case gB => assumption)))
local macro_rules | `(tactic| walk_at "call") => `(tactic| first
  | ((with_reducible show Dl.dE _ _ (Expr.Call (Expr.Name "isinstance" _) _ _ _) _ _ _); refine Dl.d_b_isinstance ?frA ?frB ?_; (case frA => walk_at "fr"); (case frB => rfl))
  | ((with_reducible show Dl.dE _ _ (Expr.Call (Expr.Name "len" _) _ _ _) _ _ _); refine Dl.d_b_len ?frA ?frB ?_; (case frA => walk_at "fr"); (case frB => rfl))
  | ((with_reducible show Dl.dE _ _ (Expr.Call (Expr.Name "all" _) _ _ _) _ _ _); refine Dl.d_b_all ?frA ?frB ?_; (case frA => walk_at "fr"); (case frB => rfl))
  | ((with_reducible show Dl.dE _ _ (Expr.Call (Expr.Name "any" _) _ _ _) _ _ _); refine Dl.d_b_any ?frA ?frB ?_; (case frA => walk_at "fr"); (case frB => rfl))
  | ((with_reducible show Dl.dE _ _ (Expr.Call (Expr.Name "abs" _) _ _ _) _ _ _); refine Dl.d_b_abs ?frA ?frB ?_; (case frA => walk_at "fr"); (case frB => rfl))
  | ((with_reducible show Dl.dE _ _ (Expr.Call (Expr.Name "sum" _) _ _ _) _ _ _); refine Dl.d_b_sum ?frA ?frB ?_; (case frA => walk_at "fr"); (case frB => rfl))
  | ((with_reducible show Dl.dE _ _ (Expr.Call (Expr.Name "min" _) _ _ _) _ _ _); refine Dl.d_b_min ?frA ?frB ?_; (case frA => walk_at "fr"); (case frB => rfl))
  | ((with_reducible show Dl.dE _ _ (Expr.Call (Expr.Name "max" _) _ _ _) _ _ _); refine Dl.d_b_max ?frA ?frB ?_; (case frA => walk_at "fr"); (case frB => rfl))
  | ((with_reducible show Dl.dE _ _ (Expr.Call (Expr.Name "sorted" _) _ _ _) _ _ _); refine Dl.d_b_sorted ?frA ?frB ?_; (case frA => walk_at "fr"); (case frB => rfl))
  | ((with_reducible show Dl.dE _ _ (Expr.Call (Expr.Name "int" _) _ _ _) _ _ _); refine Dl.d_c_int ?frA ?frB ?_; (case frA => walk_at "fr"); (case frB => rfl))
  | ((with_reducible show Dl.dE _ _ (Expr.Call (Expr.Name "tuple" _) _ _ _) _ _ _); refine Dl.d_c_tuple ?frA ?frB ?_; (case frA => walk_at "fr"); (case frB => rfl))
  | ((with_reducible show Dl.dE _ _ (Expr.Call (Expr.Name "list" _) _ _ _) _ _ _); refine Dl.d_c_list ?frA ?frB ?_; (case frA => walk_at "fr"); (case frB => rfl))
  | ((with_reducible show Dl.dE _ _ (Expr.Call (Expr.Name "str" _) _ _ _) _ _ _); refine Dl.d_c_str ?frA ?frB ?_; (case frA => walk_at "fr"); (case frB => rfl))
  | ((with_reducible show Dl.dE _ _ (Expr.Call (Expr.Name "bool" _) _ _ _) _ _ _); refine Dl.d_c_bool ?frA ?frB ?_; (case frA => walk_at "fr"); (case frB => rfl))
  | ((with_reducible show Dl.dE _ _ (Expr.Call (Expr.Name "set" _) _ _ _) _ _ _); refine Dl.d_c_set ?frA ?frB ?_; (case frA => walk_at "fr"); (case frB => rfl))
  | (refine Dl.d_fn (j := ?fnJ) (S := ?fnS) ?fnA ?fnB ?fnC ?_; (case fnA => assumption); (case fnB => exact Nat.le_of_ble_eq_true rfl); (case fnC => rfl)))
local macro_rules | `(tactic| walk_at "ed") => `(tactic| ((with_reducible show Dl.dE _ _ _ _ _ _); first
  | ((with_reducible show Dl.dE _ _ (Expr.Name _ _) _ _ _); walk_at "name")
  | ((with_reducible show Dl.dE _ _ (Expr.Constant (Const.int _) _ _) _ _ _); refine Dl.d_int ?_)
  | ((with_reducible show Dl.dE _ _ (Expr.Constant (Const.str _) _ _) _ _ _); refine Dl.d_str ?_)
  | ((with_reducible show Dl.dE _ _ (Expr.Constant (Const.bool _) _ _) _ _ _); refine Dl.d_bool ?_)
  | ((with_reducible show Dl.dE _ _ (Expr.Constant Const.none _ _) _ _ _); refine Dl.d_none ?_)
  | ((with_reducible show Dl.dE _ _ (Expr.Call (Expr.Name _ _) [_, Expr.Tuple [Expr.Name _ _, Expr.Name _ _] _ _] _ _) _ _ _); (refine Dl.d_isi2 ?frA ?frB ?frC ?frD ?frE ?frF ?_; (case frA => walk_at "fr"); (case frB => walk_at "fr"); (case frC => walk_at "fr"); (case frD => rfl); (case frE => rfl); (case frF => rfl)))
  | ((with_reducible show Dl.dE _ _ (Expr.Call (Expr.Name _ _) _ _ _) _ _ _); walk_at "call")
  | ((with_reducible show Dl.dE _ _ (Expr.BoolOp _ [_] _) _ _ _); refine Dl.d_one ?_)
  | ((with_reducible show Dl.dE _ _ (Expr.BoolOp BoolOp.And _ _) _ _ _); refine Dl.d_and ?_)
  | ((with_reducible show Dl.dE _ _ (Expr.BoolOp BoolOp.Or _ _) _ _ _); refine Dl.d_or ?_)
  | ((with_reducible show Dl.dE _ _ (Expr.UnaryOp UnaryOp.Not _ _) _ _ _); refine Dl.d_not ?_)
  | ((with_reducible show Dl.dE _ _ (Expr.UnaryOp UnaryOp.USub _ _) _ _ _); refine Dl.d_neg ?_)
  | ((with_reducible show Dl.dE _ _ (Expr.BinOp _ _ _ _) _ _ _); refine Dl.d_bin ?_)
  | ((with_reducible show Dl.dE _ _ (Expr.Compare _ [_] _ _) _ _ _); refine Dl.d_cmp ?_)
  | ((with_reducible show Dl.dE _ _ (Expr.Compare _ [_, _] _ _) _ _ _); refine Dl.d_chain ?_)
  | ((with_reducible show Dl.dE _ _ (Expr.IfExp _ _ _ _) _ _ _); refine Dl.d_if ?_)
  | ((with_reducible show Dl.dE _ _ (Expr.Tuple _ _ _) _ _ _); refine Dl.d_tup ?_)
  | ((with_reducible show Dl.dE _ _ (Expr.List _ _) _ _ _); refine Dl.d_lst ?_)
  | ((with_reducible show Dl.dE _ _ (Expr.Subscript _ (Expr.Slice _ _ _ _) _) _ _ _); refine Dl.d_slice ?_)
  | ((with_reducible show Dl.dE _ _ (Expr.Subscript _ _ _) _ _ _); refine Dl.d_ix ?_)))
local macro_rules | `(tactic| walk_at "ad") => `(tactic| ((with_reducible show Dl.dA _ _ _ _ _ _); first | refine Dl.a_nil ?_ | refine Dl.a_cons ?_))
local macro_rules | `(tactic| walk_at "td") => `(tactic| first
  | ((with_reducible show Dl.dT _ _ (Expr.UnaryOp UnaryOp.Not _ _) _ _ _); refine Dl.t_not ?_)
  | ((with_reducible show Dl.dT _ _ (Expr.BoolOp _ _ _) _ _ _); refine Dl.t_bool ?_)
  | ((with_reducible show Dl.dT _ _ (Expr.Compare _ [_] _ _) _ _ _); refine Dl.t_cmp ?_)
  | ((with_reducible show Dl.dT _ _ (Expr.Compare _ [_, _] _ _) _ _ _); refine Dl.t_chain ?_)
  | ((with_reducible show Dl.dT _ _ (_) _ _ _); refine Dl.t_val ?_)
  | ((with_reducible show Dl.dW _ _ (Expr.BoolOp BoolOp.And [_] _) _ _ _); refine Dl.w_and1 ?_)
  | ((with_reducible show Dl.dW _ _ (Expr.BoolOp BoolOp.Or [_] _) _ _ _); refine Dl.w_or1 ?_)
  | ((with_reducible show Dl.dW _ _ (Expr.BoolOp BoolOp.And _ _) _ _ _); refine Dl.w_and ?_)
  | ((with_reducible show Dl.dW _ _ (Expr.BoolOp BoolOp.Or _ _) _ _ _); refine Dl.w_or ?_))
local macro_rules | `(tactic| walk_at "od") => `(tactic| ((with_reducible show Dl.OpD _ _ _ _ _ _); first
  | refine Dl.o_add ?_ | refine Dl.o_sub ?_ | refine Dl.o_lt ?_ | refine Dl.o_le ?_ | refine Dl.o_gt ?_ | refine Dl.o_ge ?_ | refine Dl.o_eq ?_ | refine Dl.o_ne ?_ | refine Dl.o_eqS ?_ | refine Dl.o_mul ?_ ?_ | refine Dl.o_mod ?_ ?_ | refine Dl.o_fdivW ?_ ?_ | refine Dl.o_inS ?_ | refine Dl.o_notInS ?_
  | refine Dl.o_isN ?_ | refine Dl.o_notN ?_))
local macro_rules | `(tactic| walk_at "cd") => `(tactic| ((with_reducible show Dl.CallD _ _ _ _ _); first
  | refine Dl.c_lenT ?_ | refine Dl.c_lenL ?_ | refine Dl.c_lenO ?_ | refine Dl.c_abs ?_ | refine Dl.c_int ?_ | refine Dl.c_lenS ?_ ?_ | refine Dl.c_allT ?_
  | refine Dl.c_isInt ?_ | refine Dl.c_isBool ?_ | refine Dl.c_isStr ?_ | refine Dl.c_isTuple ?_ | refine Dl.c_isList ?_
  | refine Dl.c_allF ?_ | refine Dl.c_tupL ?_ | refine Dl.c_tupT ?_))
local macro_rules | `(tactic| walk_at "sd") => `(tactic| first
  | ((with_reducible show Dl.dS _ _ _ (Stmt.Return (some _) _) _ _ _ _); refine Dl.s_ret ?_)
  | ((with_reducible show Dl.dS _ _ _ (Stmt.Assign [Expr.Tuple [Expr.Name _ _, Expr.Name _ _] _ _] (Expr.Tuple [_, _] _ _) _) _ _ _ _); (refine Dl.s_pr (i := ?stI) (j := ?stJ) ?stA ?stB ?stC ?stD ?stE ?_; (case stA => rfl); (case stB => rfl); (case stC => rfl); (case stD => rfl); (case stE => rfl)))
  | ((with_reducible show Dl.dS _ _ _ (Stmt.If _ _ _ _) _ _ _ _); refine Dl.s_if ?_)
  | ((with_reducible show Dl.dS _ _ _ (Stmt.Assign [Expr.Name _ _] _ _) _ _ _ _); (refine Dl.s_st (i := ?stI) ?stA ?stB ?stC ?_; (case stA => rfl); (case stB => rfl); (case stC => rfl)))
  | ((with_reducible show Dl.dS _ _ _ (Stmt.Expr _ _) _ _ _ _); refine Dl.s_expr ?_)
  | ((with_reducible show Dl.dSs _ _ _ _ _ _ _ _); first | refine Dl.s_cons ?_ | refine Dl.s_nil ?_))
local macro_rules | `(tactic| walk_at "xd") => `(tactic| ((with_reducible show Dl.IxD _ _ _ _ _); first | (refine Dl.x_T (d := ?ixD) ?ixE ?_; (case ixE => rfl)) | (refine Dl.x_L (d := ?ixD) ?ixE ?_; (case ixE => rfl)) | (refine Dl.x_O (d := ?ixD) ?ixE ?_; (case ixE => rfl))))
local macro_rules | `(tactic| walk_at "ds") => `(tactic| (refine Dl.ex_dats (ds := ?dsW) ?dsA ?dsB ?_; (case dsA => rfl); (case dsB => rfl)))
local macro_rules | `(tactic| walk_at "dl") => `(tactic| first
  | walk_at "ds"
  | walk_at "ed"
  | walk_at "ad"
  | walk_at "td"
  | walk_at "od"
  | walk_at "cd"
  | walk_at "sd"
  | walk_at "xd"
  | ((with_reducible refine ⟨_, rfl, fun hc => ?_, fun hc => ?_⟩) <;> (first | contradiction | (exfalso; revert hc; simp [Dl.isTy, Dl.tyD]; done) | skip))
  | ((with_reducible refine ⟨fun hc => ?_, fun hc => ?_⟩) <;> (first | contradiction | (exfalso; revert hc; simp [Dl.isTy, Dl.tyD]; done) | skip))
  | (refine ⟨_, _, rfl, rfl, ?_⟩)
  | (refine ⟨rfl, ?_⟩)
  | (with_reducible refine ⟨_, rfl, ?_⟩)
  | (refine ⟨(_, _), rfl, ?_⟩)
  | (refine ⟨(_, _, _), rfl, ?_⟩)
  | (refine ⟨True.intro, fun _ hs => ?_, fun _ hx => False.elim hx⟩; replace hs : _ = Dl.Sl.dat _ := hs; subst hs)
  | (refine ⟨by assumption, fun _ hs => ?_, fun _ hx => False.elim hx⟩; replace hs : _ = Dl.Sl.dat _ := hs; subst hs)
  | fail)
section
variable {G : Dl.Gd}
theorem ok_is_kind (T : Top G) (X : Ext G) : Dl.Fn G 11 "is_kind" (okSpec KindD) := by
  have h1 := ok_is_tuple_of T 9
  have h2 := ok_is_sized T
  have h3 := ok_is_between T
  have h4 := ok_is_named T X
  have h5 := ok_is_tie T X
  have h6 := ok_is_menu T X
  have f1 := fr_len T
  refine mk_is_kind T (fun _ => rfl) fun cdv M0 d hp => ?_
  obtain ⟨⟨n, cs, ts, ms⟩, rfl, b1, b2, b3, b4, b5, b6, b7⟩ := hp
  dsimp only at b1 b2 b3 b4 b5 b6 b7
  have c1 : ((cs.map eCol).length : Int) = cs.length := by rw [List.length_map]
  have c2 : ((ts.map eTie).length : Int) = ts.length := by rw [List.length_map]
  have c3 : ((ms.map eMenu).length : Int) = ms.length := by rw [List.length_map]
  repeat' walk_at "dl"
  · exfalso
    rename_i hc
    revert hc
    rcases b1 with e | e <;> (have e' : n = _ := e; subst e'; decide)
  · refine Dl.d_glob (f := He.ga G.W.K "is_named") rfl h4.glo ?_
    refine Dl.a_nil ⟨(cs.map eCol, _, ColOk), rfl, ⟨.fn (h4.has.mono (by decide)), fun d hd => ?_⟩, fun s hs => ?_, fun _ h => h.elim⟩
    · obtain ⟨c, hc, rfl⟩ := List.mem_map.mp hd
      exact ⟨c, rfl, (b3 c hc).1, (b3 c hc).2⟩
    replace hs : _ = Dl.Sl.dat _ := hs
    subst hs
    repeat' walk_at "dl"
    · exfalso
      rename_i hc
      revert hc
      simp [b2.2]
      omega
    · refine Dl.d_glob (f := He.ga G.W.K "is_tie") rfl h5.glo ?_
      refine Dl.a_nil ⟨(ts.map eTie, _, TieOk), rfl, ⟨.fn (h5.has.mono (by decide)), fun d hd => ?_⟩, fun s hs => ?_, fun _ h => h.elim⟩
      · obtain ⟨t, ht, rfl⟩ := List.mem_map.mp hd
        exact ⟨t.1, t.2, rfl, b5 t ht⟩
      replace hs : _ = Dl.Sl.dat _ := hs
      subst hs
      repeat' walk_at "dl"
      · exfalso
        rename_i hc _
        revert hc
        simp
        omega
      · refine Dl.d_glob (f := He.ga G.W.K "is_menu") rfl h6.glo ?_
        refine Dl.a_nil ⟨(ms.map eMenu, _, MenuD), rfl, ⟨.fn (h6.has.mono (by decide)), fun d hd => ?_⟩, fun s hs => ?_, fun _ h => h.elim⟩
        · obtain ⟨m, hm, rfl⟩ := List.mem_map.mp hd
          exact ⟨m, rfl, b6 m hm⟩
        replace hs : _ = Dl.Sl.dat _ := hs
        subst hs
        have c4 : cs.length = 1 ∨ cs.length = 2 ∨ cs.length = 3 := by omega
        repeat' walk_at "dl"
        · refine .inl ⟨?_, ?_⟩ <;> (show _ < _; rw [c1]; omega)
        · exact ⟨by decide, by decide +kernel⟩
        · show _ = _
          have e : (((ms.map eMenu).length : Int) = ((cs.map eCol).length : Int) * (((cs.map eCol).length : Int) + 1) / 2) := by
            rw [c1, c3, b7]
            rcases c4 with e | e | e <;> rw [e] <;> rfl
          rw [decide_eq_true e]
    · exfalso
      rename_i hc _
      revert hc
      simp
      omega
end
end K76
set_option Elab.async false
set_option linter.all false
set_option maxRecDepth 100000
set_option maxHeartbeats 4000000
set_option autoImplicit false
namespace K76
open PySem PySem.Spec PyProof.Rows L2
local macro_rules | `(tactic| walk_at "nm") => `(tactic| (refine Dl.d_nm (s := ?nmS) ?nmA ?nmB ?_; (case nmA => rfl); (case nmB => rfl)))
local macro_rules | `(tactic| walk_at "fr") => `(tactic| first | assumption)
local macro_rules | `(tactic| walk_at "name") => `(tactic| first
  | walk_at "nm"
  | ((with_reducible show Dl.dE _ _ (Expr.Name "int" _) _ _ _); refine Dl.d_t_int ?frA ?frB ?_; (case frA => walk_at "fr"); (case frB => rfl))
  | ((with_reducible show Dl.dE _ _ (Expr.Name "tuple" _) _ _ _); refine Dl.d_t_tuple ?frA ?frB ?_; (case frA => walk_at "fr"); (case frB => rfl))
  | ((with_reducible show Dl.dE _ _ (Expr.Name "list" _) _ _ _); refine Dl.d_t_list ?frA ?frB ?_; (case frA => walk_at "fr"); (case frB => rfl))
  | ((with_reducible show Dl.dE _ _ (Expr.Name "str" _) _ _ _); refine Dl.d_t_str ?frA ?frB ?_; (case frA => walk_at "fr"); (case frB => rfl))
  | ((with_reducible show Dl.dE _ _ (Expr.Name "bool" _) _ _ _); refine Dl.d_t_bool ?frA ?frB ?_; (case frA => walk_at "fr"); (case frB => rfl))
  | ((with_reducible show Dl.dE _ _ (Expr.Name "set" _) _ _ _); refine Dl.d_t_set ?frA ?frB ?_; (case frA => walk_at "fr"); (case frB => rfl))
  | walk_at "glob")
local macro_rules | `(tactic| walk_at "glob") => `(tactic| first
  | (refine Dl.d_globInt (i := ?gI) ?gA ?gB ?_; (case gA => rfl); (case gB => assumption))
  | (refine Dl.d_globStr (i := ?gI) ?gA ?gB ?_; (case gA => rfl); (case gB => assumption)))
local macro_rules | `(tactic| walk_at "call") => `(tactic| first
  | ((with_reducible show Dl.dE _ _ (Expr.Call (Expr.Name "isinstance" _) _ _ _) _ _ _); refine Dl.d_b_isinstance ?frA ?frB ?_; (case frA => walk_at "fr"); (case frB => rfl))
  | ((with_reducible show Dl.dE _ _ (Expr.Call (Expr.Name "len" _) _ _ _) _ _ _); refine Dl.d_b_len ?frA ?frB ?_; (case frA => walk_at "fr"); (case frB => rfl))
  | ((with_reducible show Dl.dE _ _ (Expr.Call (Expr.Name "all" _) _ _ _) _ _ _); refine Dl.d_b_all ?frA ?frB ?_; (case frA => walk_at "fr"); (case frB => rfl))
  | ((with_reducible show Dl.dE _ _ (Expr.Call (Expr.Name "any" _) _ _ _) _ _ _); refine Dl.d_b_any ?frA ?frB ?_; (case frA => walk_at "fr"); (case frB => rfl))
  | ((with_reducible show Dl.dE _ _ (Expr.Call (Expr.Name "abs" _) _ _ _) _ _ _); refine Dl.d_b_abs ?frA ?frB ?_; (case frA => walk_at "fr"); (case frB => rfl))
  | ((with_reducible show Dl.dE _ _ (Expr.Call (Expr.Name "sum" _) _ _ _) _ _ _); refine Dl.d_b_sum ?frA ?frB ?_; (case frA => walk_at "fr"); (case frB => rfl))
  | ((with_reducible show Dl.dE _ _ (Expr.Call (Expr.Name "min" _) _ _ _) _ _ _); refine Dl.d_b_min ?frA ?frB ?_; (case frA => walk_at "fr"); (case frB => rfl))
  | ((with_reducible show Dl.dE _ _ (Expr.Call (Expr.Name "max" _) _ _ _) _ _ _); refine Dl.d_b_max ?frA ?frB ?_; (case frA => walk_at "fr"); (case frB => rfl))
  | ((with_reducible show Dl.dE _ _ (Expr.Call (Expr.Name "sorted" _) _ _ _) _ _ _); refine Dl.d_b_sorted ?frA ?frB ?_; (case frA => walk_at "fr"); (case frB => rfl))
  | ((with_reducible show Dl.dE _ _ (Expr.Call (Expr.Name "int" _) _ _ _) _ _ _); refine Dl.d_c_int ?frA ?frB ?_; (case frA => walk_at "fr"); (case frB => rfl))
  | ((with_reducible show Dl.dE _ _ (Expr.Call (Expr.Name "tuple" _) _ _ _) _ _ _); refine Dl.d_c_tuple ?frA ?frB ?_; (case frA => walk_at "fr"); (case frB => rfl))
  | ((with_reducible show Dl.dE _ _ (Expr.Call (Expr.Name "list" _) _ _ _) _ _ _); refine Dl.d_c_list ?frA ?frB ?_; (case frA => walk_at "fr"); (case frB => rfl))
  | ((with_reducible show Dl.dE _ _ (Expr.Call (Expr.Name "str" _) _ _ _) _ _ _); refine Dl.d_c_str ?frA ?frB ?_; (case frA => walk_at "fr"); (case frB => rfl))
  | ((with_reducible show Dl.dE _ _ (Expr.Call (Expr.Name "bool" _) _ _ _) _ _ _); refine Dl.d_c_bool ?frA ?frB ?_; (case frA => walk_at "fr"); (case frB => rfl))
  | ((with_reducible show Dl.dE _ _ (Expr.Call (Expr.Name "set" _) _ _ _) _ _ _); refine Dl.d_c_set ?frA ?frB ?_; (case frA => walk_at "fr"); (case frB => rfl))
  | (refine Dl.d_fn (j := ?fnJ) (S := ?fnS) ?fnA ?fnB ?fnC ?_; (case fnA => assumption); (case fnB => exact Nat.le_of_ble_eq_true rfl); (case fnC => rfl)))
local macro_rules | `(tactic| walk_at "ed") => `(tactic| ((with_reducible show Dl.dE _ _ _ _ _ _); first
  | ((with_reducible show Dl.dE _ _ (Expr.Name _ _) _ _ _); walk_at "name")
  | ((with_reducible show Dl.dE _ _ (Expr.Constant (Const.int _) _ _) _ _ _); refine Dl.d_int ?_)
  | ((with_reducible show Dl.dE _ _ (Expr.Constant (Const.str _) _ _) _ _ _); refine Dl.d_str ?_)
  | ((with_reducible show Dl.dE _ _ (Expr.Constant (Const.bool _) _ _) _ _ _); refine Dl.d_bool ?_)
  | ((with_reducible show Dl.dE _ _ (Expr.Constant Const.none _ _) _ _ _); refine Dl.d_none ?_)
  | ((with_reducible show Dl.dE _ _ (Expr.Call (Expr.Name _ _) [_, Expr.Tuple [Expr.Name _ _, Expr.Name _ _] _ _] _ _) _ _ _); (refine Dl.d_isi2 ?frA ?frB ?frC ?frD ?frE ?frF ?_; (case frA => walk_at "fr"); (case frB => walk_at "fr"); (case frC => walk_at "fr"); (case frD => rfl); (case frE => rfl); (case frF => rfl)))
  | ((with_reducible show Dl.dE _ _ (Expr.Call (Expr.Name _ _) _ _ _) _ _ _); walk_at "call")
  | ((with_reducible show Dl.dE _ _ (Expr.BoolOp _ [_] _) _ _ _); refine Dl.d_one ?_)
  | ((with_reducible show Dl.dE _ _ (Expr.BoolOp BoolOp.And _ _) _ _ _); refine Dl.d_and ?_)
  | ((with_reducible show Dl.dE _ _ (Expr.BoolOp BoolOp.Or _ _) _ _ _); refine Dl.d_or ?_)
  | ((with_reducible show Dl.dE _ _ (Expr.UnaryOp UnaryOp.Not _ _) _ _ _); refine Dl.d_not ?_)
  | ((with_reducible show Dl.dE _ _ (Expr.UnaryOp UnaryOp.USub _ _) _ _ _); refine Dl.d_neg ?_)
  | ((with_reducible show Dl.dE _ _ (Expr.BinOp _ _ _ _) _ _ _); refine Dl.d_bin ?_)
  | ((with_reducible show Dl.dE _ _ (Expr.Compare _ [_] _ _) _ _ _); refine Dl.d_cmp ?_)
  | ((with_reducible show Dl.dE _ _ (Expr.Compare _ [_, _] _ _) _ _ _); refine Dl.d_chain ?_)
  | ((with_reducible show Dl.dE _ _ (Expr.IfExp _ _ _ _) _ _ _); refine Dl.d_if ?_)
  | ((with_reducible show Dl.dE _ _ (Expr.Tuple _ _ _) _ _ _); refine Dl.d_tup ?_)
  | ((with_reducible show Dl.dE _ _ (Expr.List _ _) _ _ _); refine Dl.d_lst ?_)
  | ((with_reducible show Dl.dE _ _ (Expr.Subscript _ (Expr.Slice _ _ _ _) _) _ _ _); refine Dl.d_slice ?_)
  | ((with_reducible show Dl.dE _ _ (Expr.Subscript _ _ _) _ _ _); refine Dl.d_ix ?_)))
local macro_rules | `(tactic| walk_at "ad") => `(tactic| ((with_reducible show Dl.dA _ _ _ _ _ _); first | refine Dl.a_nil ?_ | refine Dl.a_cons ?_))
local macro_rules | `(tactic| walk_at "td") => `(tactic| first
  | ((with_reducible show Dl.dT _ _ (Expr.UnaryOp UnaryOp.Not _ _) _ _ _); refine Dl.t_not ?_)
  | ((with_reducible show Dl.dT _ _ (Expr.BoolOp _ _ _) _ _ _); refine Dl.t_bool ?_)
  | ((with_reducible show Dl.dT _ _ (Expr.Compare _ [_] _ _) _ _ _); refine Dl.t_cmp ?_)
  | ((with_reducible show Dl.dT _ _ (Expr.Compare _ [_, _] _ _) _ _ _); refine Dl.t_chain ?_)
  | ((with_reducible show Dl.dT _ _ (_) _ _ _); refine Dl.t_val ?_)
  | ((with_reducible show Dl.dW _ _ (Expr.BoolOp BoolOp.And [_] _) _ _ _); refine Dl.w_and1 ?_)
  | ((with_reducible show Dl.dW _ _ (Expr.BoolOp BoolOp.Or [_] _) _ _ _); refine Dl.w_or1 ?_)
  | ((with_reducible show Dl.dW _ _ (Expr.BoolOp BoolOp.And _ _) _ _ _); refine Dl.w_and ?_)
  | ((with_reducible show Dl.dW _ _ (Expr.BoolOp BoolOp.Or _ _) _ _ _); refine Dl.w_or ?_))
local macro_rules | `(tactic| walk_at "od") => `(tactic| ((with_reducible show Dl.OpD _ _ _ _ _ _); first
  | refine Dl.o_add ?_ | refine Dl.o_sub ?_ | refine Dl.o_lt ?_ | refine Dl.o_le ?_ | refine Dl.o_gt ?_ | refine Dl.o_ge ?_ | refine Dl.o_eq ?_ | refine Dl.o_ne ?_ | refine Dl.o_eqS ?_ | refine Dl.o_mul ?_ ?_ | refine Dl.o_mod ?_ ?_ | refine Dl.o_fdivW ?_ ?_ | refine Dl.o_inS ?_ | refine Dl.o_notInS ?_
  | refine Dl.o_isN ?_ | refine Dl.o_notN ?_))
local macro_rules | `(tactic| walk_at "cd") => `(tactic| ((with_reducible show Dl.CallD _ _ _ _ _); first
  | refine Dl.c_lenT ?_ | refine Dl.c_lenL ?_ | refine Dl.c_lenO ?_ | refine Dl.c_abs ?_ | refine Dl.c_int ?_ | refine Dl.c_lenS ?_ ?_ | refine Dl.c_allT ?_
  | refine Dl.c_isInt ?_ | refine Dl.c_isBool ?_ | refine Dl.c_isStr ?_ | refine Dl.c_isTuple ?_ | refine Dl.c_isList ?_
  | refine Dl.c_allF ?_ | refine Dl.c_tupL ?_ | refine Dl.c_tupT ?_))
local macro_rules | `(tactic| walk_at "sd") => `(tactic| first
  | ((with_reducible show Dl.dS _ _ _ (Stmt.Return (some _) _) _ _ _ _); refine Dl.s_ret ?_)
  | ((with_reducible show Dl.dS _ _ _ (Stmt.Assign [Expr.Tuple [Expr.Name _ _, Expr.Name _ _] _ _] (Expr.Tuple [_, _] _ _) _) _ _ _ _); (refine Dl.s_pr (i := ?stI) (j := ?stJ) ?stA ?stB ?stC ?stD ?stE ?_; (case stA => rfl); (case stB => rfl); (case stC => rfl); (case stD => rfl); (case stE => rfl)))
  | ((with_reducible show Dl.dS _ _ _ (Stmt.If _ _ _ _) _ _ _ _); refine Dl.s_if ?_)
  | ((with_reducible show Dl.dS _ _ _ (Stmt.Assign [Expr.Name _ _] _ _) _ _ _ _); (refine Dl.s_st (i := ?stI) ?stA ?stB ?stC ?_; (case stA => rfl); (case stB => rfl); (case stC => rfl)))
  | ((with_reducible show Dl.dS _ _ _ (Stmt.Expr _ _) _ _ _ _); refine Dl.s_expr ?_)
  | ((with_reducible show Dl.dSs _ _ _ _ _ _ _ _); first | refine Dl.s_cons ?_ | refine Dl.s_nil ?_))
local macro_rules | `(tactic| walk_at "xd") => `(tactic| ((with_reducible show Dl.IxD _ _ _ _ _); first | (refine Dl.x_T (d := ?ixD) ?ixE ?_; (case ixE => rfl)) | (refine Dl.x_L (d := ?ixD) ?ixE ?_; (case ixE => rfl)) | (refine Dl.x_O (d := ?ixD) ?ixE ?_; (case ixE => rfl))))
local macro_rules | `(tactic| walk_at "ds") => `(tactic| (refine Dl.ex_dats (ds := ?dsW) ?dsA ?dsB ?_; (case dsA => rfl); (case dsB => rfl)))
local macro_rules | `(tactic| walk_at "dl") => `(tactic| first
  | walk_at "ds"
  | walk_at "ed"
  | walk_at "ad"
  | walk_at "td"
  | walk_at "od"
  | walk_at "cd"
  | walk_at "sd"
  | walk_at "xd"
  | ((with_reducible refine ⟨_, rfl, fun hc => ?_, fun hc => ?_⟩) <;> (first | contradiction | (exfalso; revert hc; simp [Dl.isTy, Dl.tyD]; done) | skip))
  | ((with_reducible refine ⟨fun hc => ?_, fun hc => ?_⟩) <;> (first | contradiction | (exfalso; revert hc; simp [Dl.isTy, Dl.tyD]; done) | skip))
  | (refine ⟨_, _, rfl, rfl, ?_⟩)
  | (refine ⟨rfl, ?_⟩)
  | (with_reducible refine ⟨_, rfl, ?_⟩)
  | (refine ⟨(_, _), rfl, ?_⟩)
  | (refine ⟨(_, _, _), rfl, ?_⟩)
  | (refine ⟨True.intro, fun _ hs => ?_, fun _ hx => False.elim hx⟩; replace hs : _ = Dl.Sl.dat _ := hs; subst hs)
  | (refine ⟨by assumption, fun _ hs => ?_, fun _ hx => False.elim hx⟩; replace hs : _ = Dl.Sl.dat _ := hs; subst hs)
  | fail)
def red (s : Sh) : Sh := (s.1 / (Nat.gcd s.1.natAbs s.2.natAbs : Int), s.2 / (Nat.gcd s.1.natAbs s.2.natAbs : Int))
def plusF (a b : Sh) : Sh := red (a.1 * b.2 + b.1 * a.2, a.2 * b.2)
section
variable {G : Dl.Gd}
def gcdSpec : Dl.Spec where
  α := Int × Int
  arg a := [.dat (.int a.1), .dat (.int a.2)]
  pre _ := True
  post a s := s = .dat (.int (Nat.gcd a.1.natAbs a.2.natAbs : Int))
theorem ok_greatest_common (T : Top G) : Dl.Fn G 1 "greatest_common" gcdSpec := by
  have f1 := fr_abs T
  refine mk_greatest_common T (fun _ => rfl) fun cdv M0 ⟨x, y⟩ _ => ?_
  repeat' walk_at "dl"
  rw [abs_nat, abs_nat]
  refine Dl.s_while (fun m M Γ => M = M0 ∧ ∃ a b : Nat, Γ = [some (.dat (.int a)), some (.dat (.int b))] ∧ m = b ∧ Nat.gcd a b = Nat.gcd x.natAbs y.natAbs) y.natAbs ⟨rfl, x.natAbs, y.natAbs, rfl, rfl, rfl⟩ fun m M Γ hI => ?_
  obtain ⟨rfl, a, b, rfl, rfl, hg⟩ := hI
  repeat' walk_at "dl"
  · rename_i hc
    simp at hc
    omega
  · rename_i hc
    simp at hc
    exact ⟨a % m, Nat.mod_lt _ (by omega), rfl, m, a % m, rfl, rfl, gcd_step hg hc⟩
  · rename_i hc
    simp at hc
    subst hc
    show _ = _
    rw [← hg, Nat.gcd_zero_right]
def madeSpec : Dl.Spec where
  α := Sh
  arg a := [.dat (.int a.1), .dat (.int a.2)]
  pre a := 0 < a.2 ∧ a.2 < 2 ^ 4000
  post a s := s = .dat (eSh (red a))
theorem gcd_le_of_pos {x y : Int} (h : 0 < y) : (Nat.gcd x.natAbs y.natAbs : Int) ≤ y ∧ 0 < (Nat.gcd x.natAbs y.natAbs : Int) := by
  have h1 : Nat.gcd x.natAbs y.natAbs ≤ y.natAbs := Nat.gcd_le_right _ (by omega)
  have h2 : 0 < Nat.gcd x.natAbs y.natAbs := Nat.gcd_pos_of_pos_right _ (by omega)
  omega
theorem ok_made (T : Top G) : Dl.Fn G 2 "made" madeSpec := by
  have h1 := ok_is_number T
  have h2 := ok_greatest_common T
  refine mk_made T (fun _ => rfl) fun cdv M0 ⟨x, y⟩ hp => ?_
  have b1 : 0 < y := hp.1
  have b2 : y < 2 ^ 4000 := hp.2
  obtain ⟨g1, g2⟩ := gcd_le_of_pos (x := x) b1
  repeat' walk_at "dl"
  all_goals first
    | (exfalso; rename_i hc; revert hc; simp [isNumber_int]; done)
    | (exfalso; rename_i hc; revert hc; simp; omega)
    | exact ⟨g2, Int.lt_of_le_of_lt g1 b2⟩
    | exact rfl
def fracSpec2 : Dl.Spec where
  α := Sh × Sh
  arg a := [.dat (eSh a.1), .dat (eSh a.2)]
  pre a := frac a.1 = true ∧ frac a.2 = true
  post _ _ := True
theorem ok_check_two (T : Top G) : Dl.Fn G 3 "check_two" fracSpec2 := by
  have h1 := ok_is_fraction T
  refine mk_check_two T (fun _ => rfl) fun cdv M0 ⟨x, y⟩ hp => ?_
  obtain ⟨b1, b2⟩ := hp
  dsimp only at b1 b2
  repeat' walk_at "dl"
  all_goals first
    | (exfalso; simp_all; done)
    | exact True.intro
theorem frac_iff {s : Sh} : frac s = true ↔ 1 ≤ s.2 ∧ Nat.gcd s.1.natAbs s.2.natAbs = 1 := by simp [frac]
theorem share_iff {s : Sh} : isShare s = true ↔ (frac s = true ∧ s.1.natAbs ≤ 20) ∧ s.2 ≤ 20 := by
  simp [isShare]
  omega
def plusSpec : Dl.Spec where
  α := Sh × Sh
  arg a := [.dat (eSh a.1), .dat (eSh a.2)]
  pre a := frac a.1 = true ∧ isShare a.2 = true ∧ a.1.2 < 2 ^ 900
  post a s := s = .dat (eSh (plusF a.1 a.2))
theorem ok_plus (T : Top G) : Dl.Fn G 4 "plus" plusSpec := by
  have h1 := ok_check_two T
  have h2 := ok_made T
  refine mk_plus T (fun _ => rfl) fun cdv M0 ⟨⟨x, y⟩, ⟨z, w⟩⟩ hp => ?_
  obtain ⟨b1, b2, b3⟩ := hp
  dsimp only at b1 b2 b3
  obtain ⟨⟨b4, b5⟩, b6⟩ := share_iff.mp b2
  have b7 := (frac_iff.mp b1).1
  have b8 := (frac_iff.mp b4).1
  dsimp only at b5 b6 b7 b8
  repeat' walk_at "dl"
  refine ⟨⟨b1, b4⟩, fun s _ => ?_, fun _ h => h.elim⟩
  repeat' walk_at "dl"
  · exact .inr ⟨by show _ < w; omega, by show w < _; omega⟩
  · exact .inl ⟨by show _ < z; omega, by show z < _; omega⟩
  · exact .inr ⟨by show _ < w; omega, by show w < _; omega⟩
  · have p1 : 0 < y * w := Int.mul_pos (by omega) (by omega)
    have p2 : y * w < 2 ^ 4000 := by
      have h1 : y * w ≤ y * 20 := Int.mul_le_mul_of_nonneg_left b6 (by omega)
      have h2 : y * 20 < 2 ^ 900 * 20 := Int.mul_lt_mul_of_pos_right b3 (by decide)
      have h3 : (2 : Int) ^ 900 * 20 ≤ 2 ^ 4000 := by decide +kernel
      omega
    refine ⟨⟨p1, p2⟩, fun s hs => ?_, fun _ h => h.elim⟩
    replace hs : _ = Dl.Sl.dat _ := hs
    subst hs
    exact ⟨rfl, rfl⟩
/-- what summed gives -/
def sumF (l : List Sh) : Sh := l.foldl plusF (0, 1)
theorem gcd_split (a b : Int) (h : 0 < Nat.gcd a.natAbs b.natAbs) : ∃ p q : Int, a = (Nat.gcd a.natAbs b.natAbs : Int) * p ∧ b = (Nat.gcd a.natAbs b.natAbs : Int) * q ∧ Nat.gcd p.natAbs q.natAbs = 1 := by
  obtain ⟨p, hp⟩ := @Int.gcd_dvd_left a b
  obtain ⟨q, hq⟩ := @Int.gcd_dvd_right a b
  have e : Int.gcd a b = Nat.gcd a.natAbs b.natAbs := rfl
  rw [e] at hp hq
  refine ⟨p, q, hp, hq, ?_⟩
  have h1 : a.natAbs = Nat.gcd a.natAbs b.natAbs * p.natAbs := by
    conv => lhs; rw [hp]
    rw [Int.natAbs_mul, Int.natAbs_natCast]
  have h2 : b.natAbs = Nat.gcd a.natAbs b.natAbs * q.natAbs := by
    conv => lhs; rw [hq]
    rw [Int.natAbs_mul, Int.natAbs_natCast]
  have h3 : Nat.gcd (Nat.gcd a.natAbs b.natAbs * p.natAbs) (Nat.gcd a.natAbs b.natAbs * q.natAbs) = Nat.gcd a.natAbs b.natAbs := by rw [← h1, ← h2]
  rw [Nat.gcd_mul_left] at h3
  have h4 : Nat.gcd a.natAbs b.natAbs * Nat.gcd p.natAbs q.natAbs = Nat.gcd a.natAbs b.natAbs * 1 := by rw [Nat.mul_one]; exact h3
  exact Nat.eq_of_mul_eq_mul_left h h4
theorem red_eq {s : Sh} {p q : Int} (h : 0 < Nat.gcd s.1.natAbs s.2.natAbs) (hp : s.1 = (Nat.gcd s.1.natAbs s.2.natAbs : Int) * p) (hq : s.2 = (Nat.gcd s.1.natAbs s.2.natAbs : Int) * q) : red s = (p, q) := by
  unfold red
  have hg : (Nat.gcd s.1.natAbs s.2.natAbs : Int) ≠ 0 := by omega
  refine Prod.ext ?_ ?_
  · show s.1 / (Nat.gcd s.1.natAbs s.2.natAbs : Int) = p
    conv => lhs; arg 1; rw [hp]
    exact Int.mul_ediv_cancel_left _ hg
  · show s.2 / (Nat.gcd s.1.natAbs s.2.natAbs : Int) = q
    conv => lhs; arg 1; rw [hq]
    exact Int.mul_ediv_cancel_left _ hg
theorem frac_red {s : Sh} (h : 1 ≤ s.2) : frac (red s) = true := by
  have hg := gcd_le_of_pos (x := s.1) (y := s.2) (by omega)
  have hn : 0 < Nat.gcd s.1.natAbs s.2.natAbs := by have := hg.2; omega
  obtain ⟨p, q, hp, hq, h1⟩ := gcd_split s.1 s.2 hn
  rw [red_eq hn hp hq, frac_iff]
  refine ⟨?_, h1⟩
  show 1 ≤ q
  have hpos : 0 < (Nat.gcd s.1.natAbs s.2.natAbs : Int) * q := by rw [← hq]; omega
  by_cases h2 : 0 < q
  · omega
  · have := Int.mul_le_mul_of_nonneg_left (show q ≤ 0 by omega) (Int.le_of_lt hg.2)
    rw [Int.mul_zero] at this
    omega
theorem red_le {s : Sh} (h : 1 ≤ s.2) : (red s).2 ≤ s.2 := by
  show s.2 / _ ≤ s.2
  exact Int.ediv_le_self _ (by omega)
theorem plus_ok {a b : Sh} (ha : frac a = true) (hb : isShare b = true) : frac (plusF a b) = true ∧ (plusF a b).2 ≤ a.2 * 20 := by
  have h1 := (frac_iff.mp ha).1
  have h2 := (share_iff.mp hb)
  have h3 := (frac_iff.mp h2.1.1).1
  have h4 : 1 ≤ a.2 * b.2 := by have := Int.mul_pos (show 0 < a.2 by omega) (show 0 < b.2 by omega); omega
  refine ⟨frac_red h4, Int.le_trans (red_le h4) ?_⟩
  exact Int.mul_le_mul_of_nonneg_left h2.2 (by omega)
theorem sum_ok : ∀ (l : List Sh) (a : Sh), (∀ s ∈ l, isShare s = true) → frac a = true → frac (l.foldl plusF a) = true ∧ (l.foldl plusF a).2 ≤ a.2 * 20 ^ l.length
  | [], a, _, h => ⟨h, by simp⟩
  | b :: l, a, hl, h => by
    obtain ⟨h1, h2⟩ := plus_ok h (hl b List.mem_cons_self)
    obtain ⟨h3, h4⟩ := sum_ok l (plusF a b) (fun s hs => hl s (List.mem_cons_of_mem _ hs)) h1
    refine ⟨h3, Int.le_trans h4 ?_⟩
    rw [List.length_cons, Int.pow_succ, Int.mul_comm (20 ^ l.length) 20, ← Int.mul_assoc]
    exact Int.mul_le_mul_of_nonneg_right h2 (Int.pow_nonneg (by decide))
end
end K76
set_option Elab.async false
set_option linter.all false
set_option maxRecDepth 100000
set_option maxHeartbeats 4000000
set_option autoImplicit false
namespace K76
open PySem PySem.Spec PyProof.Rows L2
local macro_rules | `(tactic| walk_at "nm") => `(tactic| (refine Dl.d_nm (s := ?nmS) ?nmA ?nmB ?_; (case nmA => rfl); (case nmB => rfl)))
local macro_rules | `(tactic| walk_at "fr") => `(tactic| first | assumption)
local macro_rules | `(tactic| walk_at "name") => `(tactic| first
  | walk_at "nm"
  | ((with_reducible show Dl.dE _ _ (Expr.Name "int" _) _ _ _); refine Dl.d_t_int ?frA ?frB ?_; (case frA => walk_at "fr"); (case frB => rfl))
  | ((with_reducible show Dl.dE _ _ (Expr.Name "tuple" _) _ _ _); refine Dl.d_t_tuple ?frA ?frB ?_; (case frA => walk_at "fr"); (case frB => rfl))
  | ((with_reducible show Dl.dE _ _ (Expr.Name "list" _) _ _ _); refine Dl.d_t_list ?frA ?frB ?_; (case frA => walk_at "fr"); (case frB => rfl))
  | ((with_reducible show Dl.dE _ _ (Expr.Name "str" _) _ _ _); refine Dl.d_t_str ?frA ?frB ?_; (case frA => walk_at "fr"); (case frB => rfl))
  | ((with_reducible show Dl.dE _ _ (Expr.Name "bool" _) _ _ _); refine Dl.d_t_bool ?frA ?frB ?_; (case frA => walk_at "fr"); (case frB => rfl))
  | ((with_reducible show Dl.dE _ _ (Expr.Name "set" _) _ _ _); refine Dl.d_t_set ?frA ?frB ?_; (case frA => walk_at "fr"); (case frB => rfl))
  | walk_at "glob")
local macro_rules | `(tactic| walk_at "glob") => `(tactic| first
  | (refine Dl.d_globInt (i := ?gI) ?gA ?gB ?_; (case gA => rfl); (case gB => assumption))
  | (refine Dl.d_globStr (i := ?gI) ?gA ?gB ?_; (case gA => rfl); (case gB => assumption)))
local macro_rules | `(tactic| walk_at "call") => `(tactic| first
  | ((with_reducible show Dl.dE _ _ (Expr.Call (Expr.Name "isinstance" _) _ _ _) _ _ _); refine Dl.d_b_isinstance ?frA ?frB ?_; (case frA => walk_at "fr"); (case frB => rfl))
  | ((with_reducible show Dl.dE _ _ (Expr.Call (Expr.Name "len" _) _ _ _) _ _ _); refine Dl.d_b_len ?frA ?frB ?_; (case frA => walk_at "fr"); (case frB => rfl))
  | ((with_reducible show Dl.dE _ _ (Expr.Call (Expr.Name "all" _) _ _ _) _ _ _); refine Dl.d_b_all ?frA ?frB ?_; (case frA => walk_at "fr"); (case frB => rfl))
  | ((with_reducible show Dl.dE _ _ (Expr.Call (Expr.Name "any" _) _ _ _) _ _ _); refine Dl.d_b_any ?frA ?frB ?_; (case frA => walk_at "fr"); (case frB => rfl))
  | ((with_reducible show Dl.dE _ _ (Expr.Call (Expr.Name "abs" _) _ _ _) _ _ _); refine Dl.d_b_abs ?frA ?frB ?_; (case frA => walk_at "fr"); (case frB => rfl))
  | ((with_reducible show Dl.dE _ _ (Expr.Call (Expr.Name "sum" _) _ _ _) _ _ _); refine Dl.d_b_sum ?frA ?frB ?_; (case frA => walk_at "fr"); (case frB => rfl))
  | ((with_reducible show Dl.dE _ _ (Expr.Call (Expr.Name "min" _) _ _ _) _ _ _); refine Dl.d_b_min ?frA ?frB ?_; (case frA => walk_at "fr"); (case frB => rfl))
  | ((with_reducible show Dl.dE _ _ (Expr.Call (Expr.Name "max" _) _ _ _) _ _ _); refine Dl.d_b_max ?frA ?frB ?_; (case frA => walk_at "fr"); (case frB => rfl))
  | ((with_reducible show Dl.dE _ _ (Expr.Call (Expr.Name "sorted" _) _ _ _) _ _ _); refine Dl.d_b_sorted ?frA ?frB ?_; (case frA => walk_at "fr"); (case frB => rfl))
  | ((with_reducible show Dl.dE _ _ (Expr.Call (Expr.Name "int" _) _ _ _) _ _ _); refine Dl.d_c_int ?frA ?frB ?_; (case frA => walk_at "fr"); (case frB => rfl))
  | ((with_reducible show Dl.dE _ _ (Expr.Call (Expr.Name "tuple" _) _ _ _) _ _ _); refine Dl.d_c_tuple ?frA ?frB ?_; (case frA => walk_at "fr"); (case frB => rfl))
  | ((with_reducible show Dl.dE _ _ (Expr.Call (Expr.Name "list" _) _ _ _) _ _ _); refine Dl.d_c_list ?frA ?frB ?_; (case frA => walk_at "fr"); (case frB => rfl))
  | ((with_reducible show Dl.dE _ _ (Expr.Call (Expr.Name "str" _) _ _ _) _ _ _); refine Dl.d_c_str ?frA ?frB ?_; (case frA => walk_at "fr"); (case frB => rfl))
  | ((with_reducible show Dl.dE _ _ (Expr.Call (Expr.Name "bool" _) _ _ _) _ _ _); refine Dl.d_c_bool ?frA ?frB ?_; (case frA => walk_at "fr"); (case frB => rfl))
  | ((with_reducible show Dl.dE _ _ (Expr.Call (Expr.Name "set" _) _ _ _) _ _ _); refine Dl.d_c_set ?frA ?frB ?_; (case frA => walk_at "fr"); (case frB => rfl))
  | (refine Dl.d_fn (j := ?fnJ) (S := ?fnS) ?fnA ?fnB ?fnC ?_; (case fnA => assumption); (case fnB => exact Nat.le_of_ble_eq_true rfl); (case fnC => rfl)))
local macro_rules | `(tactic| walk_at "ed") => `(tactic| ((with_reducible show Dl.dE _ _ _ _ _ _); first
  | ((with_reducible show Dl.dE _ _ (Expr.Name _ _) _ _ _); walk_at "name")
  | ((with_reducible show Dl.dE _ _ (Expr.Constant (Const.int _) _ _) _ _ _); refine Dl.d_int ?_)
  | ((with_reducible show Dl.dE _ _ (Expr.Constant (Const.str _) _ _) _ _ _); refine Dl.d_str ?_)
  | ((with_reducible show Dl.dE _ _ (Expr.Constant (Const.bool _) _ _) _ _ _); refine Dl.d_bool ?_)
  | ((with_reducible show Dl.dE _ _ (Expr.Constant Const.none _ _) _ _ _); refine Dl.d_none ?_)
  | ((with_reducible show Dl.dE _ _ (Expr.Call (Expr.Name _ _) [_, Expr.Tuple [Expr.Name _ _, Expr.Name _ _] _ _] _ _) _ _ _); (refine Dl.d_isi2 ?frA ?frB ?frC ?frD ?frE ?frF ?_; (case frA => walk_at "fr"); (case frB => walk_at "fr"); (case frC => walk_at "fr"); (case frD => rfl); (case frE => rfl); (case frF => rfl)))
  | ((with_reducible show Dl.dE _ _ (Expr.Call (Expr.Name _ _) _ _ _) _ _ _); walk_at "call")
  | ((with_reducible show Dl.dE _ _ (Expr.BoolOp _ [_] _) _ _ _); refine Dl.d_one ?_)
  | ((with_reducible show Dl.dE _ _ (Expr.BoolOp BoolOp.And _ _) _ _ _); refine Dl.d_and ?_)
  | ((with_reducible show Dl.dE _ _ (Expr.BoolOp BoolOp.Or _ _) _ _ _); refine Dl.d_or ?_)
  | ((with_reducible show Dl.dE _ _ (Expr.UnaryOp UnaryOp.Not _ _) _ _ _); refine Dl.d_not ?_)
  | ((with_reducible show Dl.dE _ _ (Expr.UnaryOp UnaryOp.USub _ _) _ _ _); refine Dl.d_neg ?_)
  | ((with_reducible show Dl.dE _ _ (Expr.BinOp _ _ _ _) _ _ _); refine Dl.d_bin ?_)
  | ((with_reducible show Dl.dE _ _ (Expr.Compare _ [_] _ _) _ _ _); refine Dl.d_cmp ?_)
  | ((with_reducible show Dl.dE _ _ (Expr.Compare _ [_, _] _ _) _ _ _); refine Dl.d_chain ?_)
  | ((with_reducible show Dl.dE _ _ (Expr.IfExp _ _ _ _) _ _ _); refine Dl.d_if ?_)
  | ((with_reducible show Dl.dE _ _ (Expr.Tuple _ _ _) _ _ _); refine Dl.d_tup ?_)
  | ((with_reducible show Dl.dE _ _ (Expr.List _ _) _ _ _); refine Dl.d_lst ?_)
  | ((with_reducible show Dl.dE _ _ (Expr.Subscript _ (Expr.Slice _ _ _ _) _) _ _ _); refine Dl.d_slice ?_)
  | ((with_reducible show Dl.dE _ _ (Expr.Subscript _ _ _) _ _ _); refine Dl.d_ix ?_)))
local macro_rules | `(tactic| walk_at "ad") => `(tactic| ((with_reducible show Dl.dA _ _ _ _ _ _); first | refine Dl.a_nil ?_ | refine Dl.a_cons ?_))
local macro_rules | `(tactic| walk_at "td") => `(tactic| first
  | ((with_reducible show Dl.dT _ _ (Expr.UnaryOp UnaryOp.Not _ _) _ _ _); refine Dl.t_not ?_)
  | ((with_reducible show Dl.dT _ _ (Expr.BoolOp _ _ _) _ _ _); refine Dl.t_bool ?_)
  | ((with_reducible show Dl.dT _ _ (Expr.Compare _ [_] _ _) _ _ _); refine Dl.t_cmp ?_)
  | ((with_reducible show Dl.dT _ _ (Expr.Compare _ [_, _] _ _) _ _ _); refine Dl.t_chain ?_)
  | ((with_reducible show Dl.dT _ _ (_) _ _ _); refine Dl.t_val ?_)
  | ((with_reducible show Dl.dW _ _ (Expr.BoolOp BoolOp.And [_] _) _ _ _); refine Dl.w_and1 ?_)
  | ((with_reducible show Dl.dW _ _ (Expr.BoolOp BoolOp.Or [_] _) _ _ _); refine Dl.w_or1 ?_)
  | ((with_reducible show Dl.dW _ _ (Expr.BoolOp BoolOp.And _ _) _ _ _); refine Dl.w_and ?_)
  | ((with_reducible show Dl.dW _ _ (Expr.BoolOp BoolOp.Or _ _) _ _ _); refine Dl.w_or ?_))
local macro_rules | `(tactic| walk_at "od") => `(tactic| ((with_reducible show Dl.OpD _ _ _ _ _ _); first
  | refine Dl.o_add ?_ | refine Dl.o_sub ?_ | refine Dl.o_lt ?_ | refine Dl.o_le ?_ | refine Dl.o_gt ?_ | refine Dl.o_ge ?_ | refine Dl.o_eq ?_ | refine Dl.o_ne ?_ | refine Dl.o_eqS ?_ | refine Dl.o_mul ?_ ?_ | refine Dl.o_mod ?_ ?_ | refine Dl.o_fdivW ?_ ?_ | refine Dl.o_inS ?_ | refine Dl.o_notInS ?_
  | refine Dl.o_isN ?_ | refine Dl.o_notN ?_))
local macro_rules | `(tactic| walk_at "cd") => `(tactic| ((with_reducible show Dl.CallD _ _ _ _ _); first
  | refine Dl.c_lenT ?_ | refine Dl.c_lenL ?_ | refine Dl.c_lenO ?_ | refine Dl.c_abs ?_ | refine Dl.c_int ?_ | refine Dl.c_lenS ?_ ?_ | refine Dl.c_allT ?_
  | refine Dl.c_isInt ?_ | refine Dl.c_isBool ?_ | refine Dl.c_isStr ?_ | refine Dl.c_isTuple ?_ | refine Dl.c_isList ?_
  | refine Dl.c_allF ?_ | refine Dl.c_tupL ?_ | refine Dl.c_tupT ?_))
local macro_rules | `(tactic| walk_at "sd") => `(tactic| first
  | ((with_reducible show Dl.dS _ _ _ (Stmt.Return (some _) _) _ _ _ _); refine Dl.s_ret ?_)
  | ((with_reducible show Dl.dS _ _ _ (Stmt.Assign [Expr.Tuple [Expr.Name _ _, Expr.Name _ _] _ _] (Expr.Tuple [_, _] _ _) _) _ _ _ _); (refine Dl.s_pr (i := ?stI) (j := ?stJ) ?stA ?stB ?stC ?stD ?stE ?_; (case stA => rfl); (case stB => rfl); (case stC => rfl); (case stD => rfl); (case stE => rfl)))
  | ((with_reducible show Dl.dS _ _ _ (Stmt.If _ _ _ _) _ _ _ _); refine Dl.s_if ?_)
  | ((with_reducible show Dl.dS _ _ _ (Stmt.Assign [Expr.Name _ _] _ _) _ _ _ _); (refine Dl.s_st (i := ?stI) ?stA ?stB ?stC ?_; (case stA => rfl); (case stB => rfl); (case stC => rfl)))
  | ((with_reducible show Dl.dS _ _ _ (Stmt.Expr _ _) _ _ _ _); refine Dl.s_expr ?_)
  | ((with_reducible show Dl.dSs _ _ _ _ _ _ _ _); first | refine Dl.s_cons ?_ | refine Dl.s_nil ?_))
local macro_rules | `(tactic| walk_at "xd") => `(tactic| ((with_reducible show Dl.IxD _ _ _ _ _); first | (refine Dl.x_T (d := ?ixD) ?ixE ?_; (case ixE => rfl)) | (refine Dl.x_L (d := ?ixD) ?ixE ?_; (case ixE => rfl)) | (refine Dl.x_O (d := ?ixD) ?ixE ?_; (case ixE => rfl))))
local macro_rules | `(tactic| walk_at "ds") => `(tactic| (refine Dl.ex_dats (ds := ?dsW) ?dsA ?dsB ?_; (case dsA => rfl); (case dsB => rfl)))
local macro_rules | `(tactic| walk_at "dl") => `(tactic| first
  | walk_at "ds"
  | walk_at "ed"
  | walk_at "ad"
  | walk_at "td"
  | walk_at "od"
  | walk_at "cd"
  | walk_at "sd"
  | walk_at "xd"
  | ((with_reducible refine ⟨_, rfl, fun hc => ?_, fun hc => ?_⟩) <;> (first | contradiction | (exfalso; revert hc; simp [Dl.isTy, Dl.tyD]; done) | skip))
  | ((with_reducible refine ⟨fun hc => ?_, fun hc => ?_⟩) <;> (first | contradiction | (exfalso; revert hc; simp [Dl.isTy, Dl.tyD]; done) | skip))
  | (refine ⟨_, _, rfl, rfl, ?_⟩)
  | (refine ⟨rfl, ?_⟩)
  | (with_reducible refine ⟨_, rfl, ?_⟩)
  | (refine ⟨(_, _), rfl, ?_⟩)
  | (refine ⟨(_, _, _), rfl, ?_⟩)
  | (refine ⟨True.intro, fun _ hs => ?_, fun _ hx => False.elim hx⟩; replace hs : _ = Dl.Sl.dat _ := hs; subst hs)
  | (refine ⟨by assumption, fun _ hs => ?_, fun _ hx => False.elim hx⟩; replace hs : _ = Dl.Sl.dat _ := hs; subst hs)
  | fail)
section
variable {G : Dl.Gd}
def sumSpec : Dl.Spec where
  α := List Sh
  arg l := [.dat (.list (l.map eSh))]
  pre l := (∀ s ∈ l, isShare s = true) ∧ l.length ≤ 64
  post l s := s = .dat (eSh (sumF l))
theorem pow_lt {n : Nat} (h : n ≤ 64) : (1 : Int) * 20 ^ n < 2 ^ 900 := by
  have h1 : (20 : Int) ^ n ≤ 20 ^ 64 := by
    have : (20 : Nat) ^ n ≤ 20 ^ 64 := Nat.pow_le_pow_right (by decide) h
    exact_mod_cast this
  have h2 : (20 : Int) ^ 64 < 2 ^ 900 := by decide +kernel
  omega
theorem ok_summed (T : Top G) : Dl.Fn G 5 "summed" sumSpec := by
  have h1 := ok_plus T
  have f1 := fr_isinstance T
  have f2 := fr_tuple T
  have f3 := fr_list T
  refine mk_summed T (fun _ => rfl) fun cdv M0 (l : List Sh) hp => ?_
  obtain ⟨b1, b2⟩ := hp
  repeat' walk_at "dl"
  refine Dl.s_forT l eSh [2] (fun i M Γ => M = M0 ∧ ∃ g, Γ = [some (.dat (.list (l.map eSh))), some (.dat (eSh ((l.take i).foldl plusF (0, 1)))), g]) ?_
  refine Dl.i_list (Dl.d_nm (s := .dat (.list (l.map eSh))) rfl rfl ⟨_, rfl, rfl, ⟨rfl, none, rfl⟩, fun i x M Γ hx hI => ?_, fun M Γ hI => ?_⟩)
  · obtain ⟨rfl, g, rfl⟩ := hI
    refine Dl.g_nm (i := 2) rfl rfl ?_
    have hs := sum_ok (l.take i) (0, 1) (fun s hs => b1 s (List.mem_of_mem_take hs)) (by decide)
    have hi : i < l.length := (List.getElem?_eq_some_iff.mp hx).1
    have hb : ((l.take i).foldl plusF (0, 1)).2 < 2 ^ 900 := Int.lt_of_le_of_lt hs.2 (pow_lt (by rw [List.length_take]; omega))
    have hx1 := b1 x (List.mem_of_getElem? hx)
    repeat' walk_at "dl"
    refine ⟨⟨hs.1, hx1, hb⟩, fun s hs => ?_, fun _ h => h.elim⟩
    replace hs : _ = Dl.Sl.dat _ := hs
    subst hs
    refine ⟨rfl, Dl.s_nil ⟨rfl, some (.dat (eSh x)), ?_⟩⟩
    rw [List.take_add_one, hx, List.foldl_append]
    rfl
  · obtain ⟨rfl, g, rfl⟩ := hI
    rw [List.take_length]
    repeat' walk_at "dl"
    exact rfl
/-! ### names that are alike -/
def alike (l : List Nat) (i : Nat) : Bool := match l[i]? with
  | some c => (l.take i).contains c
  | none => false
end
end K76
set_option Elab.async false
set_option linter.all false
set_option maxRecDepth 100000
set_option maxHeartbeats 4000000
set_option autoImplicit false
namespace K76
open PySem PySem.Spec PyProof.Rows L2
local macro_rules | `(tactic| walk_at "nm") => `(tactic| (refine Dl.d_nm (s := ?nmS) ?nmA ?nmB ?_; (case nmA => rfl); (case nmB => rfl)))
local macro_rules | `(tactic| walk_at "fr") => `(tactic| first | assumption)
local macro_rules | `(tactic| walk_at "name") => `(tactic| first
  | walk_at "nm"
  | ((with_reducible show Dl.dE _ _ (Expr.Name "int" _) _ _ _); refine Dl.d_t_int ?frA ?frB ?_; (case frA => walk_at "fr"); (case frB => rfl))
  | ((with_reducible show Dl.dE _ _ (Expr.Name "tuple" _) _ _ _); refine Dl.d_t_tuple ?frA ?frB ?_; (case frA => walk_at "fr"); (case frB => rfl))
  | ((with_reducible show Dl.dE _ _ (Expr.Name "list" _) _ _ _); refine Dl.d_t_list ?frA ?frB ?_; (case frA => walk_at "fr"); (case frB => rfl))
  | ((with_reducible show Dl.dE _ _ (Expr.Name "str" _) _ _ _); refine Dl.d_t_str ?frA ?frB ?_; (case frA => walk_at "fr"); (case frB => rfl))
  | ((with_reducible show Dl.dE _ _ (Expr.Name "bool" _) _ _ _); refine Dl.d_t_bool ?frA ?frB ?_; (case frA => walk_at "fr"); (case frB => rfl))
  | ((with_reducible show Dl.dE _ _ (Expr.Name "set" _) _ _ _); refine Dl.d_t_set ?frA ?frB ?_; (case frA => walk_at "fr"); (case frB => rfl))
  | walk_at "glob")
local macro_rules | `(tactic| walk_at "glob") => `(tactic| first
  | (refine Dl.d_globInt (i := ?gI) ?gA ?gB ?_; (case gA => rfl); (case gB => assumption))
  | (refine Dl.d_globStr (i := ?gI) ?gA ?gB ?_; (case gA => rfl); (case gB => assumption)))
local macro_rules | `(tactic| walk_at "call") => `(tactic| first
  | ((with_reducible show Dl.dE _ _ (Expr.Call (Expr.Name "isinstance" _) _ _ _) _ _ _); refine Dl.d_b_isinstance ?frA ?frB ?_; (case frA => walk_at "fr"); (case frB => rfl))
  | ((with_reducible show Dl.dE _ _ (Expr.Call (Expr.Name "len" _) _ _ _) _ _ _); refine Dl.d_b_len ?frA ?frB ?_; (case frA => walk_at "fr"); (case frB => rfl))
  | ((with_reducible show Dl.dE _ _ (Expr.Call (Expr.Name "all" _) _ _ _) _ _ _); refine Dl.d_b_all ?frA ?frB ?_; (case frA => walk_at "fr"); (case frB => rfl))
  | ((with_reducible show Dl.dE _ _ (Expr.Call (Expr.Name "any" _) _ _ _) _ _ _); refine Dl.d_b_any ?frA ?frB ?_; (case frA => walk_at "fr"); (case frB => rfl))
  | ((with_reducible show Dl.dE _ _ (Expr.Call (Expr.Name "abs" _) _ _ _) _ _ _); refine Dl.d_b_abs ?frA ?frB ?_; (case frA => walk_at "fr"); (case frB => rfl))
  | ((with_reducible show Dl.dE _ _ (Expr.Call (Expr.Name "sum" _) _ _ _) _ _ _); refine Dl.d_b_sum ?frA ?frB ?_; (case frA => walk_at "fr"); (case frB => rfl))
  | ((with_reducible show Dl.dE _ _ (Expr.Call (Expr.Name "min" _) _ _ _) _ _ _); refine Dl.d_b_min ?frA ?frB ?_; (case frA => walk_at "fr"); (case frB => rfl))
  | ((with_reducible show Dl.dE _ _ (Expr.Call (Expr.Name "max" _) _ _ _) _ _ _); refine Dl.d_b_max ?frA ?frB ?_; (case frA => walk_at "fr"); (case frB => rfl))
  | ((with_reducible show Dl.dE _ _ (Expr.Call (Expr.Name "sorted" _) _ _ _) _ _ _); refine Dl.d_b_sorted ?frA ?frB ?_; (case frA => walk_at "fr"); (case frB => rfl))
  | ((with_reducible show Dl.dE _ _ (Expr.Call (Expr.Name "int" _) _ _ _) _ _ _); refine Dl.d_c_int ?frA ?frB ?_; (case frA => walk_at "fr"); (case frB => rfl))
  | ((with_reducible show Dl.dE _ _ (Expr.Call (Expr.Name "tuple" _) _ _ _) _ _ _); refine Dl.d_c_tuple ?frA ?frB ?_; (case frA => walk_at "fr"); (case frB => rfl))
  | ((with_reducible show Dl.dE _ _ (Expr.Call (Expr.Name "list" _) _ _ _) _ _ _); refine Dl.d_c_list ?frA ?frB ?_; (case frA => walk_at "fr"); (case frB => rfl))
  | ((with_reducible show Dl.dE _ _ (Expr.Call (Expr.Name "str" _) _ _ _) _ _ _); refine Dl.d_c_str ?frA ?frB ?_; (case frA => walk_at "fr"); (case frB => rfl))
  | ((with_reducible show Dl.dE _ _ (Expr.Call (Expr.Name "bool" _) _ _ _) _ _ _); refine Dl.d_c_bool ?frA ?frB ?_; (case frA => walk_at "fr"); (case frB => rfl))
  | ((with_reducible show Dl.dE _ _ (Expr.Call (Expr.Name "set" _) _ _ _) _ _ _); refine Dl.d_c_set ?frA ?frB ?_; (case frA => walk_at "fr"); (case frB => rfl))
  | (refine Dl.d_fn (j := ?fnJ) (S := ?fnS) ?fnA ?fnB ?fnC ?_; (case fnA => assumption); (case fnB => exact Nat.le_of_ble_eq_true rfl); (case fnC => rfl)))
local macro_rules | `(tactic| walk_at "ed") => `(tactic| ((with_reducible show Dl.dE _ _ _ _ _ _); first
  | ((with_reducible show Dl.dE _ _ (Expr.Name _ _) _ _ _); walk_at "name")
  | ((with_reducible show Dl.dE _ _ (Expr.Constant (Const.int _) _ _) _ _ _); refine Dl.d_int ?_)
  | ((with_reducible show Dl.dE _ _ (Expr.Constant (Const.str _) _ _) _ _ _); refine Dl.d_str ?_)
  | ((with_reducible show Dl.dE _ _ (Expr.Constant (Const.bool _) _ _) _ _ _); refine Dl.d_bool ?_)
  | ((with_reducible show Dl.dE _ _ (Expr.Constant Const.none _ _) _ _ _); refine Dl.d_none ?_)
  | ((with_reducible show Dl.dE _ _ (Expr.Call (Expr.Name _ _) [_, Expr.Tuple [Expr.Name _ _, Expr.Name _ _] _ _] _ _) _ _ _); (refine Dl.d_isi2 ?frA ?frB ?frC ?frD ?frE ?frF ?_; (case frA => walk_at "fr"); (case frB => walk_at "fr"); (case frC => walk_at "fr"); (case frD => rfl); (case frE => rfl); (case frF => rfl)))
  | ((with_reducible show Dl.dE _ _ (Expr.Call (Expr.Name _ _) _ _ _) _ _ _); walk_at "call")
  | ((with_reducible show Dl.dE _ _ (Expr.BoolOp _ [_] _) _ _ _); refine Dl.d_one ?_)
  | ((with_reducible show Dl.dE _ _ (Expr.BoolOp BoolOp.And _ _) _ _ _); refine Dl.d_and ?_)
  | ((with_reducible show Dl.dE _ _ (Expr.BoolOp BoolOp.Or _ _) _ _ _); refine Dl.d_or ?_)
  | ((with_reducible show Dl.dE _ _ (Expr.UnaryOp UnaryOp.Not _ _) _ _ _); refine Dl.d_not ?_)
  | ((with_reducible show Dl.dE _ _ (Expr.UnaryOp UnaryOp.USub _ _) _ _ _); refine Dl.d_neg ?_)
  | ((with_reducible show Dl.dE _ _ (Expr.BinOp _ _ _ _) _ _ _); refine Dl.d_bin ?_)
  | ((with_reducible show Dl.dE _ _ (Expr.Compare _ [_] _ _) _ _ _); refine Dl.d_cmp ?_)
  | ((with_reducible show Dl.dE _ _ (Expr.Compare _ [_, _] _ _) _ _ _); refine Dl.d_chain ?_)
  | ((with_reducible show Dl.dE _ _ (Expr.IfExp _ _ _ _) _ _ _); refine Dl.d_if ?_)
  | ((with_reducible show Dl.dE _ _ (Expr.Tuple _ _ _) _ _ _); refine Dl.d_tup ?_)
  | ((with_reducible show Dl.dE _ _ (Expr.List _ _) _ _ _); refine Dl.d_lst ?_)
  | ((with_reducible show Dl.dE _ _ (Expr.Subscript _ (Expr.Slice _ _ _ _) _) _ _ _); refine Dl.d_slice ?_)
  | ((with_reducible show Dl.dE _ _ (Expr.Subscript _ _ _) _ _ _); refine Dl.d_ix ?_)))
local macro_rules | `(tactic| walk_at "ad") => `(tactic| ((with_reducible show Dl.dA _ _ _ _ _ _); first | refine Dl.a_nil ?_ | refine Dl.a_cons ?_))
local macro_rules | `(tactic| walk_at "td") => `(tactic| first
  | ((with_reducible show Dl.dT _ _ (Expr.UnaryOp UnaryOp.Not _ _) _ _ _); refine Dl.t_not ?_)
  | ((with_reducible show Dl.dT _ _ (Expr.BoolOp _ _ _) _ _ _); refine Dl.t_bool ?_)
  | ((with_reducible show Dl.dT _ _ (Expr.Compare _ [_] _ _) _ _ _); refine Dl.t_cmp ?_)
  | ((with_reducible show Dl.dT _ _ (Expr.Compare _ [_, _] _ _) _ _ _); refine Dl.t_chain ?_)
  | ((with_reducible show Dl.dT _ _ (_) _ _ _); refine Dl.t_val ?_)
  | ((with_reducible show Dl.dW _ _ (Expr.BoolOp BoolOp.And [_] _) _ _ _); refine Dl.w_and1 ?_)
  | ((with_reducible show Dl.dW _ _ (Expr.BoolOp BoolOp.Or [_] _) _ _ _); refine Dl.w_or1 ?_)
  | ((with_reducible show Dl.dW _ _ (Expr.BoolOp BoolOp.And _ _) _ _ _); refine Dl.w_and ?_)
  | ((with_reducible show Dl.dW _ _ (Expr.BoolOp BoolOp.Or _ _) _ _ _); refine Dl.w_or ?_))
local macro_rules | `(tactic| walk_at "od") => `(tactic| ((with_reducible show Dl.OpD _ _ _ _ _ _); first
  | refine Dl.o_add ?_ | refine Dl.o_sub ?_ | refine Dl.o_lt ?_ | refine Dl.o_le ?_ | refine Dl.o_gt ?_ | refine Dl.o_ge ?_ | refine Dl.o_eq ?_ | refine Dl.o_ne ?_ | refine Dl.o_eqS ?_ | refine Dl.o_mul ?_ ?_ | refine Dl.o_mod ?_ ?_ | refine Dl.o_fdivW ?_ ?_ | refine Dl.o_inS ?_ | refine Dl.o_notInS ?_
  | refine Dl.o_isN ?_ | refine Dl.o_notN ?_))
local macro_rules | `(tactic| walk_at "cd") => `(tactic| ((with_reducible show Dl.CallD _ _ _ _ _); first
  | refine Dl.c_lenT ?_ | refine Dl.c_lenL ?_ | refine Dl.c_lenO ?_ | refine Dl.c_abs ?_ | refine Dl.c_int ?_ | refine Dl.c_lenS ?_ ?_ | refine Dl.c_allT ?_
  | refine Dl.c_isInt ?_ | refine Dl.c_isBool ?_ | refine Dl.c_isStr ?_ | refine Dl.c_isTuple ?_ | refine Dl.c_isList ?_
  | refine Dl.c_allF ?_ | refine Dl.c_tupL ?_ | refine Dl.c_tupT ?_))
local macro_rules | `(tactic| walk_at "sd") => `(tactic| first
  | ((with_reducible show Dl.dS _ _ _ (Stmt.Return (some _) _) _ _ _ _); refine Dl.s_ret ?_)
  | ((with_reducible show Dl.dS _ _ _ (Stmt.Assign [Expr.Tuple [Expr.Name _ _, Expr.Name _ _] _ _] (Expr.Tuple [_, _] _ _) _) _ _ _ _); (refine Dl.s_pr (i := ?stI) (j := ?stJ) ?stA ?stB ?stC ?stD ?stE ?_; (case stA => rfl); (case stB => rfl); (case stC => rfl); (case stD => rfl); (case stE => rfl)))
  | ((with_reducible show Dl.dS _ _ _ (Stmt.If _ _ _ _) _ _ _ _); refine Dl.s_if ?_)
  | ((with_reducible show Dl.dS _ _ _ (Stmt.Assign [Expr.Name _ _] _ _) _ _ _ _); (refine Dl.s_st (i := ?stI) ?stA ?stB ?stC ?_; (case stA => rfl); (case stB => rfl); (case stC => rfl)))
  | ((with_reducible show Dl.dS _ _ _ (Stmt.Expr _ _) _ _ _ _); refine Dl.s_expr ?_)
  | ((with_reducible show Dl.dSs _ _ _ _ _ _ _ _); first | refine Dl.s_cons ?_ | refine Dl.s_nil ?_))
local macro_rules | `(tactic| walk_at "xd") => `(tactic| ((with_reducible show Dl.IxD _ _ _ _ _); first | (refine Dl.x_T (d := ?ixD) ?ixE ?_; (case ixE => rfl)) | (refine Dl.x_L (d := ?ixD) ?ixE ?_; (case ixE => rfl)) | (refine Dl.x_O (d := ?ixD) ?ixE ?_; (case ixE => rfl))))
local macro_rules | `(tactic| walk_at "ds") => `(tactic| (refine Dl.ex_dats (ds := ?dsW) ?dsA ?dsB ?_; (case dsA => rfl); (case dsB => rfl)))
local macro_rules | `(tactic| walk_at "dl") => `(tactic| first
  | walk_at "ds"
  | walk_at "ed"
  | walk_at "ad"
  | walk_at "td"
  | walk_at "od"
  | walk_at "cd"
  | walk_at "sd"
  | walk_at "xd"
  | ((with_reducible refine ⟨_, rfl, fun hc => ?_, fun hc => ?_⟩) <;> (first | contradiction | (exfalso; revert hc; simp [Dl.isTy, Dl.tyD]; done) | skip))
  | ((with_reducible refine ⟨fun hc => ?_, fun hc => ?_⟩) <;> (first | contradiction | (exfalso; revert hc; simp [Dl.isTy, Dl.tyD]; done) | skip))
  | (refine ⟨_, _, rfl, rfl, ?_⟩)
  | (refine ⟨rfl, ?_⟩)
  | (with_reducible refine ⟨_, rfl, ?_⟩)
  | (refine ⟨(_, _), rfl, ?_⟩)
  | (refine ⟨(_, _, _), rfl, ?_⟩)
  | (refine ⟨True.intro, fun _ hs => ?_, fun _ hx => False.elim hx⟩; replace hs : _ = Dl.Sl.dat _ := hs; subst hs)
  | (refine ⟨by assumption, fun _ hs => ?_, fun _ hx => False.elim hx⟩; replace hs : _ = Dl.Sl.dat _ := hs; subst hs)
  | fail)
def firstA (l : List Nat) : Option Nat := (List.range l.length).find? (fun i => alike l i)
theorem nmS_inj {a b : Nat} (h : nmS a = nmS b) : a = b := by
  have e : (nmS a).cps = (nmS b).cps := by rw [h]
  have e2 : (#[a] : Array Nat) = #[b] := e
  have := congrArg Array.toList e2
  simpa using this
theorem sh_nm {c : Nat} (h : c ∈ inNames) (n : Nat) : Dl.ShN n (.str (nmS c)) := by
  refine Dl.shN_str n ?_
  rcases name_le h with rfl | rfl | rfl | rfl | rfl | rfl | rfl | rfl <;> decide +kernel
theorem eqv_nm (a b : Nat) : PyData.eqv (.str (nmS a)) (.str (nmS b)) = (a == b) := by
  have h := Dl.eqv_iff (.str (nmS a)) (.str (nmS b)) (.str _) (.str _)
  cases e : PyData.eqv (.str (nmS a)) (.str (nmS b)) with
  | true =>
    have := h.mp e
    injection this with this
    simp [nmS_inj this]
  | false =>
    by_cases q : a = b
    · rw [q] at e h
      rw [h.mpr rfl] at e
      cases e
    · simp [q]
theorem any_nm (l : List Nat) (c : Nat) : ((l.map fun k => PyData.str (nmS k)).any fun z => PyData.eqv z (.str (nmS c))) = l.contains c := by
  induction l with
  | nil => rfl
  | cons a l ih =>
    rw [List.map_cons, List.any_cons, ih, eqv_nm, List.contains_cons]
    by_cases h : a = c
    · simp [h]
    · have h' : ¬ c = a := fun z => h z.symm
      have e1 : (a == c) = false := by simpa using h
      have e2 : (c == a) = false := by simpa using h'
      rw [e1, e2]
def faultX (y : Str) (w : PyData) (f : Str) : Dl.Xn := ⟨y, [("where", w), ("fault", .str f)]⟩
section
variable {G : Dl.Gd}
/-- pairs whose first is a name -/
def namesSpec : Dl.Spec where
  α := List (Nat × PyData) × Str
  arg a := [.dat (.tuple (a.1.map fun p => .tuple [.str (nmS p.1), p.2])), .dat (.str a.2)]
  pre a := ∀ p ∈ a.1, p.1 ∈ inNames
  post a s := firstA (a.1.map (·.1)) = none
  exn a x := ∃ i, firstA (a.1.map (·.1)) = some i ∧ x = faultX "BadKind" (.tuple [.str a.2, .int (i : Nat)]) "alike"
theorem firstA_none {l : List Nat} (h : ∀ i, i < l.length → alike l i = false) : firstA l = none := by
  unfold firstA
  rw [List.find?_eq_none]
  intro i hi
  rw [h i (List.mem_range.mp hi)]
  simp
theorem firstA_some {l : List Nat} {i : Nat} (hi : i < l.length) (h : ∀ j, j < i → alike l j = false) (ha : alike l i = true) : firstA l = some i := by
  unfold firstA
  rw [List.find?_range_eq_some]
  exact ⟨ha, by simpa using hi, fun j hj => by rw [h j hj]; rfl⟩
theorem ok_check_names (T : Top G) (X : Ext G) : Dl.Fn G 1 "check_names" namesSpec := by
  have f1 := fr_enumerate T
  refine mk_check_names T (fun _ => rfl) fun cdv M0 ⟨l, w⟩ hp => ?_
  have hp' : ∀ p ∈ l, p.1 ∈ inNames := hp
  repeat' walk_at "dl"
  refine Dl.s_forT ((List.range l.length).zip l) (fun q => .tuple [.int (q.1 : Nat), .tuple [.str (nmS q.2.1), q.2.2]]) [2, 3] (fun i M Γ => M = M0 ∧ (∃ g1 g2 g3, Γ = [some (.dat (.tuple (l.map fun p => .tuple [.str (nmS p.1), p.2]))), some (.dat (.str w)), g1, g2, g3]) ∧ ∀ j, j < i → alike (l.map (·.1)) j = false) ?_
  refine Dl.i_enumT rfl f1 (Dl.d_nm (s := .dat (.tuple (l.map fun p => .tuple [.str (nmS p.1), p.2]))) rfl rfl ⟨_, rfl, ?_, ⟨rfl, ⟨none, none, none, rfl⟩, fun j hj => by omega⟩, fun i q M Γ hx hI => ?_, fun M Γ hI => ?_⟩)
  · rw [List.length_map, Dl.rngT, Dl.pairsT]
    refine List.map_congr_left fun q _ => ?_
    simp
  · obtain ⟨rfl, ⟨g1, g2, g3, rfl⟩, hA⟩ := hI
    obtain ⟨hx1, hx2⟩ : q.1 = i ∧ l[i]? = some q.2 := by
      rw [List.getElem?_zip_eq_some] at hx
      obtain ⟨a1, a2⟩ := hx
      refine ⟨?_, a2⟩
      rw [List.getElem?_range (by exact (List.getElem?_eq_some_iff.mp a2).1)] at a1
      cases a1
      rfl
    obtain ⟨q1, c, d⟩ := q
    dsimp only at hx1 hx2
    subst hx1
    refine Dl.g_tup (ds := [.int (q1 : Nat), .tuple [.str (nmS c), d]]) (is := [2, 3]) rfl (Dl.gs_cons (is := [2]) (js := [3]) (Dl.g_nm (i := 2) rfl rfl (Dl.gs_cons (is := [3]) (js := []) (Dl.g_nm (i := 3) rfl rfl (Dl.gs_nil ?_)))))
    have hc : c ∈ inNames := hp' _ (List.mem_of_getElem? hx2)
    have ha : alike (l.map (·.1)) q1 = ((l.take q1).map (·.1)).contains c := by
      unfold alike
      rw [List.getElem?_map, hx2, List.map_take]
      rfl
    repeat' walk_at "dl"
    refine Dl.d_ofLc (Dl.l_T (QL := fun zs => zs = ((l.take q1).map (·.1)).map fun k => PyData.str (nmS k)) (fun p : Nat × PyData => .tuple [.str (nmS p.1), p.2]) (fun p => .str (nmS p.1)) (own := [("its", 4)]) (is := [4]) (by kernel_rfl) (by decide) ?_) ?_
    · refine Dl.i_tupL (Dl.d_to (ds := l.map fun p => .tuple [.str (nmS p.1), p.2]) q1 (Dl.d_nm (s := .dat (.tuple (l.map fun p => .tuple [.str (nmS p.1), p.2]))) rfl rfl ⟨rfl, Dl.d_nm (s := .dat (.int (q1 : Nat))) rfl rfl ⟨rfl, _, rfl, fun hl => ⟨l.take q1, by rw [List.map_take], hl, fun D x hx => ?_, by rw [List.map_map]; rfl⟩⟩⟩))
      refine Dl.g_nm (i := 4) rfl rfl ?_
      repeat' walk_at "dl"
      exact rfl
    · intro zs hz
      subst hz
      refine Dl.o_inL ((sh_nm hc 0).sh) (Dl.shN_lst (n := 0) fun d hd => ?_).sh ?_
      · obtain ⟨k, hk, rfl⟩ := List.mem_map.mp hd
        obtain ⟨p, hp2, rfl⟩ := List.mem_map.mp hk
        exact sh_nm (hp' p (List.mem_of_mem_take hp2)) 0
      rw [any_nm, ← ha]
      refine ⟨_, rfl, fun hc2 => ?_, fun hc2 => ?_⟩
      · refine Dl.s_cons (Dl.s_raise2 X.tell.fl rfl ?_)
        repeat' walk_at "dl"
        exact ⟨q1, firstA_some (by rw [List.length_map]; exact (List.getElem?_eq_some_iff.mp hx2).1) hA hc2, rfl⟩
      · repeat' walk_at "dl"
        refine ⟨⟨_, _, _, rfl⟩, fun j hj => ?_⟩
        by_cases q : j = q1
        · rw [q]; exact hc2
        · exact hA j (by omega)
  · obtain ⟨rfl, ⟨g1, g2, g3, rfl⟩, hA⟩ := hI
    refine Dl.s_nil ?_
    refine firstA_none fun j hj => hA j ?_
    simpa using hj
/-! ### the colours' faults -/
/-- the first colour that is alike or whose share is below 1 -/
def colFault (l : List Col) (i : Nat) : Option Str := match l[i]? with
  | some c => if alike (l.map (·.1)) i then some "alike" else if c.2.1 < 1 then some "share" else none
  | none => none
def firstC (l : List Col) : Option (Nat × Str) := (List.range l.length).findSome? fun i => (colFault l i).map fun f => (i, f)
theorem firstC_none {l : List Col} (h : ∀ i, i < l.length → colFault l i = none) : firstC l = none := by
  unfold firstC
  rw [List.findSome?_eq_none_iff]
  intro i hi
  rw [h i (List.mem_range.mp hi)]
  rfl
theorem firstC_some {l : List Col} {i : Nat} {f : Str} (hi : i < l.length) (h : ∀ j, j < i → colFault l j = none) (hf : colFault l i = some f) : firstC l = some (i, f) := by
  unfold firstC
  have e : List.range l.length = List.range i ++ i :: (List.range' (i + 1) (l.length - i - 1)) := by
    have e1 : l.length = i + ((l.length - i - 1) + 1) := by omega
    conv => lhs; rw [e1]
    rw [List.range_eq_range', List.range_eq_range', ← List.range'_append_1, List.range'_succ]
    simp
  rw [e, List.findSome?_append, List.findSome?_cons, hf]
  have : List.findSome? (fun i => (colFault l i).map fun f => (i, f)) (List.range i) = none := by
    rw [List.findSome?_eq_none_iff]
    intro j hj
    rw [h j (List.mem_range.mp hj)]
    rfl
  rw [this]
  rfl
theorem eqv_sh (s t : Sh) : PyData.eqv (eSh s) (eSh t) = (s == t) := by
  obtain ⟨a, b⟩ := s
  obtain ⟨c, d⟩ := t
  show (PyData.eqv (.int a) (.int c) && (PyData.eqv (.int b) (.int d) && true)) = _
  show ((a == c) && ((b == d) && true)) = ((a == c) && (b == d))
  simp
def colsFault (l : List Col) : Option (PyData × Str) := match firstC l with
  | some (i, f) => some (.tuple [.str "colour", .int (i : Nat)], f)
  | none => if sumF (l.map (·.2)) = (1, 1) then none else some (.tuple [.str "colours"], "sum")
def colsSpec : Dl.Spec where
  α := List Col
  arg l := [.dat (.tuple (l.map eCol))]
  pre l := l.length ≤ 3 ∧ ∀ c ∈ l, c.1 ∈ inNames ∧ isShare c.2 = true
  post l _ := colsFault l = none
  exn l x := ∃ w f, colsFault l = some (w, f) ∧ x = faultX "BadKind" w f
theorem ok_check_colours (T : Top G) (X : Ext G) : Dl.Fn G 6 "check_colours" colsSpec := by
  have f1 := fr_enumerate T
  have h1 := ok_summed T
  refine mk_check_colours T (fun _ => rfl) fun cdv M0 (l : List Col) hp => ?_
  have hp' : ∀ c ∈ l, c.1 ∈ inNames ∧ isShare c.2 = true := hp.2
  repeat' walk_at "dl"
  refine Dl.s_forT ((List.range l.length).zip l) (fun q => .tuple [.int (q.1 : Nat), eCol q.2]) [1, 2, 3] (fun i M Γ => M = M0 ∧ (∃ g1 g2 g3 g4, Γ = [some (.dat (.tuple (l.map eCol))), g1, g2, g3, g4]) ∧ ∀ j, j < i → colFault l j = none) ?_
  refine Dl.i_enumT rfl f1 (Dl.d_nm (s := .dat (.tuple (l.map eCol))) rfl rfl ⟨_, rfl, ?_, ⟨rfl, ⟨none, none, none, none, rfl⟩, fun j hj => by omega⟩, fun i q M Γ hx hI => ?_, fun M Γ hI => ?_⟩)
  · rw [List.length_map, Dl.rngT, Dl.pairsT]
    refine List.map_congr_left fun q _ => ?_
    simp
  · obtain ⟨rfl, ⟨g1, g2, g3, g4, rfl⟩, hA⟩ := hI
    obtain ⟨hx1, hx2⟩ : q.1 = i ∧ l[i]? = some q.2 := by
      rw [List.getElem?_zip_eq_some] at hx
      obtain ⟨a1, a2⟩ := hx
      refine ⟨?_, a2⟩
      rw [List.getElem?_range (by exact (List.getElem?_eq_some_iff.mp a2).1)] at a1
      cases a1
      rfl
    obtain ⟨q1, c, s1, s2⟩ := q
    dsimp only at hx1 hx2
    subst hx1
    refine Dl.g_tup (ds := [.int (q1 : Nat), .tuple [.str (nmS c), .tuple [.int s1, .int s2]]]) (is := [1, 2, 3]) rfl (Dl.gs_cons (is := [1]) (js := [2, 3]) (Dl.g_nm (i := 1) rfl rfl (Dl.gs_cons (is := [2, 3]) (js := []) (Dl.g_tup (ds := [.str (nmS c), .tuple [.int s1, .int s2]]) (is := [2, 3]) rfl (Dl.gs_cons (is := [2]) (js := [3]) (Dl.g_nm (i := 2) rfl rfl (Dl.gs_cons (is := [3]) (js := []) (Dl.g_nm (i := 3) rfl rfl (Dl.gs_nil (Dl.gs_nil ?_))))))))))
    have hc : c ∈ inNames := (hp' _ (List.mem_of_getElem? hx2)).1
    have ha : alike (l.map (·.1)) q1 = ((l.take q1).map (·.1)).contains c := by
      unfold alike
      rw [List.getElem?_map, hx2, List.map_take]
      rfl
    have hi : q1 < l.length := (List.getElem?_eq_some_iff.mp hx2).1
    have hf : colFault l q1 = (if alike (l.map (·.1)) q1 then some "alike" else if s1 < 1 then some "share" else none : Option Str) := by
      unfold colFault
      rw [hx2]
    repeat' walk_at "dl"
    refine Dl.d_ofLc (Dl.l_T (QL := fun zs => zs = ((l.take q1).map (·.1)).map fun k => PyData.str (nmS k)) eCol (fun p => .str (nmS p.1)) (own := [("its", 4)]) (is := [4]) (by kernel_rfl) (by decide) ?_) ?_
    · refine Dl.i_tupL (Dl.d_to (ds := l.map eCol) q1 (Dl.d_nm (s := .dat (.tuple (l.map eCol))) rfl rfl ⟨rfl, Dl.d_nm (s := .dat (.int (q1 : Nat))) rfl rfl ⟨rfl, _, rfl, fun hl => ⟨l.take q1, by rw [List.map_take], hl, fun D x hx => ?_, by rw [List.map_map]; rfl⟩⟩⟩))
      refine Dl.g_nm (i := 4) rfl rfl ?_
      repeat' walk_at "dl"
      exact rfl
    · intro zs hz
      subst hz
      refine Dl.o_inL ((sh_nm hc 0).sh) (Dl.shN_lst (n := 0) fun d hd => ?_).sh ?_
      · obtain ⟨k, hk, rfl⟩ := List.mem_map.mp hd
        obtain ⟨p, hp2, rfl⟩ := List.mem_map.mp hk
        exact sh_nm ((hp' p (List.mem_of_mem_take hp2)).1) 0
      rw [any_nm, ← ha]
      refine ⟨_, rfl, fun hc2 => ?_, fun hc2 => ?_⟩
      · refine Dl.s_cons (Dl.s_raise2 X.tell.fl rfl ?_)
        repeat' walk_at "dl"
        exact ⟨_, _, by unfold colsFault; rw [firstC_some hi hA (by rw [hf, if_pos hc2])], rfl⟩
      · rw [hc2] at hf
        repeat' walk_at "dl"
        · rename_i hs
          refine Dl.s_raise2 X.tell.fl rfl ?_
          repeat' walk_at "dl"
          exact ⟨_, _, by unfold colsFault; rw [firstC_some hi hA (by rw [hf, if_neg (by simp), if_pos (by simpa using hs)])], rfl⟩
        · rename_i hs
          refine ⟨⟨_, _, _, _, rfl⟩, fun j hj => ?_⟩
          by_cases q : j = q1
          · rw [q, hf, if_neg (by simp), if_neg (by simpa using hs)]
          · exact hA j (by omega)
  · obtain ⟨rfl, ⟨g1, g2, g3, g4, rfl⟩, hA⟩ := hI
    have hn : firstC l = none := firstC_none fun j hj => hA j (by simpa using hj)
    repeat' walk_at "dl"
    refine Dl.d_ofLc (Dl.l_T (QL := fun zs => zs = (l.map (·.2)).map eSh) eCol (fun p => eSh p.2) (own := [("name", 2), ("share", 3)]) (is := [2, 3]) (by kernel_rfl) (by decide) ?_) ?_
    · refine Dl.i_tupL (Dl.d_nm (s := .dat (.tuple (l.map eCol))) rfl rfl ⟨_, rfl, fun hl => ⟨l, rfl, hl, fun D x hx => ?_, by rw [List.map_map]; rfl⟩⟩)
      refine Dl.g_tup (ds := [.str (nmS x.1), eSh x.2]) (is := [2, 3]) rfl (Dl.gs_cons (is := [2]) (js := [3]) (Dl.g_nm (i := 2) rfl rfl (Dl.gs_cons (is := [3]) (js := []) (Dl.g_nm (i := 3) rfl rfl (Dl.gs_nil ?_)))))
      repeat' walk_at "dl"
      exact rfl
    · intro zs hz
      subst hz
      repeat' walk_at "dl"
      refine ⟨⟨fun s hs => ?_, by rw [List.length_map]; exact Nat.le_trans hp.1 (by decide)⟩, fun s hs => ?_, fun _ h => h.elim⟩
      · obtain ⟨c, hc, rfl⟩ := List.mem_map.mp hs
        exact (hp' c hc).2
      replace hs : _ = Dl.Sl.dat _ := hs
      subst hs
      repeat' walk_at "dl"
      refine Dl.o_neD (d := eSh (sumF (l.map (·.2)))) (e := eSh (1, 1)) (Dl.shN_tup (n := 0) fun d hd => ?_).sh (Dl.shN_tup (n := 0) fun d hd => ?_).sh ?_
      · rcases List.mem_cons.mp hd with rfl | hd
        · exact Dl.shN_int 0 _
        · rcases List.mem_cons.mp hd with rfl | hd
          · exact Dl.shN_int 0 _
          · cases hd
      · rcases List.mem_cons.mp hd with rfl | hd
        · exact Dl.shN_int 0 _
        · rcases List.mem_cons.mp hd with rfl | hd
          · exact Dl.shN_int 0 _
          · cases hd
      rw [eqv_sh]
      refine ⟨_, rfl, fun hc2 => ?_, fun hc2 => ?_⟩
      · refine Dl.s_cons (Dl.s_raise2 X.tell.fl rfl ?_)
        repeat' walk_at "dl"
        exact ⟨_, _, by unfold colsFault; rw [hn]; dsimp only; rw [if_neg (by simpa using hc2)], rfl⟩
      · repeat' walk_at "dl"
        show colsFault l = none
        unfold colsFault
        rw [hn]
        dsimp only
        rw [if_pos (by simpa using hc2)]
end
end K76
set_option Elab.async false
set_option linter.all false
set_option maxRecDepth 100000
set_option maxHeartbeats 4000000
set_option autoImplicit false
namespace K76
open PySem PySem.Spec PyProof.Rows L2
local macro_rules | `(tactic| walk_at "nm") => `(tactic| (refine Dl.d_nm (s := ?nmS) ?nmA ?nmB ?_; (case nmA => rfl); (case nmB => rfl)))
local macro_rules | `(tactic| walk_at "fr") => `(tactic| first | assumption)
local macro_rules | `(tactic| walk_at "name") => `(tactic| first
  | walk_at "nm"
  | ((with_reducible show Dl.dE _ _ (Expr.Name "int" _) _ _ _); refine Dl.d_t_int ?frA ?frB ?_; (case frA => walk_at "fr"); (case frB => rfl))
  | ((with_reducible show Dl.dE _ _ (Expr.Name "tuple" _) _ _ _); refine Dl.d_t_tuple ?frA ?frB ?_; (case frA => walk_at "fr"); (case frB => rfl))
  | ((with_reducible show Dl.dE _ _ (Expr.Name "list" _) _ _ _); refine Dl.d_t_list ?frA ?frB ?_; (case frA => walk_at "fr"); (case frB => rfl))
  | ((with_reducible show Dl.dE _ _ (Expr.Name "str" _) _ _ _); refine Dl.d_t_str ?frA ?frB ?_; (case frA => walk_at "fr"); (case frB => rfl))
  | ((with_reducible show Dl.dE _ _ (Expr.Name "bool" _) _ _ _); refine Dl.d_t_bool ?frA ?frB ?_; (case frA => walk_at "fr"); (case frB => rfl))
  | ((with_reducible show Dl.dE _ _ (Expr.Name "set" _) _ _ _); refine Dl.d_t_set ?frA ?frB ?_; (case frA => walk_at "fr"); (case frB => rfl))
  | walk_at "glob")
local macro_rules | `(tactic| walk_at "glob") => `(tactic| first
  | (refine Dl.d_globInt (i := ?gI) ?gA ?gB ?_; (case gA => rfl); (case gB => assumption))
  | (refine Dl.d_globStr (i := ?gI) ?gA ?gB ?_; (case gA => rfl); (case gB => assumption)))
local macro_rules | `(tactic| walk_at "call") => `(tactic| first
  | ((with_reducible show Dl.dE _ _ (Expr.Call (Expr.Name "isinstance" _) _ _ _) _ _ _); refine Dl.d_b_isinstance ?frA ?frB ?_; (case frA => walk_at "fr"); (case frB => rfl))
  | ((with_reducible show Dl.dE _ _ (Expr.Call (Expr.Name "len" _) _ _ _) _ _ _); refine Dl.d_b_len ?frA ?frB ?_; (case frA => walk_at "fr"); (case frB => rfl))
  | ((with_reducible show Dl.dE _ _ (Expr.Call (Expr.Name "all" _) _ _ _) _ _ _); refine Dl.d_b_all ?frA ?frB ?_; (case frA => walk_at "fr"); (case frB => rfl))
  | ((with_reducible show Dl.dE _ _ (Expr.Call (Expr.Name "any" _) _ _ _) _ _ _); refine Dl.d_b_any ?frA ?frB ?_; (case frA => walk_at "fr"); (case frB => rfl))
  | ((with_reducible show Dl.dE _ _ (Expr.Call (Expr.Name "abs" _) _ _ _) _ _ _); refine Dl.d_b_abs ?frA ?frB ?_; (case frA => walk_at "fr"); (case frB => rfl))
  | ((with_reducible show Dl.dE _ _ (Expr.Call (Expr.Name "sum" _) _ _ _) _ _ _); refine Dl.d_b_sum ?frA ?frB ?_; (case frA => walk_at "fr"); (case frB => rfl))
  | ((with_reducible show Dl.dE _ _ (Expr.Call (Expr.Name "min" _) _ _ _) _ _ _); refine Dl.d_b_min ?frA ?frB ?_; (case frA => walk_at "fr"); (case frB => rfl))
  | ((with_reducible show Dl.dE _ _ (Expr.Call (Expr.Name "max" _) _ _ _) _ _ _); refine Dl.d_b_max ?frA ?frB ?_; (case frA => walk_at "fr"); (case frB => rfl))
  | ((with_reducible show Dl.dE _ _ (Expr.Call (Expr.Name "sorted" _) _ _ _) _ _ _); refine Dl.d_b_sorted ?frA ?frB ?_; (case frA => walk_at "fr"); (case frB => rfl))
  | ((with_reducible show Dl.dE _ _ (Expr.Call (Expr.Name "int" _) _ _ _) _ _ _); refine Dl.d_c_int ?frA ?frB ?_; (case frA => walk_at "fr"); (case frB => rfl))
  | ((with_reducible show Dl.dE _ _ (Expr.Call (Expr.Name "tuple" _) _ _ _) _ _ _); refine Dl.d_c_tuple ?frA ?frB ?_; (case frA => walk_at "fr"); (case frB => rfl))
  | ((with_reducible show Dl.dE _ _ (Expr.Call (Expr.Name "list" _) _ _ _) _ _ _); refine Dl.d_c_list ?frA ?frB ?_; (case frA => walk_at "fr"); (case frB => rfl))
  | ((with_reducible show Dl.dE _ _ (Expr.Call (Expr.Name "str" _) _ _ _) _ _ _); refine Dl.d_c_str ?frA ?frB ?_; (case frA => walk_at "fr"); (case frB => rfl))
  | ((with_reducible show Dl.dE _ _ (Expr.Call (Expr.Name "bool" _) _ _ _) _ _ _); refine Dl.d_c_bool ?frA ?frB ?_; (case frA => walk_at "fr"); (case frB => rfl))
  | ((with_reducible show Dl.dE _ _ (Expr.Call (Expr.Name "set" _) _ _ _) _ _ _); refine Dl.d_c_set ?frA ?frB ?_; (case frA => walk_at "fr"); (case frB => rfl))
  | (refine Dl.d_fn (j := ?fnJ) (S := ?fnS) ?fnA ?fnB ?fnC ?_; (case fnA => assumption); (case fnB => exact Nat.le_of_ble_eq_true rfl); (case fnC => rfl)))
local macro_rules | `(tactic| walk_at "ed") => `(tactic| ((with_reducible show Dl.dE _ _ _ _ _ _); first
  | ((with_reducible show Dl.dE _ _ (Expr.Name _ _) _ _ _); walk_at "name")
  | ((with_reducible show Dl.dE _ _ (Expr.Constant (Const.int _) _ _) _ _ _); refine Dl.d_int ?_)
  | ((with_reducible show Dl.dE _ _ (Expr.Constant (Const.str _) _ _) _ _ _); refine Dl.d_str ?_)
  | ((with_reducible show Dl.dE _ _ (Expr.Constant (Const.bool _) _ _) _ _ _); refine Dl.d_bool ?_)
  | ((with_reducible show Dl.dE _ _ (Expr.Constant Const.none _ _) _ _ _); refine Dl.d_none ?_)
  | ((with_reducible show Dl.dE _ _ (Expr.Call (Expr.Name _ _) [_, Expr.Tuple [Expr.Name _ _, Expr.Name _ _] _ _] _ _) _ _ _); (refine Dl.d_isi2 ?frA ?frB ?frC ?frD ?frE ?frF ?_; (case frA => walk_at "fr"); (case frB => walk_at "fr"); (case frC => walk_at "fr"); (case frD => rfl); (case frE => rfl); (case frF => rfl)))
  | ((with_reducible show Dl.dE _ _ (Expr.Call (Expr.Name _ _) _ _ _) _ _ _); walk_at "call")
  | ((with_reducible show Dl.dE _ _ (Expr.BoolOp _ [_] _) _ _ _); refine Dl.d_one ?_)
  | ((with_reducible show Dl.dE _ _ (Expr.BoolOp BoolOp.And _ _) _ _ _); refine Dl.d_and ?_)
  | ((with_reducible show Dl.dE _ _ (Expr.BoolOp BoolOp.Or _ _) _ _ _); refine Dl.d_or ?_)
  | ((with_reducible show Dl.dE _ _ (Expr.UnaryOp UnaryOp.Not _ _) _ _ _); refine Dl.d_not ?_)
  | ((with_reducible show Dl.dE _ _ (Expr.UnaryOp UnaryOp.USub _ _) _ _ _); refine Dl.d_neg ?_)
  | ((with_reducible show Dl.dE _ _ (Expr.BinOp _ _ _ _) _ _ _); refine Dl.d_bin ?_)
  | ((with_reducible show Dl.dE _ _ (Expr.Compare _ [_] _ _) _ _ _); refine Dl.d_cmp ?_)
  | ((with_reducible show Dl.dE _ _ (Expr.Compare _ [_, _] _ _) _ _ _); refine Dl.d_chain ?_)
  | ((with_reducible show Dl.dE _ _ (Expr.IfExp _ _ _ _) _ _ _); refine Dl.d_if ?_)
  | ((with_reducible show Dl.dE _ _ (Expr.Tuple _ _ _) _ _ _); refine Dl.d_tup ?_)
  | ((with_reducible show Dl.dE _ _ (Expr.List _ _) _ _ _); refine Dl.d_lst ?_)
  | ((with_reducible show Dl.dE _ _ (Expr.Subscript _ (Expr.Slice _ _ _ _) _) _ _ _); refine Dl.d_slice ?_)
  | ((with_reducible show Dl.dE _ _ (Expr.Subscript _ _ _) _ _ _); refine Dl.d_ix ?_)))
local macro_rules | `(tactic| walk_at "ad") => `(tactic| ((with_reducible show Dl.dA _ _ _ _ _ _); first | refine Dl.a_nil ?_ | refine Dl.a_cons ?_))
local macro_rules | `(tactic| walk_at "td") => `(tactic| first
  | ((with_reducible show Dl.dT _ _ (Expr.UnaryOp UnaryOp.Not _ _) _ _ _); refine Dl.t_not ?_)
  | ((with_reducible show Dl.dT _ _ (Expr.BoolOp _ _ _) _ _ _); refine Dl.t_bool ?_)
  | ((with_reducible show Dl.dT _ _ (Expr.Compare _ [_] _ _) _ _ _); refine Dl.t_cmp ?_)
  | ((with_reducible show Dl.dT _ _ (Expr.Compare _ [_, _] _ _) _ _ _); refine Dl.t_chain ?_)
  | ((with_reducible show Dl.dT _ _ (_) _ _ _); refine Dl.t_val ?_)
  | ((with_reducible show Dl.dW _ _ (Expr.BoolOp BoolOp.And [_] _) _ _ _); refine Dl.w_and1 ?_)
  | ((with_reducible show Dl.dW _ _ (Expr.BoolOp BoolOp.Or [_] _) _ _ _); refine Dl.w_or1 ?_)
  | ((with_reducible show Dl.dW _ _ (Expr.BoolOp BoolOp.And _ _) _ _ _); refine Dl.w_and ?_)
  | ((with_reducible show Dl.dW _ _ (Expr.BoolOp BoolOp.Or _ _) _ _ _); refine Dl.w_or ?_))
local macro_rules | `(tactic| walk_at "od") => `(tactic| ((with_reducible show Dl.OpD _ _ _ _ _ _); first
  | refine Dl.o_add ?_ | refine Dl.o_sub ?_ | refine Dl.o_lt ?_ | refine Dl.o_le ?_ | refine Dl.o_gt ?_ | refine Dl.o_ge ?_ | refine Dl.o_eq ?_ | refine Dl.o_ne ?_ | refine Dl.o_eqS ?_ | refine Dl.o_mul ?_ ?_ | refine Dl.o_mod ?_ ?_ | refine Dl.o_fdivW ?_ ?_ | refine Dl.o_inS ?_ | refine Dl.o_notInS ?_
  | refine Dl.o_isN ?_ | refine Dl.o_notN ?_))
local macro_rules | `(tactic| walk_at "cd") => `(tactic| ((with_reducible show Dl.CallD _ _ _ _ _); first
  | refine Dl.c_lenT ?_ | refine Dl.c_lenL ?_ | refine Dl.c_lenO ?_ | refine Dl.c_abs ?_ | refine Dl.c_int ?_ | refine Dl.c_lenS ?_ ?_ | refine Dl.c_allT ?_
  | refine Dl.c_isInt ?_ | refine Dl.c_isBool ?_ | refine Dl.c_isStr ?_ | refine Dl.c_isTuple ?_ | refine Dl.c_isList ?_
  | refine Dl.c_allF ?_ | refine Dl.c_tupL ?_ | refine Dl.c_tupT ?_))
local macro_rules | `(tactic| walk_at "sd") => `(tactic| first
  | ((with_reducible show Dl.dS _ _ _ (Stmt.Return (some _) _) _ _ _ _); refine Dl.s_ret ?_)
  | ((with_reducible show Dl.dS _ _ _ (Stmt.Assign [Expr.Tuple [Expr.Name _ _, Expr.Name _ _] _ _] (Expr.Tuple [_, _] _ _) _) _ _ _ _); (refine Dl.s_pr (i := ?stI) (j := ?stJ) ?stA ?stB ?stC ?stD ?stE ?_; (case stA => rfl); (case stB => rfl); (case stC => rfl); (case stD => rfl); (case stE => rfl)))
  | ((with_reducible show Dl.dS _ _ _ (Stmt.If _ _ _ _) _ _ _ _); refine Dl.s_if ?_)
  | ((with_reducible show Dl.dS _ _ _ (Stmt.Assign [Expr.Name _ _] _ _) _ _ _ _); (refine Dl.s_st (i := ?stI) ?stA ?stB ?stC ?_; (case stA => rfl); (case stB => rfl); (case stC => rfl)))
  | ((with_reducible show Dl.dS _ _ _ (Stmt.Expr _ _) _ _ _ _); refine Dl.s_expr ?_)
  | ((with_reducible show Dl.dSs _ _ _ _ _ _ _ _); first | refine Dl.s_cons ?_ | refine Dl.s_nil ?_))
local macro_rules | `(tactic| walk_at "xd") => `(tactic| ((with_reducible show Dl.IxD _ _ _ _ _); first | (refine Dl.x_T (d := ?ixD) ?ixE ?_; (case ixE => rfl)) | (refine Dl.x_L (d := ?ixD) ?ixE ?_; (case ixE => rfl)) | (refine Dl.x_O (d := ?ixD) ?ixE ?_; (case ixE => rfl))))
local macro_rules | `(tactic| walk_at "ds") => `(tactic| (refine Dl.ex_dats (ds := ?dsW) ?dsA ?dsB ?_; (case dsA => rfl); (case dsB => rfl)))
local macro_rules | `(tactic| walk_at "dl") => `(tactic| first
  | walk_at "ds"
  | walk_at "ed"
  | walk_at "ad"
  | walk_at "td"
  | walk_at "od"
  | walk_at "cd"
  | walk_at "sd"
  | walk_at "xd"
  | ((with_reducible refine ⟨_, rfl, fun hc => ?_, fun hc => ?_⟩) <;> (first | contradiction | (exfalso; revert hc; simp [Dl.isTy, Dl.tyD]; done) | skip))
  | ((with_reducible refine ⟨fun hc => ?_, fun hc => ?_⟩) <;> (first | contradiction | (exfalso; revert hc; simp [Dl.isTy, Dl.tyD]; done) | skip))
  | (refine ⟨_, _, rfl, rfl, ?_⟩)
  | (refine ⟨rfl, ?_⟩)
  | (with_reducible refine ⟨_, rfl, ?_⟩)
  | (refine ⟨(_, _), rfl, ?_⟩)
  | (refine ⟨(_, _, _), rfl, ?_⟩)
  | (refine ⟨True.intro, fun _ hs => ?_, fun _ hx => False.elim hx⟩; replace hs : _ = Dl.Sl.dat _ := hs; subst hs)
  | (refine ⟨by assumption, fun _ hs => ?_, fun _ hx => False.elim hx⟩; replace hs : _ = Dl.Sl.dat _ := hs; subst hs)
  | fail)
/-! ### an item against its ties -/
def fitsT (ts : List Tie) (x : Itm) : Bool := x.length == ts.length && (x.zip ts).all fun q => decide (q.1 < if q.2.2 then 2 else 4)
theorem way_both (b : Bool) : wayS b = "both" ↔ b = true := by
  cases b
  · refine ⟨fun h => ?_, fun h => by cases h⟩
    exact absurd h (by decide +kernel)
  · exact ⟨fun _ => rfl, fun _ => rfl⟩
def fitsSpec : Dl.Spec where
  α := List Tie × Itm
  arg a := [.dat (.tuple (a.1.map eTie)), .dat (eI a.2)]
  pre a := a.1.length ≤ 3 ∧ ∀ t ∈ a.1, t.1 ∈ inNames
  post a s := s = .dat (.bool (fitsT a.1 a.2))
section
variable {G : Dl.Gd}
theorem ok_fits_ties (T : Top G) : Dl.Fn G 1 "fits_ties" fitsSpec := by
  have f1 := fr_len T
  have f2 := fr_all T
  have f3 := fr_zip T
  refine mk_fits_ties T (fun _ => rfl) fun cdv M0 ⟨ts, x⟩ hp => ?_
  have hp' : ∀ t ∈ ts, t.1 ∈ inNames := hp.2
  have ht : ts.length ≤ 3 := hp.1
  repeat' walk_at "dl"
  · rename_i hc
    show _ = Dl.Sl.dat (.bool (fitsT ts x))
    have e : fitsT ts x = false := by
      unfold fitsT
      rw [Bool.and_eq_false_iff]
      refine Or.inl ?_
      have hc : ¬ ((x.length : Int) = ts.length) := by simpa using hc
      have hc : ¬ (x.length = ts.length) := by omega
      simpa using hc
    rw [e]
  · rename_i hc
    have hc : ((x.length : Int) = ts.length) := by simpa using hc
    have hl : x.length = ts.length := by omega
    refine Dl.d_ofLc (Dl.l_T (QL := fun zs => zs = (x.zip ts).map fun q => PyData.bool (decide (q.1 < if q.2.2 then 2 else 4))) (fun q : Int × Tie => .tuple [.int q.1, eTie q.2]) (fun q => .bool (decide (q.1 < if q.2.2 then 2 else 4))) (own := [("number", 2), ("name", 3), ("way", 4)]) (is := [2, 3, 4]) (by kernel_rfl) (by decide) ?_) ?_
    · refine Dl.i_zip rfl f3 (Dl.d_nm (s := .dat (.tuple (x.map .int))) rfl rfl (Dl.d_nm (s := .dat (.tuple (ts.map eTie))) rfl rfl (Or.inr ⟨_, _, rfl, rfl, x.zip ts, by rw [Dl.pairsT], by rw [Dl.pairsT, List.length_map, List.length_zip]; exact Nat.le_trans (Nat.min_le_right _ _) (Nat.le_trans ht (by decide)), fun D q hq => ?_, rfl⟩)))
      obtain ⟨n, c, b⟩ := q
      refine Dl.g_tup (ds := [.int n, .tuple [.str (nmS c), .str (wayS b)]]) (is := [2, 3, 4]) rfl (Dl.gs_cons (is := [2]) (js := [3, 4]) (Dl.g_nm (i := 2) rfl rfl (Dl.gs_cons (is := [3, 4]) (js := []) (Dl.g_tup (ds := [.str (nmS c), .str (wayS b)]) (is := [3, 4]) rfl (Dl.gs_cons (is := [3]) (js := [4]) (Dl.g_nm (i := 3) rfl rfl (Dl.gs_cons (is := [4]) (js := []) (Dl.g_nm (i := 4) rfl rfl (Dl.gs_nil (Dl.gs_nil ?_))))))))))
      repeat' walk_at "dl"
      · rename_i hb
        have hb := (way_both b).mp (of_decide_eq_true hb)
        subst hb
        rfl
      · rename_i hb
        have hb : b = false := by
          cases b
          · rfl
          · exact absurd ((way_both true).mpr rfl) (of_decide_eq_false hb)
        subst hb
        rfl
    · intro zs hz
      subst hz
      repeat' walk_at "dl"
      show _ = Dl.Sl.dat (.bool (fitsT ts x))
      unfold fitsT
      rw [hl]
      simp
/-! ### an item seen from the other place -/
def turnI (n : Int) : Int := if n = 1 then 2 else if n = 2 then 1 else n
def mirrorI (ts : List Tie) (x : Itm) : Itm := (x.zip ts).map fun q => if q.2.2 then q.1 else turnI q.1
def mirSpec : Dl.Spec where
  α := List Tie × Itm
  arg a := [.dat (.tuple (a.1.map eTie)), .dat (eI a.2)]
  pre a := a.1.length ≤ 3 ∧ ItmOk a.2
  post a s := s = .dat (eI (mirrorI a.1 a.2))
theorem ok_plain_mirror (T : Top G) : Dl.Fn G 1 "plain_mirror" mirSpec := by
  have f2 := fr_tuple T
  have f3 := fr_zip T
  refine mk_plain_mirror T (fun _ => rfl) fun cdv M0 ⟨ts, x⟩ hp => ?_
  have ht : ts.length ≤ 3 := hp.1
  have hx : ∀ n ∈ x, 0 ≤ n ∧ n ≤ 3 := hp.2.2
  repeat' walk_at "dl"
  refine Dl.d_ofLc (Dl.l_T (QL := fun zs => zs = (mirrorI ts x).map PyData.int) (fun q : Int × Tie => .tuple [.int q.1, eTie q.2]) (fun q => .int (if q.2.2 then q.1 else turnI q.1)) (own := [("number", 3), ("name", 4), ("way", 5)]) (is := [3, 4, 5]) (by kernel_rfl) (by decide) ?_) ?_
  · refine Dl.i_zip rfl f3 (Dl.d_nm (s := .dat (.tuple (x.map .int))) rfl rfl (Dl.d_nm (s := .dat (.tuple (ts.map eTie))) rfl rfl (Or.inr ⟨_, _, rfl, rfl, x.zip ts, by rw [Dl.pairsT], by rw [Dl.pairsT, List.length_map, List.length_zip]; exact Nat.le_trans (Nat.min_le_right _ _) (Nat.le_trans ht (by decide)), fun D q hq => ?_, by unfold mirrorI; rw [List.map_map]; rfl⟩)))
    obtain ⟨n, c, b⟩ := q
    have hn : 0 ≤ n ∧ n ≤ 3 := hx n (List.of_mem_zip hq).1
    refine Dl.g_tup (ds := [.int n, .tuple [.str (nmS c), .str (wayS b)]]) (is := [3, 4, 5]) rfl (Dl.gs_cons (is := [3]) (js := [4, 5]) (Dl.g_nm (i := 3) rfl rfl (Dl.gs_cons (is := [4, 5]) (js := []) (Dl.g_tup (ds := [.str (nmS c), .str (wayS b)]) (is := [4, 5]) rfl (Dl.gs_cons (is := [4]) (js := [5]) (Dl.g_nm (i := 4) rfl rfl (Dl.gs_cons (is := [5]) (js := []) (Dl.g_nm (i := 5) rfl rfl (Dl.gs_nil (Dl.gs_nil ?_))))))))))
    have ht : atI [PyData.int 0, PyData.int 2, PyData.int 1, PyData.int 3] n = some (PyData.int (turnI n)) := by
      have : n = 0 ∨ n = 1 ∨ n = 2 ∨ n = 3 := by omega
      rcases this with rfl | rfl | rfl | rfl <;> rfl
    repeat' walk_at "dl"
    · rename_i hb
      have hb := (way_both b).mp (of_decide_eq_true hb)
      subst hb
      rfl
    · rename_i hb
      have hb : b = false := by
        cases b
        · rfl
        · exact absurd ((way_both true).mpr rfl) (of_decide_eq_false hb)
      subst hb
      exact Dl.x_T ht rfl
  · intro zs hz
    subst hz
    repeat' walk_at "dl"
    exact rfl
end
end K76
set_option Elab.async false
set_option linter.all false
set_option maxRecDepth 100000
set_option maxHeartbeats 4000000
set_option autoImplicit false
namespace K76
open PySem PySem.Spec PyProof.Rows L2
local macro_rules | `(tactic| walk_at "nm") => `(tactic| (refine Dl.d_nm (s := ?nmS) ?nmA ?nmB ?_; (case nmA => rfl); (case nmB => rfl)))
local macro_rules | `(tactic| walk_at "fr") => `(tactic| first | assumption)
local macro_rules | `(tactic| walk_at "name") => `(tactic| first
  | walk_at "nm"
  | ((with_reducible show Dl.dE _ _ (Expr.Name "int" _) _ _ _); refine Dl.d_t_int ?frA ?frB ?_; (case frA => walk_at "fr"); (case frB => rfl))
  | ((with_reducible show Dl.dE _ _ (Expr.Name "tuple" _) _ _ _); refine Dl.d_t_tuple ?frA ?frB ?_; (case frA => walk_at "fr"); (case frB => rfl))
  | ((with_reducible show Dl.dE _ _ (Expr.Name "list" _) _ _ _); refine Dl.d_t_list ?frA ?frB ?_; (case frA => walk_at "fr"); (case frB => rfl))
  | ((with_reducible show Dl.dE _ _ (Expr.Name "str" _) _ _ _); refine Dl.d_t_str ?frA ?frB ?_; (case frA => walk_at "fr"); (case frB => rfl))
  | ((with_reducible show Dl.dE _ _ (Expr.Name "bool" _) _ _ _); refine Dl.d_t_bool ?frA ?frB ?_; (case frA => walk_at "fr"); (case frB => rfl))
  | ((with_reducible show Dl.dE _ _ (Expr.Name "set" _) _ _ _); refine Dl.d_t_set ?frA ?frB ?_; (case frA => walk_at "fr"); (case frB => rfl))
  | walk_at "glob")
local macro_rules | `(tactic| walk_at "glob") => `(tactic| first
  | (refine Dl.d_globInt (i := ?gI) ?gA ?gB ?_; (case gA => rfl); (case gB => assumption))
  | (refine Dl.d_globStr (i := ?gI) ?gA ?gB ?_; (case gA => rfl); (case gB => assumption)))
local macro_rules | `(tactic| walk_at "call") => `(tactic| first
  | ((with_reducible show Dl.dE _ _ (Expr.Call (Expr.Name "isinstance" _) _ _ _) _ _ _); refine Dl.d_b_isinstance ?frA ?frB ?_; (case frA => walk_at "fr"); (case frB => rfl))
  | ((with_reducible show Dl.dE _ _ (Expr.Call (Expr.Name "len" _) _ _ _) _ _ _); refine Dl.d_b_len ?frA ?frB ?_; (case frA => walk_at "fr"); (case frB => rfl))
  | ((with_reducible show Dl.dE _ _ (Expr.Call (Expr.Name "all" _) _ _ _) _ _ _); refine Dl.d_b_all ?frA ?frB ?_; (case frA => walk_at "fr"); (case frB => rfl))
  | ((with_reducible show Dl.dE _ _ (Expr.Call (Expr.Name "any" _) _ _ _) _ _ _); refine Dl.d_b_any ?frA ?frB ?_; (case frA => walk_at "fr"); (case frB => rfl))
  | ((with_reducible show Dl.dE _ _ (Expr.Call (Expr.Name "abs" _) _ _ _) _ _ _); refine Dl.d_b_abs ?frA ?frB ?_; (case frA => walk_at "fr"); (case frB => rfl))
  | ((with_reducible show Dl.dE _ _ (Expr.Call (Expr.Name "sum" _) _ _ _) _ _ _); refine Dl.d_b_sum ?frA ?frB ?_; (case frA => walk_at "fr"); (case frB => rfl))
  | ((with_reducible show Dl.dE _ _ (Expr.Call (Expr.Name "min" _) _ _ _) _ _ _); refine Dl.d_b_min ?frA ?frB ?_; (case frA => walk_at "fr"); (case frB => rfl))
  | ((with_reducible show Dl.dE _ _ (Expr.Call (Expr.Name "max" _) _ _ _) _ _ _); refine Dl.d_b_max ?frA ?frB ?_; (case frA => walk_at "fr"); (case frB => rfl))
  | ((with_reducible show Dl.dE _ _ (Expr.Call (Expr.Name "sorted" _) _ _ _) _ _ _); refine Dl.d_b_sorted ?frA ?frB ?_; (case frA => walk_at "fr"); (case frB => rfl))
  | ((with_reducible show Dl.dE _ _ (Expr.Call (Expr.Name "int" _) _ _ _) _ _ _); refine Dl.d_c_int ?frA ?frB ?_; (case frA => walk_at "fr"); (case frB => rfl))
  | ((with_reducible show Dl.dE _ _ (Expr.Call (Expr.Name "tuple" _) _ _ _) _ _ _); refine Dl.d_c_tuple ?frA ?frB ?_; (case frA => walk_at "fr"); (case frB => rfl))
  | ((with_reducible show Dl.dE _ _ (Expr.Call (Expr.Name "list" _) _ _ _) _ _ _); refine Dl.d_c_list ?frA ?frB ?_; (case frA => walk_at "fr"); (case frB => rfl))
  | ((with_reducible show Dl.dE _ _ (Expr.Call (Expr.Name "str" _) _ _ _) _ _ _); refine Dl.d_c_str ?frA ?frB ?_; (case frA => walk_at "fr"); (case frB => rfl))
  | ((with_reducible show Dl.dE _ _ (Expr.Call (Expr.Name "bool" _) _ _ _) _ _ _); refine Dl.d_c_bool ?frA ?frB ?_; (case frA => walk_at "fr"); (case frB => rfl))
  | ((with_reducible show Dl.dE _ _ (Expr.Call (Expr.Name "set" _) _ _ _) _ _ _); refine Dl.d_c_set ?frA ?frB ?_; (case frA => walk_at "fr"); (case frB => rfl))
  | (refine Dl.d_fn (j := ?fnJ) (S := ?fnS) ?fnA ?fnB ?fnC ?_; (case fnA => assumption); (case fnB => exact Nat.le_of_ble_eq_true rfl); (case fnC => rfl)))
local macro_rules | `(tactic| walk_at "ed") => `(tactic| ((with_reducible show Dl.dE _ _ _ _ _ _); first
  | ((with_reducible show Dl.dE _ _ (Expr.Name _ _) _ _ _); walk_at "name")
  | ((with_reducible show Dl.dE _ _ (Expr.Constant (Const.int _) _ _) _ _ _); refine Dl.d_int ?_)
  | ((with_reducible show Dl.dE _ _ (Expr.Constant (Const.str _) _ _) _ _ _); refine Dl.d_str ?_)
  | ((with_reducible show Dl.dE _ _ (Expr.Constant (Const.bool _) _ _) _ _ _); refine Dl.d_bool ?_)
  | ((with_reducible show Dl.dE _ _ (Expr.Constant Const.none _ _) _ _ _); refine Dl.d_none ?_)
  | ((with_reducible show Dl.dE _ _ (Expr.Call (Expr.Name _ _) [_, Expr.Tuple [Expr.Name _ _, Expr.Name _ _] _ _] _ _) _ _ _); (refine Dl.d_isi2 ?frA ?frB ?frC ?frD ?frE ?frF ?_; (case frA => walk_at "fr"); (case frB => walk_at "fr"); (case frC => walk_at "fr"); (case frD => rfl); (case frE => rfl); (case frF => rfl)))
  | ((with_reducible show Dl.dE _ _ (Expr.Call (Expr.Name _ _) _ _ _) _ _ _); walk_at "call")
  | ((with_reducible show Dl.dE _ _ (Expr.BoolOp _ [_] _) _ _ _); refine Dl.d_one ?_)
  | ((with_reducible show Dl.dE _ _ (Expr.BoolOp BoolOp.And _ _) _ _ _); refine Dl.d_and ?_)
  | ((with_reducible show Dl.dE _ _ (Expr.BoolOp BoolOp.Or _ _) _ _ _); refine Dl.d_or ?_)
  | ((with_reducible show Dl.dE _ _ (Expr.UnaryOp UnaryOp.Not _ _) _ _ _); refine Dl.d_not ?_)
  | ((with_reducible show Dl.dE _ _ (Expr.UnaryOp UnaryOp.USub _ _) _ _ _); refine Dl.d_neg ?_)
  | ((with_reducible show Dl.dE _ _ (Expr.BinOp _ _ _ _) _ _ _); refine Dl.d_bin ?_)
  | ((with_reducible show Dl.dE _ _ (Expr.Compare _ [_] _ _) _ _ _); refine Dl.d_cmp ?_)
  | ((with_reducible show Dl.dE _ _ (Expr.Compare _ [_, _] _ _) _ _ _); refine Dl.d_chain ?_)
  | ((with_reducible show Dl.dE _ _ (Expr.IfExp _ _ _ _) _ _ _); refine Dl.d_if ?_)
  | ((with_reducible show Dl.dE _ _ (Expr.Tuple _ _ _) _ _ _); refine Dl.d_tup ?_)
  | ((with_reducible show Dl.dE _ _ (Expr.List _ _) _ _ _); refine Dl.d_lst ?_)
  | ((with_reducible show Dl.dE _ _ (Expr.Subscript _ (Expr.Slice _ _ _ _) _) _ _ _); refine Dl.d_slice ?_)
  | ((with_reducible show Dl.dE _ _ (Expr.Subscript _ _ _) _ _ _); refine Dl.d_ix ?_)))
local macro_rules | `(tactic| walk_at "ad") => `(tactic| ((with_reducible show Dl.dA _ _ _ _ _ _); first | refine Dl.a_nil ?_ | refine Dl.a_cons ?_))
local macro_rules | `(tactic| walk_at "td") => `(tactic| first
  | ((with_reducible show Dl.dT _ _ (Expr.UnaryOp UnaryOp.Not _ _) _ _ _); refine Dl.t_not ?_)
  | ((with_reducible show Dl.dT _ _ (Expr.BoolOp _ _ _) _ _ _); refine Dl.t_bool ?_)
  | ((with_reducible show Dl.dT _ _ (Expr.Compare _ [_] _ _) _ _ _); refine Dl.t_cmp ?_)
  | ((with_reducible show Dl.dT _ _ (Expr.Compare _ [_, _] _ _) _ _ _); refine Dl.t_chain ?_)
  | ((with_reducible show Dl.dT _ _ (_) _ _ _); refine Dl.t_val ?_)
  | ((with_reducible show Dl.dW _ _ (Expr.BoolOp BoolOp.And [_] _) _ _ _); refine Dl.w_and1 ?_)
  | ((with_reducible show Dl.dW _ _ (Expr.BoolOp BoolOp.Or [_] _) _ _ _); refine Dl.w_or1 ?_)
  | ((with_reducible show Dl.dW _ _ (Expr.BoolOp BoolOp.And _ _) _ _ _); refine Dl.w_and ?_)
  | ((with_reducible show Dl.dW _ _ (Expr.BoolOp BoolOp.Or _ _) _ _ _); refine Dl.w_or ?_))
local macro_rules | `(tactic| walk_at "od") => `(tactic| ((with_reducible show Dl.OpD _ _ _ _ _ _); first
  | refine Dl.o_add ?_ | refine Dl.o_sub ?_ | refine Dl.o_lt ?_ | refine Dl.o_le ?_ | refine Dl.o_gt ?_ | refine Dl.o_ge ?_ | refine Dl.o_eq ?_ | refine Dl.o_ne ?_ | refine Dl.o_eqS ?_ | refine Dl.o_mul ?_ ?_ | refine Dl.o_mod ?_ ?_ | refine Dl.o_fdivW ?_ ?_ | refine Dl.o_inS ?_ | refine Dl.o_notInS ?_
  | refine Dl.o_isN ?_ | refine Dl.o_notN ?_))
local macro_rules | `(tactic| walk_at "cd") => `(tactic| ((with_reducible show Dl.CallD _ _ _ _ _); first
  | refine Dl.c_lenT ?_ | refine Dl.c_lenL ?_ | refine Dl.c_lenO ?_ | refine Dl.c_abs ?_ | refine Dl.c_int ?_ | refine Dl.c_lenS ?_ ?_ | refine Dl.c_allT ?_
  | refine Dl.c_isInt ?_ | refine Dl.c_isBool ?_ | refine Dl.c_isStr ?_ | refine Dl.c_isTuple ?_ | refine Dl.c_isList ?_
  | refine Dl.c_allF ?_ | refine Dl.c_tupL ?_ | refine Dl.c_tupT ?_))
local macro_rules | `(tactic| walk_at "sd") => `(tactic| first
  | ((with_reducible show Dl.dS _ _ _ (Stmt.Return (some _) _) _ _ _ _); refine Dl.s_ret ?_)
  | ((with_reducible show Dl.dS _ _ _ (Stmt.Assign [Expr.Tuple [Expr.Name _ _, Expr.Name _ _] _ _] (Expr.Tuple [_, _] _ _) _) _ _ _ _); (refine Dl.s_pr (i := ?stI) (j := ?stJ) ?stA ?stB ?stC ?stD ?stE ?_; (case stA => rfl); (case stB => rfl); (case stC => rfl); (case stD => rfl); (case stE => rfl)))
  | ((with_reducible show Dl.dS _ _ _ (Stmt.If _ _ _ _) _ _ _ _); refine Dl.s_if ?_)
  | ((with_reducible show Dl.dS _ _ _ (Stmt.Assign [Expr.Name _ _] _ _) _ _ _ _); (refine Dl.s_st (i := ?stI) ?stA ?stB ?stC ?_; (case stA => rfl); (case stB => rfl); (case stC => rfl)))
  | ((with_reducible show Dl.dS _ _ _ (Stmt.Expr _ _) _ _ _ _); refine Dl.s_expr ?_)
  | ((with_reducible show Dl.dSs _ _ _ _ _ _ _ _); first | refine Dl.s_cons ?_ | refine Dl.s_nil ?_))
local macro_rules | `(tactic| walk_at "xd") => `(tactic| ((with_reducible show Dl.IxD _ _ _ _ _); first | (refine Dl.x_T (d := ?ixD) ?ixE ?_; (case ixE => rfl)) | (refine Dl.x_L (d := ?ixD) ?ixE ?_; (case ixE => rfl)) | (refine Dl.x_O (d := ?ixD) ?ixE ?_; (case ixE => rfl))))
local macro_rules | `(tactic| walk_at "ds") => `(tactic| (refine Dl.ex_dats (ds := ?dsW) ?dsA ?dsB ?_; (case dsA => rfl); (case dsB => rfl)))
local macro_rules | `(tactic| walk_at "dl") => `(tactic| first
  | walk_at "ds"
  | walk_at "ed"
  | walk_at "ad"
  | walk_at "td"
  | walk_at "od"
  | walk_at "cd"
  | walk_at "sd"
  | walk_at "xd"
  | ((with_reducible refine ⟨_, rfl, fun hc => ?_, fun hc => ?_⟩) <;> (first | contradiction | (exfalso; revert hc; simp [Dl.isTy, Dl.tyD]; done) | skip))
  | ((with_reducible refine ⟨fun hc => ?_, fun hc => ?_⟩) <;> (first | contradiction | (exfalso; revert hc; simp [Dl.isTy, Dl.tyD]; done) | skip))
  | (refine ⟨_, _, rfl, rfl, ?_⟩)
  | (refine ⟨rfl, ?_⟩)
  | (with_reducible refine ⟨_, rfl, ?_⟩)
  | (refine ⟨(_, _), rfl, ?_⟩)
  | (refine ⟨(_, _, _), rfl, ?_⟩)
  | (refine ⟨True.intro, fun _ hs => ?_, fun _ hx => False.elim hx⟩; replace hs : _ = Dl.Sl.dat _ := hs; subst hs)
  | (refine ⟨by assumption, fun _ hs => ?_, fun _ hx => False.elim hx⟩; replace hs : _ = Dl.Sl.dat _ := hs; subst hs)
  | fail)
/-! ### a menu's faults -/
def ascends (l : List Itm) : Bool := (l.zip (l.drop 1)).all fun q => HT.lexLt q.1 q.2
def menuFault (ts : List Tie) (m : Menu) (own : Bool) : Option Str :=
  if m = [] ∨ ascends (m.map (·.1)) = false ∨ (m.all fun r => fitsT ts r.1) = false then some "items"
  else if (m.all fun r => decide (1 ≤ r.2.1)) = false then some "share"
  else if sumF (m.map (·.2)) ≠ (1, 1) then some "sum"
  else if own && !(m.all fun r => m.contains (mirrorI ts r.1, r.2)) then some "mirror" else none
def menuSpec : Dl.Spec where
  α := Kd × PyData × Menu × Bool
  arg a := [.dat (eKd a.1), .dat a.2.1, .dat (eMenu a.2.2.1), .dat (.bool a.2.2.2)]
  pre a := a.1.ties.length ≤ 3 ∧ (∀ t ∈ a.1.ties, t.1 ∈ inNames) ∧ MenuOk a.2.2.1
  post a _ := menuFault a.1.ties a.2.2.1 a.2.2.2 = none
  exn a x := ∃ f, menuFault a.1.ties a.2.2.1 a.2.2.2 = some f ∧ x = faultX "BadKind" a.2.1 f
theorem sh_sh (s : Sh) : Dl.ShN 1 (eSh s) := Dl.shN_tup (n := 0) fun d hd => by
  rcases List.mem_cons.mp hd with rfl | hd
  · exact Dl.shN_int 0 _
  · rcases List.mem_cons.mp hd with rfl | hd
    · exact Dl.shN_int 0 _
    · cases hd
theorem sh_row (r : Row) : Dl.ShN 2 (eRow r) := Dl.shN_tup (n := 1) fun d hd => by
  rcases List.mem_cons.mp hd with rfl | hd
  · refine Dl.shN_tup (n := 0) fun e he => ?_
    obtain ⟨n, hn, rfl⟩ := List.mem_map.mp he
    exact Dl.shN_int 0 n
  · rcases List.mem_cons.mp hd with rfl | hd
    · exact sh_sh _
    · cases hd
theorem nb_row (r : Row) : Dl.Nb (eRow r) := by
  refine .tuple fun d hd => ?_
  rcases List.mem_cons.mp hd with rfl | hd
  · refine .tuple fun e he => ?_
    obtain ⟨n, hn, rfl⟩ := List.mem_map.mp he
    exact .int n
  · rcases List.mem_cons.mp hd with rfl | hd
    · refine .tuple fun e he => ?_
      rcases List.mem_cons.mp he with rfl | he
      · exact .int _
      · rcases List.mem_cons.mp he with rfl | he
        · exact .int _
        · cases he
    · cases hd
theorem int_inj : ∀ {x y : Itm}, x.map PyData.int = y.map PyData.int → x = y
  | [], [], _ => rfl
  | [], _ :: _, h => by cases h
  | _ :: _, [], h => by cases h
  | a :: x, b :: y, h => by
    rw [List.map_cons, List.map_cons] at h
    injection h with h1 h2
    injection h1 with h1
    rw [h1, int_inj h2]
theorem eRow_inj {a b : Row} (h : eRow a = eRow b) : a = b := by
  obtain ⟨x, s1, s2⟩ := a
  obtain ⟨y, t1, t2⟩ := b
  unfold eRow eI eSh at h
  injection h with h
  injection h with h1 h2
  injection h1 with h1
  injection h2 with h2 _
  injection h2 with h2
  injection h2 with h3 h4
  injection h3 with h3
  injection h4 with h4 _
  injection h4 with h4
  have h1 := int_inj h1
  dsimp only at h1 h3 h4
  rw [h1, h3, h4]
theorem any_row (m : Menu) (r : Row) : ((m.map eRow).any fun z => PyData.eqv z (eRow r)) = m.contains r := by
  rw [Bool.eq_iff_iff, List.any_eq_true, List.contains_iff_mem]
  constructor
  · rintro ⟨z, hz, e⟩
    obtain ⟨q, hq, rfl⟩ := List.mem_map.mp hz
    rw [← eRow_inj ((Dl.eqv_iff _ _ (nb_row q) (nb_row r)).mp e)]
    exact hq
  · intro h
    exact ⟨eRow r, List.mem_map.mpr ⟨r, h, rfl⟩, (Dl.eqv_iff _ _ (nb_row r) (nb_row r)).mpr rfl⟩
theorem eqv_nil (ds : List PyData) : PyData.eqv (.list ds) (.list []) = ds.isEmpty := by
  cases ds <;> rfl
section
variable {G : Dl.Gd}
theorem ok_check_menu (T : Top G) (X : Ext G) : Dl.Fn G 6 "check_menu" menuSpec := by
  have f1 := fr_all T
  have f3 := fr_zip T
  have h1 := ok_summed T
  have h2 := (ok_fits_ties T)
  have h3 := (ok_plain_mirror T)
  refine mk_check_menu T (fun _ => rfl) fun cdv M0 ⟨k, w, m, o⟩ hp => ?_
  have ht : k.ties.length ≤ 3 := hp.1
  have hn : ∀ t ∈ k.ties, t.1 ∈ inNames := hp.2.1
  have hm : MenuOk m := hp.2.2
  have hz64 : m.length ≤ 64 := hm.1
  repeat' walk_at "dl"
  refine Dl.s_lc (i := 4) rfl rfl (Dl.l_T (QL := fun zs => zs = (m.map (·.1)).map eI) eRow (fun r => eI r.1) (own := [("item", 6), ("share", 7)]) (is := [6, 7]) (by kernel_rfl) (by decide) ?_) (fun zs hz => ?_) rfl rfl rfl
  · refine Dl.i_tupL (Dl.d_nm (s := .dat (eMenu m)) rfl rfl ⟨_, rfl, fun hl => ⟨m, rfl, hl, fun D x hx => ?_, by rw [List.map_map]; rfl⟩⟩)
    refine Dl.g_tup (ds := [eI x.1, eSh x.2]) (is := [6, 7]) rfl (Dl.gs_cons (is := [6]) (js := [7]) (Dl.g_nm (i := 6) rfl rfl (Dl.gs_cons (is := [7]) (js := []) (Dl.g_nm (i := 7) rfl rfl (Dl.gs_nil ?_)))))
    repeat' walk_at "dl"
    exact rfl
  subst hz
  repeat' walk_at "dl"
  refine Dl.d_ofLc (Dl.l_T (QL := fun zs => zs = ((m.map (·.1)).zip ((m.map (·.1)).drop 1)).map fun q => PyData.bool (HT.lexLt q.1 q.2)) (fun q : Itm × Itm => .tuple [eI q.1, eI q.2]) (fun q => .bool (HT.lexLt q.1 q.2)) (own := [("one", 8), ("other", 9)]) (is := [8, 9]) (by kernel_rfl) (by decide) ?_) (fun zs hz => ?_)
  · refine Dl.i_zip rfl f3 (Dl.d_nm (s := .dat (.list ((m.map (·.1)).map eI))) rfl rfl (Dl.d_fromL (ds := (m.map (·.1)).map eI) 1 (Dl.d_nm (s := .dat (.list ((m.map (·.1)).map eI))) rfl rfl ⟨rfl, Dl.d_int ⟨rfl, Or.inl ⟨_, _, rfl, rfl, (m.map (·.1)).zip ((m.map (·.1)).drop 1), by rw [← List.map_drop, Dl.pairsT], by rw [← List.map_drop, Dl.pairsT, List.length_map, List.length_zip, List.length_map]; exact Nat.le_trans (Nat.min_le_left _ _) (Nat.le_trans hz64 (by decide)), fun D q hq => ?_, rfl⟩⟩⟩)))
    refine Dl.g_tup (ds := [eI q.1, eI q.2]) (is := [8, 9]) rfl (Dl.gs_cons (is := [8]) (js := [9]) (Dl.g_nm (i := 8) rfl rfl (Dl.gs_cons (is := [9]) (js := []) (Dl.g_nm (i := 9) rfl rfl (Dl.gs_nil ?_)))))
    repeat' walk_at "dl"
    refine Dl.o_ltT (ns := q.1) (ms := q.2) ?_
    repeat' walk_at "dl"
    exact rfl
  subst hz
  repeat' walk_at "dl"
  refine Dl.o_eqD (d := .list ((m.map (·.1)).map eI)) (e := .list []) (Dl.shN_lst (n := 1) fun d hd => ?_).sh (Dl.shN_lst (n := 1) fun d hd => by cases hd).sh ?_
  · obtain ⟨x, hx, rfl⟩ := List.mem_map.mp hd
    refine Dl.shN_tup (n := 0) fun e he => ?_
    obtain ⟨n, hn, rfl⟩ := List.mem_map.mp he
    exact Dl.shN_int 0 n
  rw [eqv_nil]
  refine ⟨_, rfl, fun hc => ?_, fun hc => ?_⟩
  · have hF : menuFault k.ties m o = some ("items" : Str) := by
      unfold menuFault
      rw [if_pos (Or.inl (by simpa using hc))]
    repeat' walk_at "dl"
    refine Dl.s_raise2 X.tell.fl rfl ?_
    repeat' walk_at "dl"
    exact ⟨_, hF, rfl⟩
  have hm0 : ¬ m = [] := by simpa using hc
  repeat' walk_at "dl"
  · rename_i ha _
    have hF : menuFault k.ties m o = some ("items" : Str) := by
      unfold menuFault
      rw [if_pos (Or.inr (Or.inl (by simpa [ascends] using ha)))]
    refine Dl.s_raise2 X.tell.fl rfl ?_
    repeat' walk_at "dl"
    exact ⟨_, hF, rfl⟩
  rename_i ha
  have ha : ascends (m.map (·.1)) = true := by simpa [ascends] using ha
  refine Dl.d_ofLc (Dl.l_T (QL := fun zs => zs = m.map fun r => PyData.bool (fitsT k.ties r.1)) eI (fun x => .bool (fitsT k.ties x)) (own := [("item", 6)]) (is := [6]) (by kernel_rfl) (by decide) ?_) (fun zs hz => ?_)
  · refine Dl.i_listL (Dl.d_nm (s := .dat (.list ((m.map (·.1)).map eI))) rfl rfl ⟨_, rfl, fun hl => ⟨m.map (·.1), rfl, hl, fun D x hx => ?_, by rw [List.map_map]; rfl⟩⟩)
    refine Dl.g_nm (i := 6) rfl rfl ?_
    repeat' walk_at "dl"
    refine ⟨⟨ht, hn⟩, fun s hs => hs, fun _ h => h.elim⟩
  subst hz
  repeat' walk_at "dl"
  · rename_i hf
    have hF : menuFault k.ties m o = some ("items" : Str) := by
      unfold menuFault
      rw [if_pos (Or.inr (Or.inr (by simpa using hf)))]
    refine Dl.s_raise2 X.tell.fl rfl ?_
    repeat' walk_at "dl"
    exact ⟨_, hF, rfl⟩
  rename_i hf
  have hf : (m.all fun r => fitsT k.ties r.1) = true := by simpa using hf
  have hF0 : ¬ (m = [] ∨ ascends (m.map (·.1)) = false ∨ (m.all fun r => fitsT k.ties r.1) = false) := by
    rw [ha, hf]; simp [hm0]
  refine Dl.d_ofLc (Dl.l_T (QL := fun zs => zs = m.map fun r => PyData.bool (decide (1 ≤ r.2.1))) eRow (fun r => .bool (decide (1 ≤ r.2.1))) (own := [("item", 6), ("share", 7)]) (is := [6, 7]) (by kernel_rfl) (by decide) ?_) (fun zs hz => ?_)
  · refine Dl.i_tupL (Dl.d_nm (s := .dat (eMenu m)) rfl rfl ⟨_, rfl, fun hl => ⟨m, rfl, hl, fun D x hx => ?_, rfl⟩⟩)
    obtain ⟨x, s1, s2⟩ := x
    refine Dl.g_tup (ds := [eI x, .tuple [.int s1, .int s2]]) (is := [6, 7]) rfl (Dl.gs_cons (is := [6]) (js := [7]) (Dl.g_nm (i := 6) rfl rfl (Dl.gs_cons (is := [7]) (js := []) (Dl.g_nm (i := 7) rfl rfl (Dl.gs_nil ?_)))))
    repeat' walk_at "dl"
    exact rfl
  subst hz
  repeat' walk_at "dl"
  · rename_i hs
    have hF : menuFault k.ties m o = some ("share" : Str) := by
      unfold menuFault
      rw [if_neg hF0, if_pos (by simpa using hs)]
    refine Dl.s_raise2 X.tell.fl rfl ?_
    repeat' walk_at "dl"
    exact ⟨_, hF, rfl⟩
  rename_i hs
  have hs : (m.all fun r => decide (1 ≤ r.2.1)) = true := by simpa using hs
  refine Dl.d_ofLc (Dl.l_T (QL := fun zs => zs = (m.map (·.2)).map eSh) eRow (fun p => eSh p.2) (own := [("item", 6), ("share", 7)]) (is := [6, 7]) (by kernel_rfl) (by decide) ?_) (fun zs hz => ?_)
  · refine Dl.i_tupL (Dl.d_nm (s := .dat (eMenu m)) rfl rfl ⟨_, rfl, fun hl => ⟨m, rfl, hl, fun D x hx => ?_, by rw [List.map_map]; rfl⟩⟩)
    refine Dl.g_tup (ds := [eI x.1, eSh x.2]) (is := [6, 7]) rfl (Dl.gs_cons (is := [6]) (js := [7]) (Dl.g_nm (i := 6) rfl rfl (Dl.gs_cons (is := [7]) (js := []) (Dl.g_nm (i := 7) rfl rfl (Dl.gs_nil ?_)))))
    repeat' walk_at "dl"
    exact rfl
  subst hz
  repeat' walk_at "dl"
  refine ⟨⟨fun s hq => ?_, by rw [List.length_map]; exact hz64⟩, fun s hq => ?_, fun _ h => h.elim⟩
  · obtain ⟨c, hc, rfl⟩ := List.mem_map.mp hq
    exact (hm.2 c hc).2
  replace hq : _ = Dl.Sl.dat _ := hq
  subst hq
  repeat' walk_at "dl"
  refine Dl.o_neD (d := eSh (sumF (m.map (·.2)))) (e := eSh (1, 1)) (sh_sh _).sh (sh_sh _).sh ?_
  rw [eqv_sh]
  refine ⟨_, rfl, fun hc2 => ?_, fun hc2 => ?_⟩
  · have hF : menuFault k.ties m o = some ("sum" : Str) := by
      unfold menuFault
      rw [if_neg hF0, if_neg (by rw [hs]; simp), if_pos (by simpa using hc2)]
    refine Dl.s_cons (Dl.s_raise2 X.tell.fl rfl ?_)
    repeat' walk_at "dl"
    exact ⟨_, hF, rfl⟩
  have hF1 : menuFault k.ties m o = (if o && !(m.all fun r => m.contains (mirrorI k.ties r.1, r.2)) then some ("mirror" : Str) else none) := by
    unfold menuFault
    rw [if_neg hF0, if_neg (by rw [hs]; simp), if_neg (by simpa using hc2)]
  repeat' walk_at "dl"
  · rename_i ho
    refine Dl.d_ofLc (Dl.l_T (QL := fun zs => zs = m.map fun r => PyData.bool (m.contains (mirrorI k.ties r.1, r.2))) eRow (fun r => .bool (m.contains (mirrorI k.ties r.1, r.2))) (own := [("item", 6), ("share", 7)]) (is := [6, 7]) (by kernel_rfl) (by decide) ?_) (fun zs hz => ?_)
    · refine Dl.i_tupL (Dl.d_nm (s := .dat (eMenu m)) rfl rfl ⟨_, rfl, fun hl => ⟨m, rfl, hl, fun D x hx => ?_, rfl⟩⟩)
      obtain ⟨x, s1, s2⟩ := x
      refine Dl.g_tup (ds := [eI x, .tuple [.int s1, .int s2]]) (is := [6, 7]) rfl (Dl.gs_cons (is := [6]) (js := [7]) (Dl.g_nm (i := 6) rfl rfl (Dl.gs_cons (is := [7]) (js := []) (Dl.g_nm (i := 7) rfl rfl (Dl.gs_nil ?_)))))
      repeat' walk_at "dl"
      refine ⟨⟨ht, (hm.2 _ hx).1⟩, fun s hq => ?_, fun _ h => h.elim⟩
      replace hq : _ = Dl.Sl.dat _ := hq
      subst hq
      repeat' walk_at "dl"
      refine Dl.o_inT (d := eRow (mirrorI k.ties x, (s1, s2))) (ds := m.map eRow) (sh_row _).sh (Dl.shN_tup (n := 2) fun d hd => ?_).sh ?_
      · obtain ⟨r, hr, rfl⟩ := List.mem_map.mp hd
        exact sh_row r
      rw [any_row]
    · subst hz
      repeat' walk_at "dl"
      · rename_i hr
        have ho : o = true := ho
        have hF : menuFault k.ties m o = some ("mirror" : Str) := by
          rw [hF1, ho, if_pos (by rw [Bool.true_and]; exact hr)]
        refine Dl.s_raise2 X.tell.fl rfl ?_
        repeat' walk_at "dl"
        exact ⟨_, hF, rfl⟩
      · rename_i hr
        show menuFault k.ties m o = none
        rw [hF1, hr, Bool.and_false]
        rfl
  · rename_i ho _
    have ho : o = false := ho
    show menuFault k.ties m o = none
    rw [hF1, ho]
    rfl
end
end K76
set_option Elab.async false
set_option linter.all false
set_option maxRecDepth 100000
set_option maxHeartbeats 4000000
set_option autoImplicit false
namespace K76
open PySem PySem.Spec PyProof.Rows L2
local macro_rules | `(tactic| walk_at "nm") => `(tactic| (refine Dl.d_nm (s := ?nmS) ?nmA ?nmB ?_; (case nmA => rfl); (case nmB => rfl)))
local macro_rules | `(tactic| walk_at "fr") => `(tactic| first | assumption)
local macro_rules | `(tactic| walk_at "name") => `(tactic| first
  | walk_at "nm"
  | ((with_reducible show Dl.dE _ _ (Expr.Name "int" _) _ _ _); refine Dl.d_t_int ?frA ?frB ?_; (case frA => walk_at "fr"); (case frB => rfl))
  | ((with_reducible show Dl.dE _ _ (Expr.Name "tuple" _) _ _ _); refine Dl.d_t_tuple ?frA ?frB ?_; (case frA => walk_at "fr"); (case frB => rfl))
  | ((with_reducible show Dl.dE _ _ (Expr.Name "list" _) _ _ _); refine Dl.d_t_list ?frA ?frB ?_; (case frA => walk_at "fr"); (case frB => rfl))
  | ((with_reducible show Dl.dE _ _ (Expr.Name "str" _) _ _ _); refine Dl.d_t_str ?frA ?frB ?_; (case frA => walk_at "fr"); (case frB => rfl))
  | ((with_reducible show Dl.dE _ _ (Expr.Name "bool" _) _ _ _); refine Dl.d_t_bool ?frA ?frB ?_; (case frA => walk_at "fr"); (case frB => rfl))
  | ((with_reducible show Dl.dE _ _ (Expr.Name "set" _) _ _ _); refine Dl.d_t_set ?frA ?frB ?_; (case frA => walk_at "fr"); (case frB => rfl))
  | walk_at "glob")
local macro_rules | `(tactic| walk_at "glob") => `(tactic| first
  | (refine Dl.d_globInt (i := ?gI) ?gA ?gB ?_; (case gA => rfl); (case gB => assumption))
  | (refine Dl.d_globStr (i := ?gI) ?gA ?gB ?_; (case gA => rfl); (case gB => assumption)))
local macro_rules | `(tactic| walk_at "call") => `(tactic| first
  | ((with_reducible show Dl.dE _ _ (Expr.Call (Expr.Name "isinstance" _) _ _ _) _ _ _); refine Dl.d_b_isinstance ?frA ?frB ?_; (case frA => walk_at "fr"); (case frB => rfl))
  | ((with_reducible show Dl.dE _ _ (Expr.Call (Expr.Name "len" _) _ _ _) _ _ _); refine Dl.d_b_len ?frA ?frB ?_; (case frA => walk_at "fr"); (case frB => rfl))
  | ((with_reducible show Dl.dE _ _ (Expr.Call (Expr.Name "all" _) _ _ _) _ _ _); refine Dl.d_b_all ?frA ?frB ?_; (case frA => walk_at "fr"); (case frB => rfl))
  | ((with_reducible show Dl.dE _ _ (Expr.Call (Expr.Name "any" _) _ _ _) _ _ _); refine Dl.d_b_any ?frA ?frB ?_; (case frA => walk_at "fr"); (case frB => rfl))
  | ((with_reducible show Dl.dE _ _ (Expr.Call (Expr.Name "abs" _) _ _ _) _ _ _); refine Dl.d_b_abs ?frA ?frB ?_; (case frA => walk_at "fr"); (case frB => rfl))
  | ((with_reducible show Dl.dE _ _ (Expr.Call (Expr.Name "sum" _) _ _ _) _ _ _); refine Dl.d_b_sum ?frA ?frB ?_; (case frA => walk_at "fr"); (case frB => rfl))
  | ((with_reducible show Dl.dE _ _ (Expr.Call (Expr.Name "min" _) _ _ _) _ _ _); refine Dl.d_b_min ?frA ?frB ?_; (case frA => walk_at "fr"); (case frB => rfl))
  | ((with_reducible show Dl.dE _ _ (Expr.Call (Expr.Name "max" _) _ _ _) _ _ _); refine Dl.d_b_max ?frA ?frB ?_; (case frA => walk_at "fr"); (case frB => rfl))
  | ((with_reducible show Dl.dE _ _ (Expr.Call (Expr.Name "sorted" _) _ _ _) _ _ _); refine Dl.d_b_sorted ?frA ?frB ?_; (case frA => walk_at "fr"); (case frB => rfl))
  | ((with_reducible show Dl.dE _ _ (Expr.Call (Expr.Name "int" _) _ _ _) _ _ _); refine Dl.d_c_int ?frA ?frB ?_; (case frA => walk_at "fr"); (case frB => rfl))
  | ((with_reducible show Dl.dE _ _ (Expr.Call (Expr.Name "tuple" _) _ _ _) _ _ _); refine Dl.d_c_tuple ?frA ?frB ?_; (case frA => walk_at "fr"); (case frB => rfl))
  | ((with_reducible show Dl.dE _ _ (Expr.Call (Expr.Name "list" _) _ _ _) _ _ _); refine Dl.d_c_list ?frA ?frB ?_; (case frA => walk_at "fr"); (case frB => rfl))
  | ((with_reducible show Dl.dE _ _ (Expr.Call (Expr.Name "str" _) _ _ _) _ _ _); refine Dl.d_c_str ?frA ?frB ?_; (case frA => walk_at "fr"); (case frB => rfl))
  | ((with_reducible show Dl.dE _ _ (Expr.Call (Expr.Name "bool" _) _ _ _) _ _ _); refine Dl.d_c_bool ?frA ?frB ?_; (case frA => walk_at "fr"); (case frB => rfl))
  | ((with_reducible show Dl.dE _ _ (Expr.Call (Expr.Name "set" _) _ _ _) _ _ _); refine Dl.d_c_set ?frA ?frB ?_; (case frA => walk_at "fr"); (case frB => rfl))
  | (refine Dl.d_fn (j := ?fnJ) (S := ?fnS) ?fnA ?fnB ?fnC ?_; (case fnA => assumption); (case fnB => exact Nat.le_of_ble_eq_true rfl); (case fnC => rfl)))
local macro_rules | `(tactic| walk_at "ed") => `(tactic| ((with_reducible show Dl.dE _ _ _ _ _ _); first
  | ((with_reducible show Dl.dE _ _ (Expr.Name _ _) _ _ _); walk_at "name")
  | ((with_reducible show Dl.dE _ _ (Expr.Constant (Const.int _) _ _) _ _ _); refine Dl.d_int ?_)
  | ((with_reducible show Dl.dE _ _ (Expr.Constant (Const.str _) _ _) _ _ _); refine Dl.d_str ?_)
  | ((with_reducible show Dl.dE _ _ (Expr.Constant (Const.bool _) _ _) _ _ _); refine Dl.d_bool ?_)
  | ((with_reducible show Dl.dE _ _ (Expr.Constant Const.none _ _) _ _ _); refine Dl.d_none ?_)
  | ((with_reducible show Dl.dE _ _ (Expr.Call (Expr.Name _ _) [_, Expr.Tuple [Expr.Name _ _, Expr.Name _ _] _ _] _ _) _ _ _); (refine Dl.d_isi2 ?frA ?frB ?frC ?frD ?frE ?frF ?_; (case frA => walk_at "fr"); (case frB => walk_at "fr"); (case frC => walk_at "fr"); (case frD => rfl); (case frE => rfl); (case frF => rfl)))
  | ((with_reducible show Dl.dE _ _ (Expr.Call (Expr.Name _ _) _ _ _) _ _ _); walk_at "call")
  | ((with_reducible show Dl.dE _ _ (Expr.BoolOp _ [_] _) _ _ _); refine Dl.d_one ?_)
  | ((with_reducible show Dl.dE _ _ (Expr.BoolOp BoolOp.And _ _) _ _ _); refine Dl.d_and ?_)
  | ((with_reducible show Dl.dE _ _ (Expr.BoolOp BoolOp.Or _ _) _ _ _); refine Dl.d_or ?_)
  | ((with_reducible show Dl.dE _ _ (Expr.UnaryOp UnaryOp.Not _ _) _ _ _); refine Dl.d_not ?_)
  | ((with_reducible show Dl.dE _ _ (Expr.UnaryOp UnaryOp.USub _ _) _ _ _); refine Dl.d_neg ?_)
  | ((with_reducible show Dl.dE _ _ (Expr.BinOp _ _ _ _) _ _ _); refine Dl.d_bin ?_)
  | ((with_reducible show Dl.dE _ _ (Expr.Compare _ [_] _ _) _ _ _); refine Dl.d_cmp ?_)
  | ((with_reducible show Dl.dE _ _ (Expr.Compare _ [_, _] _ _) _ _ _); refine Dl.d_chain ?_)
  | ((with_reducible show Dl.dE _ _ (Expr.IfExp _ _ _ _) _ _ _); refine Dl.d_if ?_)
  | ((with_reducible show Dl.dE _ _ (Expr.Tuple _ _ _) _ _ _); refine Dl.d_tup ?_)
  | ((with_reducible show Dl.dE _ _ (Expr.List _ _) _ _ _); refine Dl.d_lst ?_)
  | ((with_reducible show Dl.dE _ _ (Expr.Subscript _ (Expr.Slice _ _ _ _) _) _ _ _); refine Dl.d_slice ?_)
  | ((with_reducible show Dl.dE _ _ (Expr.Subscript _ _ _) _ _ _); refine Dl.d_ix ?_)))
local macro_rules | `(tactic| walk_at "ad") => `(tactic| ((with_reducible show Dl.dA _ _ _ _ _ _); first | refine Dl.a_nil ?_ | refine Dl.a_cons ?_))
local macro_rules | `(tactic| walk_at "td") => `(tactic| first
  | ((with_reducible show Dl.dT _ _ (Expr.UnaryOp UnaryOp.Not _ _) _ _ _); refine Dl.t_not ?_)
  | ((with_reducible show Dl.dT _ _ (Expr.BoolOp _ _ _) _ _ _); refine Dl.t_bool ?_)
  | ((with_reducible show Dl.dT _ _ (Expr.Compare _ [_] _ _) _ _ _); refine Dl.t_cmp ?_)
  | ((with_reducible show Dl.dT _ _ (Expr.Compare _ [_, _] _ _) _ _ _); refine Dl.t_chain ?_)
  | ((with_reducible show Dl.dT _ _ (_) _ _ _); refine Dl.t_val ?_)
  | ((with_reducible show Dl.dW _ _ (Expr.BoolOp BoolOp.And [_] _) _ _ _); refine Dl.w_and1 ?_)
  | ((with_reducible show Dl.dW _ _ (Expr.BoolOp BoolOp.Or [_] _) _ _ _); refine Dl.w_or1 ?_)
  | ((with_reducible show Dl.dW _ _ (Expr.BoolOp BoolOp.And _ _) _ _ _); refine Dl.w_and ?_)
  | ((with_reducible show Dl.dW _ _ (Expr.BoolOp BoolOp.Or _ _) _ _ _); refine Dl.w_or ?_))
local macro_rules | `(tactic| walk_at "od") => `(tactic| ((with_reducible show Dl.OpD _ _ _ _ _ _); first
  | refine Dl.o_add ?_ | refine Dl.o_sub ?_ | refine Dl.o_lt ?_ | refine Dl.o_le ?_ | refine Dl.o_gt ?_ | refine Dl.o_ge ?_ | refine Dl.o_eq ?_ | refine Dl.o_ne ?_ | refine Dl.o_eqS ?_ | refine Dl.o_mul ?_ ?_ | refine Dl.o_mod ?_ ?_ | refine Dl.o_fdivW ?_ ?_ | refine Dl.o_inS ?_ | refine Dl.o_notInS ?_
  | refine Dl.o_isN ?_ | refine Dl.o_notN ?_))
local macro_rules | `(tactic| walk_at "cd") => `(tactic| ((with_reducible show Dl.CallD _ _ _ _ _); first
  | refine Dl.c_lenT ?_ | refine Dl.c_lenL ?_ | refine Dl.c_lenO ?_ | refine Dl.c_abs ?_ | refine Dl.c_int ?_ | refine Dl.c_lenS ?_ ?_ | refine Dl.c_allT ?_
  | refine Dl.c_isInt ?_ | refine Dl.c_isBool ?_ | refine Dl.c_isStr ?_ | refine Dl.c_isTuple ?_ | refine Dl.c_isList ?_
  | refine Dl.c_allF ?_ | refine Dl.c_tupL ?_ | refine Dl.c_tupT ?_))
local macro_rules | `(tactic| walk_at "sd") => `(tactic| first
  | ((with_reducible show Dl.dS _ _ _ (Stmt.Return (some _) _) _ _ _ _); refine Dl.s_ret ?_)
  | ((with_reducible show Dl.dS _ _ _ (Stmt.Assign [Expr.Tuple [Expr.Name _ _, Expr.Name _ _] _ _] (Expr.Tuple [_, _] _ _) _) _ _ _ _); (refine Dl.s_pr (i := ?stI) (j := ?stJ) ?stA ?stB ?stC ?stD ?stE ?_; (case stA => rfl); (case stB => rfl); (case stC => rfl); (case stD => rfl); (case stE => rfl)))
  | ((with_reducible show Dl.dS _ _ _ (Stmt.If _ _ _ _) _ _ _ _); refine Dl.s_if ?_)
  | ((with_reducible show Dl.dS _ _ _ (Stmt.Assign [Expr.Name _ _] _ _) _ _ _ _); (refine Dl.s_st (i := ?stI) ?stA ?stB ?stC ?_; (case stA => rfl); (case stB => rfl); (case stC => rfl)))
  | ((with_reducible show Dl.dS _ _ _ (Stmt.Expr _ _) _ _ _ _); refine Dl.s_expr ?_)
  | ((with_reducible show Dl.dSs _ _ _ _ _ _ _ _); first | refine Dl.s_cons ?_ | refine Dl.s_nil ?_))
local macro_rules | `(tactic| walk_at "xd") => `(tactic| ((with_reducible show Dl.IxD _ _ _ _ _); first | (refine Dl.x_T (d := ?ixD) ?ixE ?_; (case ixE => rfl)) | (refine Dl.x_L (d := ?ixD) ?ixE ?_; (case ixE => rfl)) | (refine Dl.x_O (d := ?ixD) ?ixE ?_; (case ixE => rfl))))
local macro_rules | `(tactic| walk_at "ds") => `(tactic| (refine Dl.ex_dats (ds := ?dsW) ?dsA ?dsB ?_; (case dsA => rfl); (case dsB => rfl)))
local macro_rules | `(tactic| walk_at "dl") => `(tactic| first
  | walk_at "ds"
  | walk_at "ed"
  | walk_at "ad"
  | walk_at "td"
  | walk_at "od"
  | walk_at "cd"
  | walk_at "sd"
  | walk_at "xd"
  | ((with_reducible refine ⟨_, rfl, fun hc => ?_, fun hc => ?_⟩) <;> (first | contradiction | (exfalso; revert hc; simp [Dl.isTy, Dl.tyD]; done) | skip))
  | ((with_reducible refine ⟨fun hc => ?_, fun hc => ?_⟩) <;> (first | contradiction | (exfalso; revert hc; simp [Dl.isTy, Dl.tyD]; done) | skip))
  | (refine ⟨_, _, rfl, rfl, ?_⟩)
  | (refine ⟨rfl, ?_⟩)
  | (with_reducible refine ⟨_, rfl, ?_⟩)
  | (refine ⟨(_, _), rfl, ?_⟩)
  | (refine ⟨(_, _, _), rfl, ?_⟩)
  | (refine ⟨True.intro, fun _ hs => ?_, fun _ hx => False.elim hx⟩; replace hs : _ = Dl.Sl.dat _ := hs; subst hs)
  | (refine ⟨by assumption, fun _ hs => ?_, fun _ hx => False.elim hx⟩; replace hs : _ = Dl.Sl.dat _ := hs; subst hs)
  | fail)
/-! ### couples -/
def blockC (n i : Nat) : List (Nat × Nat) := (List.range (n - i)).map fun k => (i, i + k)
def couplesI (n : Nat) : List (Nat × Nat) := (List.range n).flatMap (blockC n)
def eC (c : Nat × Nat) : PyData := .tuple [.int (c.1 : Nat), .int (c.2 : Nat)]
theorem flat_snoc {α β : Type} (f : Nat → List β) (i : Nat) : (List.range (i + 1)).flatMap f = (List.range i).flatMap f ++ f i := by
  rw [List.range_succ, List.flatMap_append, List.flatMap_singleton]
theorem coup_few {n i : Nat} (hn : n ≤ 3) (hi : i < n) : ((List.range i).flatMap (blockC n)).length ≤ 6 := by
  have h1 : n = 1 ∨ n = 2 ∨ n = 3 := by omega
  have h2 : i = 0 ∨ i = 1 ∨ i = 2 := by omega
  rcases h1 with h1 | h1 | h1 <;> rcases h2 with h2 | h2 | h2 <;> subst h1 <;> subst h2 <;> decide
def coupSpec : Dl.Spec where
  α := Nat
  arg n := [.dat (.int (n : Nat))]
  pre n := n ≤ 3
  post n s := s = .dat (.list ((couplesI n).map eC))
theorem findS_at {α β : Type} {f : α → Option β} {r : β} : ∀ {l : List α} {i : Nat} {x : α}, l[i]? = some x → (∀ (j : Nat) (y : α), j < i → l[j]? = some y → f y = none) → f x = some r → l.findSome? f = some r
  | [], _, _, h, _, _ => by simp at h
  | y :: l, 0, x, h, _, hr => by
    simp at h
    subst h
    rw [List.findSome?_cons, hr]
  | y :: l, i + 1, x, h, hn, hr => by
    rw [List.findSome?_cons, hn 0 y (by omega) rfl]
    exact findS_at (by simpa using h) (fun j z hj hz => hn (j + 1) z (by omega) (by simpa using hz)) hr
theorem findS_none {α β : Type} {f : α → Option β} {l : List α} (hn : ∀ (j : Nat) (y : α), l[j]? = some y → f y = none) : l.findSome? f = none := by
  rw [List.findSome?_eq_none_iff]
  intro x hx
  obtain ⟨j, hj⟩ := List.mem_iff_getElem?.mp hx
  exact hn j x hj
theorem beq_dec (o u : Nat) : (o == u) = decide ((o : Int) = (u : Int)) := by
  rw [Bool.eq_iff_iff, beq_iff_eq, decide_eq_true_iff]
  omega
/-! ### a kind's first fault -/
def menuOf (ts : List Tie) (q : (Nat × Nat) × Menu) : Option (PyData × Str) := (menuFault ts q.2 (q.1.1 == q.1.2)).map fun f => (.tuple [.str "menu", .int (q.1.1 : Nat), .int (q.1.2 : Nat)], f)
def menusFault (k : Kd) : Option (PyData × Str) := ((couplesI k.cols.length).zip k.menus).findSome? (menuOf k.ties)
def kindFault (k : Kd) : Option (PyData × Str) := match colsFault k.cols with
  | some r => some r
  | none => match firstA (k.ties.map (·.1)) with
    | some i => some (.tuple [.str "tie", .int (i : Nat)], ("alike" : Str))
    | none => menusFault k
def kindSpec : Dl.Spec where
  α := Kd
  arg k := [.dat (eKd k)]
  pre k := KindOk k
  post k s := kindFault k = none ∧ s = .dat (eKd k)
  exn k x := ∃ w f, kindFault k = some (w, f) ∧ x = faultX "BadKind" w f
section
variable {G : Dl.Gd}
theorem ok_couples_of (T : Top G) : Dl.Fn G 1 "couples_of" coupSpec := by
  have f1 := fr_range T
  refine mk_couples_of T (fun _ => rfl) fun cdv M0 (n : Nat) hp => ?_
  have hn : n ≤ 3 := hp
  repeat' walk_at "dl"
  refine Dl.d_lc2 (own := [("one", 1), ("other", 2)]) (is := [1]) (is1 := [2]) (vs1 := [2]) (by kernel_rfl) (by decide) (by decide) (by decide) ?_
  refine Dl.i_rng1 rfl f1 (Dl.d_nm (s := .dat (.int (n : Nat))) rfl rfl ⟨_, rfl, by omega, by omega, fun i acc => acc = ((List.range i).flatMap (blockC n)).map eC, rfl, fun D i d acc hd hA => ?_, fun acc hA => ?_⟩)
  · rw [Int.toNat_natCast] at hd
    have hi : i < n := by
      have := (List.getElem?_eq_some_iff.mp hd).1
      rwa [Dl.rngD_len] at this
    have hd' : d = .int (i : Nat) := by
      unfold Dl.rngD at hd
      rw [List.getElem?_map, List.getElem?_range hi] at hd
      simpa using hd.symm
    subst hd'
    refine Dl.g_nm (i := 1) rfl rfl ⟨by rfl, ?_⟩
    refine Dl.i_rng2 rfl f1 (Dl.d_nm (s := .dat (.int (i : Nat))) rfl rfl (Dl.d_nm (s := .dat (.int (n : Nat))) rfl rfl ⟨_, _, rfl, rfl, by omega, fun j acc' => acc' = ((List.range i).flatMap (blockC n) ++ (blockC n i).take j).map eC, by show acc = _; rw [hA, List.take_zero, List.append_nil], fun j e acc' he hB => ?_, fun acc' hB => ?_⟩))
    · have hsub : (((n : Nat) : Int) - ((i : Nat) : Int)).toNat = n - i := by omega
      rw [hsub] at he
      have hj : j < n - i := by
        have := (List.getElem?_eq_some_iff.mp he).1
        rwa [Dl.rngD_len] at this
      have he' : e = .int ((i + j : Nat) : Int) := by
        unfold Dl.rngD at he
        rw [List.getElem?_map, List.getElem?_range hj] at he
        have := Option.some.inj he
        rw [← this]
        simp
      subst he'
      refine ⟨?_, Dl.g_nm (i := 2) rfl rfl ?_⟩
      · have h6 := coup_few hn hi
        have h7 : (blockC n i).length = n - i := by simp [blockC]
        have hB : acc' = _ := hB
        rw [hB, List.length_map, List.length_append, List.length_take, h7, sizeLine_eq]
        omega
      · repeat' walk_at "dl"
        have hB : acc' = _ := hB
        show acc' ++ [_] = _
        have hx : (blockC n i)[j]? = some (i, i + j) := by
          unfold blockC
          rw [List.getElem?_map, List.getElem?_range hj]
          rfl
        rw [hB, List.take_add_one, hx, ← List.append_assoc, List.map_append (l₂ := (some (i, i + j)).toList)]
        rfl
    · have hB : acc' = _ := hB
      show acc' = _
      rw [hB, flat_snoc (α := Nat), Dl.rngD_len, List.take_of_length_le (by simp [blockC] <;> omega)]
  · have hA : acc = _ := hA
    rw [hA, Dl.rngD_len, Int.toNat_natCast]
    exact ⟨rfl, rfl⟩
theorem ok_checked_kind (T : Top G) (X : Ext G) : Dl.Fn G 12 "checked_kind" kindSpec := by
  have h1 := ok_is_kind T X
  have h2 := ok_check_colours T X
  have h3 := ok_check_names T X
  have h4 := ok_couples_of T
  have h5 := ok_check_menu T X
  have f1 := fr_zip T
  have f2 := fr_len T
  refine mk_checked_kind T (fun _ => rfl) fun cdv M0 (k : Kd) hp => ?_
  have b := hp
  obtain ⟨b1, b2, b3, b4, b5, b6, b7⟩ := b
  have hk : (okSpec KindD).pre (eKd k) := ⟨k, rfl, hp⟩
  repeat' walk_at "dl"
  refine ⟨⟨b2.2, b3⟩, fun s hq => ?_, fun x hx => ?_⟩
  rotate_left
  · obtain ⟨w, f, e1, e2⟩ := hx
    exact ⟨w, f, by unfold kindFault; rw [e1], e2⟩
  have hc : colsFault k.cols = none := hq
  repeat' walk_at "dl"
  refine ⟨(k.ties.map fun t => (t.1, .str (wayS t.2)), "tie"), ?_, fun p hp => ?_, fun s hq => ?_, fun x hx => ?_⟩
  · show _ = [Dl.Sl.dat (.tuple ((k.ties.map fun t => (t.1, PyData.str (wayS t.2))).map fun p => .tuple [.str (nmS p.1), p.2])), _]
    rw [List.map_map]
    rfl
  · obtain ⟨t, ht, rfl⟩ := List.mem_map.mp hp
    exact b5 t ht
  rotate_left
  · obtain ⟨i, e1, e2⟩ := hx
    rw [List.map_map] at e1
    exact ⟨_, _, by unfold kindFault; rw [hc]; dsimp only; rw [show k.ties.map (·.1) = k.ties.map ((·.1) ∘ fun t => (t.1, PyData.str (wayS t.2))) from rfl, e1], e2⟩
  have ha : firstA (k.ties.map (·.1)) = none := by
    have hq : firstA ((k.ties.map fun t => (t.1, PyData.str (wayS t.2))).map (·.1)) = none := hq
    rw [List.map_map] at hq
    exact hq
  have hkf : kindFault k = menusFault k := by
    unfold kindFault
    rw [hc]
    dsimp only
    rw [ha]
  have hkf2 : menusFault k = ((couplesI k.cols.length).zip k.menus).findSome? (menuOf k.ties) := rfl
  repeat' walk_at "dl"
  have hlen : (couplesI k.cols.length).length = k.menus.length := by
    rw [b7]
    have : k.cols.length = 1 ∨ k.cols.length = 2 ∨ k.cols.length = 3 := by omega
    rcases this with e | e | e <;> rw [e] <;> rfl
  refine Dl.s_forT ((couplesI k.cols.length).zip k.menus) (fun q => .tuple [eC q.1, eMenu q.2]) [1, 2, 3] (fun i M Γ => M = M0 ∧ (∃ g1 g2 g3, Γ = [some (.dat (eKd k)), g1, g2, g3]) ∧ ∀ (j : Nat) (q : (Nat × Nat) × Menu), j < i → ((couplesI k.cols.length).zip k.menus)[j]? = some q → menuOf k.ties q = none) ?_
  refine Dl.i_zipLT rfl f1 ?_
  repeat' walk_at "dl"
  refine ⟨(by show (k.cols.map eCol).length ≤ 3; rw [List.length_map]; exact b2.2), fun s hs => ?_, fun _ h => h.elim⟩
  replace hs : _ = Dl.Sl.dat _ := hs
  rw [List.length_map] at hs
  subst hs
  repeat' walk_at "dl"
  refine ⟨by rw [Dl.pairsT], ⟨rfl, ⟨none, none, none, rfl⟩, fun j q hj => by omega⟩, fun i q M Γ hx hI => ?_, fun M Γ hI => ?_⟩
  · obtain ⟨rfl, ⟨g1, g2, g3, rfl⟩, hA⟩ := hI
    obtain ⟨⟨o, u⟩, m⟩ := q
    refine Dl.g_tup (ds := [eC (o, u), eMenu m]) (is := [1, 2, 3]) rfl (Dl.gs_cons (is := [1, 2]) (js := [3]) (Dl.g_tup (ds := [.int (o : Nat), .int (u : Nat)]) (is := [1, 2]) rfl (Dl.gs_cons (is := [1]) (js := [2]) (Dl.g_nm (i := 1) rfl rfl (Dl.gs_cons (is := [2]) (js := []) (Dl.g_nm (i := 2) rfl rfl (Dl.gs_nil (Dl.gs_cons (is := [3]) (js := []) (Dl.g_nm (i := 3) rfl rfl (Dl.gs_nil ?_))))))))))
    have hm : m ∈ k.menus := (List.of_mem_zip (List.mem_of_getElem? hx)).2
    repeat' walk_at "dl"
    refine ⟨(k, .tuple [.str "menu", .int (o : Nat), .int (u : Nat)], m, decide ((o : Int) = u)), rfl, ⟨b4, b5, b6 m hm⟩, fun s hs => ?_, fun x hx2 => ?_⟩
    · have hs : menuFault k.ties m (decide ((o : Int) = u)) = none := hs
      have e : menuOf k.ties ((o, u), m) = none := by
        unfold menuOf
        dsimp only
        rw [beq_dec o u, hs]
        rfl
      refine Dl.s_nil ⟨rfl, ⟨_, _, _, rfl⟩, fun j q hj hq => ?_⟩
      by_cases hji : j = i
      · subst hji
        rw [hx] at hq
        cases hq
        exact e
      · exact hA j q (by omega) hq
    · obtain ⟨f, e1, e2⟩ := hx2
      refine ⟨_, f, ?_, e2⟩
      rw [hkf, hkf2]
      refine findS_at hx (fun j y hj hy => hA j y hj hy) ?_
      unfold menuOf
      dsimp only at e1 ⊢
      rw [beq_dec o u, e1]
      rfl
  · obtain ⟨rfl, ⟨g1, g2, g3, rfl⟩, hA⟩ := hI
    repeat' walk_at "dl"
    refine ⟨?_, rfl⟩
    rw [hkf, hkf2]
    exact findS_none fun j q hq => hA j q (List.getElem?_eq_some_iff.mp hq).1 hq
end
end K76
set_option Elab.async false
set_option linter.all false
set_option maxRecDepth 100000
set_option maxHeartbeats 4000000
set_option autoImplicit false
namespace K76
open PySem PySem.Spec PyProof.Rows L2
local macro_rules | `(tactic| walk_at "nm") => `(tactic| (refine Dl.d_nm (s := ?nmS) ?nmA ?nmB ?_; (case nmA => rfl); (case nmB => rfl)))
local macro_rules | `(tactic| walk_at "fr") => `(tactic| first | assumption)
local macro_rules | `(tactic| walk_at "name") => `(tactic| first
  | walk_at "nm"
  | ((with_reducible show Dl.dE _ _ (Expr.Name "int" _) _ _ _); refine Dl.d_t_int ?frA ?frB ?_; (case frA => walk_at "fr"); (case frB => rfl))
  | ((with_reducible show Dl.dE _ _ (Expr.Name "tuple" _) _ _ _); refine Dl.d_t_tuple ?frA ?frB ?_; (case frA => walk_at "fr"); (case frB => rfl))
  | ((with_reducible show Dl.dE _ _ (Expr.Name "list" _) _ _ _); refine Dl.d_t_list ?frA ?frB ?_; (case frA => walk_at "fr"); (case frB => rfl))
  | ((with_reducible show Dl.dE _ _ (Expr.Name "str" _) _ _ _); refine Dl.d_t_str ?frA ?frB ?_; (case frA => walk_at "fr"); (case frB => rfl))
  | ((with_reducible show Dl.dE _ _ (Expr.Name "bool" _) _ _ _); refine Dl.d_t_bool ?frA ?frB ?_; (case frA => walk_at "fr"); (case frB => rfl))
  | ((with_reducible show Dl.dE _ _ (Expr.Name "set" _) _ _ _); refine Dl.d_t_set ?frA ?frB ?_; (case frA => walk_at "fr"); (case frB => rfl))
  | walk_at "glob")
local macro_rules | `(tactic| walk_at "glob") => `(tactic| first
  | (refine Dl.d_globInt (i := ?gI) ?gA ?gB ?_; (case gA => rfl); (case gB => assumption))
  | (refine Dl.d_globStr (i := ?gI) ?gA ?gB ?_; (case gA => rfl); (case gB => assumption)))
local macro_rules | `(tactic| walk_at "call") => `(tactic| first
  | ((with_reducible show Dl.dE _ _ (Expr.Call (Expr.Name "isinstance" _) _ _ _) _ _ _); refine Dl.d_b_isinstance ?frA ?frB ?_; (case frA => walk_at "fr"); (case frB => rfl))
  | ((with_reducible show Dl.dE _ _ (Expr.Call (Expr.Name "len" _) _ _ _) _ _ _); refine Dl.d_b_len ?frA ?frB ?_; (case frA => walk_at "fr"); (case frB => rfl))
  | ((with_reducible show Dl.dE _ _ (Expr.Call (Expr.Name "all" _) _ _ _) _ _ _); refine Dl.d_b_all ?frA ?frB ?_; (case frA => walk_at "fr"); (case frB => rfl))
  | ((with_reducible show Dl.dE _ _ (Expr.Call (Expr.Name "any" _) _ _ _) _ _ _); refine Dl.d_b_any ?frA ?frB ?_; (case frA => walk_at "fr"); (case frB => rfl))
  | ((with_reducible show Dl.dE _ _ (Expr.Call (Expr.Name "abs" _) _ _ _) _ _ _); refine Dl.d_b_abs ?frA ?frB ?_; (case frA => walk_at "fr"); (case frB => rfl))
  | ((with_reducible show Dl.dE _ _ (Expr.Call (Expr.Name "sum" _) _ _ _) _ _ _); refine Dl.d_b_sum ?frA ?frB ?_; (case frA => walk_at "fr"); (case frB => rfl))
  | ((with_reducible show Dl.dE _ _ (Expr.Call (Expr.Name "min" _) _ _ _) _ _ _); refine Dl.d_b_min ?frA ?frB ?_; (case frA => walk_at "fr"); (case frB => rfl))
  | ((with_reducible show Dl.dE _ _ (Expr.Call (Expr.Name "max" _) _ _ _) _ _ _); refine Dl.d_b_max ?frA ?frB ?_; (case frA => walk_at "fr"); (case frB => rfl))
  | ((with_reducible show Dl.dE _ _ (Expr.Call (Expr.Name "sorted" _) _ _ _) _ _ _); refine Dl.d_b_sorted ?frA ?frB ?_; (case frA => walk_at "fr"); (case frB => rfl))
  | ((with_reducible show Dl.dE _ _ (Expr.Call (Expr.Name "int" _) _ _ _) _ _ _); refine Dl.d_c_int ?frA ?frB ?_; (case frA => walk_at "fr"); (case frB => rfl))
  | ((with_reducible show Dl.dE _ _ (Expr.Call (Expr.Name "tuple" _) _ _ _) _ _ _); refine Dl.d_c_tuple ?frA ?frB ?_; (case frA => walk_at "fr"); (case frB => rfl))
  | ((with_reducible show Dl.dE _ _ (Expr.Call (Expr.Name "list" _) _ _ _) _ _ _); refine Dl.d_c_list ?frA ?frB ?_; (case frA => walk_at "fr"); (case frB => rfl))
  | ((with_reducible show Dl.dE _ _ (Expr.Call (Expr.Name "str" _) _ _ _) _ _ _); refine Dl.d_c_str ?frA ?frB ?_; (case frA => walk_at "fr"); (case frB => rfl))
  | ((with_reducible show Dl.dE _ _ (Expr.Call (Expr.Name "bool" _) _ _ _) _ _ _); refine Dl.d_c_bool ?frA ?frB ?_; (case frA => walk_at "fr"); (case frB => rfl))
  | ((with_reducible show Dl.dE _ _ (Expr.Call (Expr.Name "set" _) _ _ _) _ _ _); refine Dl.d_c_set ?frA ?frB ?_; (case frA => walk_at "fr"); (case frB => rfl))
  | (refine Dl.d_fn (j := ?fnJ) (S := ?fnS) ?fnA ?fnB ?fnC ?_; (case fnA => assumption); (case fnB => exact Nat.le_of_ble_eq_true rfl); (case fnC => rfl)))
local macro_rules | `(tactic| walk_at "ed") => `(tactic| ((with_reducible show Dl.dE _ _ _ _ _ _); first
  | ((with_reducible show Dl.dE _ _ (Expr.Name _ _) _ _ _); walk_at "name")
  | ((with_reducible show Dl.dE _ _ (Expr.Constant (Const.int _) _ _) _ _ _); refine Dl.d_int ?_)
  | ((with_reducible show Dl.dE _ _ (Expr.Constant (Const.str _) _ _) _ _ _); refine Dl.d_str ?_)
  | ((with_reducible show Dl.dE _ _ (Expr.Constant (Const.bool _) _ _) _ _ _); refine Dl.d_bool ?_)
  | ((with_reducible show Dl.dE _ _ (Expr.Constant Const.none _ _) _ _ _); refine Dl.d_none ?_)
  | ((with_reducible show Dl.dE _ _ (Expr.Call (Expr.Name _ _) [_, Expr.Tuple [Expr.Name _ _, Expr.Name _ _] _ _] _ _) _ _ _); (refine Dl.d_isi2 ?frA ?frB ?frC ?frD ?frE ?frF ?_; (case frA => walk_at "fr"); (case frB => walk_at "fr"); (case frC => walk_at "fr"); (case frD => rfl); (case frE => rfl); (case frF => rfl)))
  | ((with_reducible show Dl.dE _ _ (Expr.Call (Expr.Name _ _) _ _ _) _ _ _); walk_at "call")
  | ((with_reducible show Dl.dE _ _ (Expr.BoolOp _ [_] _) _ _ _); refine Dl.d_one ?_)
  | ((with_reducible show Dl.dE _ _ (Expr.BoolOp BoolOp.And _ _) _ _ _); refine Dl.d_and ?_)
  | ((with_reducible show Dl.dE _ _ (Expr.BoolOp BoolOp.Or _ _) _ _ _); refine Dl.d_or ?_)
  | ((with_reducible show Dl.dE _ _ (Expr.UnaryOp UnaryOp.Not _ _) _ _ _); refine Dl.d_not ?_)
  | ((with_reducible show Dl.dE _ _ (Expr.UnaryOp UnaryOp.USub _ _) _ _ _); refine Dl.d_neg ?_)
  | ((with_reducible show Dl.dE _ _ (Expr.BinOp _ _ _ _) _ _ _); refine Dl.d_bin ?_)
  | ((with_reducible show Dl.dE _ _ (Expr.Compare _ [_] _ _) _ _ _); refine Dl.d_cmp ?_)
  | ((with_reducible show Dl.dE _ _ (Expr.Compare _ [_, _] _ _) _ _ _); refine Dl.d_chain ?_)
  | ((with_reducible show Dl.dE _ _ (Expr.IfExp _ _ _ _) _ _ _); refine Dl.d_if ?_)
  | ((with_reducible show Dl.dE _ _ (Expr.Tuple _ _ _) _ _ _); refine Dl.d_tup ?_)
  | ((with_reducible show Dl.dE _ _ (Expr.List _ _) _ _ _); refine Dl.d_lst ?_)
  | ((with_reducible show Dl.dE _ _ (Expr.Subscript _ (Expr.Slice _ _ _ _) _) _ _ _); refine Dl.d_slice ?_)
  | ((with_reducible show Dl.dE _ _ (Expr.Subscript _ _ _) _ _ _); refine Dl.d_ix ?_)))
local macro_rules | `(tactic| walk_at "ad") => `(tactic| ((with_reducible show Dl.dA _ _ _ _ _ _); first | refine Dl.a_nil ?_ | refine Dl.a_cons ?_))
local macro_rules | `(tactic| walk_at "td") => `(tactic| first
  | ((with_reducible show Dl.dT _ _ (Expr.UnaryOp UnaryOp.Not _ _) _ _ _); refine Dl.t_not ?_)
  | ((with_reducible show Dl.dT _ _ (Expr.BoolOp _ _ _) _ _ _); refine Dl.t_bool ?_)
  | ((with_reducible show Dl.dT _ _ (Expr.Compare _ [_] _ _) _ _ _); refine Dl.t_cmp ?_)
  | ((with_reducible show Dl.dT _ _ (Expr.Compare _ [_, _] _ _) _ _ _); refine Dl.t_chain ?_)
  | ((with_reducible show Dl.dT _ _ (_) _ _ _); refine Dl.t_val ?_)
  | ((with_reducible show Dl.dW _ _ (Expr.BoolOp BoolOp.And [_] _) _ _ _); refine Dl.w_and1 ?_)
  | ((with_reducible show Dl.dW _ _ (Expr.BoolOp BoolOp.Or [_] _) _ _ _); refine Dl.w_or1 ?_)
  | ((with_reducible show Dl.dW _ _ (Expr.BoolOp BoolOp.And _ _) _ _ _); refine Dl.w_and ?_)
  | ((with_reducible show Dl.dW _ _ (Expr.BoolOp BoolOp.Or _ _) _ _ _); refine Dl.w_or ?_))
local macro_rules | `(tactic| walk_at "od") => `(tactic| ((with_reducible show Dl.OpD _ _ _ _ _ _); first
  | refine Dl.o_add ?_ | refine Dl.o_sub ?_ | refine Dl.o_lt ?_ | refine Dl.o_le ?_ | refine Dl.o_gt ?_ | refine Dl.o_ge ?_ | refine Dl.o_eq ?_ | refine Dl.o_ne ?_ | refine Dl.o_eqS ?_ | refine Dl.o_mul ?_ ?_ | refine Dl.o_mod ?_ ?_ | refine Dl.o_fdivW ?_ ?_ | refine Dl.o_inS ?_ | refine Dl.o_notInS ?_
  | refine Dl.o_isN ?_ | refine Dl.o_notN ?_))
local macro_rules | `(tactic| walk_at "cd") => `(tactic| ((with_reducible show Dl.CallD _ _ _ _ _); first
  | refine Dl.c_lenT ?_ | refine Dl.c_lenL ?_ | refine Dl.c_lenO ?_ | refine Dl.c_abs ?_ | refine Dl.c_int ?_ | refine Dl.c_lenS ?_ ?_ | refine Dl.c_allT ?_
  | refine Dl.c_isInt ?_ | refine Dl.c_isBool ?_ | refine Dl.c_isStr ?_ | refine Dl.c_isTuple ?_ | refine Dl.c_isList ?_
  | refine Dl.c_allF ?_ | refine Dl.c_tupL ?_ | refine Dl.c_tupT ?_))
local macro_rules | `(tactic| walk_at "sd") => `(tactic| first
  | ((with_reducible show Dl.dS _ _ _ (Stmt.Return (some _) _) _ _ _ _); refine Dl.s_ret ?_)
  | ((with_reducible show Dl.dS _ _ _ (Stmt.Assign [Expr.Tuple [Expr.Name _ _, Expr.Name _ _] _ _] (Expr.Tuple [_, _] _ _) _) _ _ _ _); (refine Dl.s_pr (i := ?stI) (j := ?stJ) ?stA ?stB ?stC ?stD ?stE ?_; (case stA => rfl); (case stB => rfl); (case stC => rfl); (case stD => rfl); (case stE => rfl)))
  | ((with_reducible show Dl.dS _ _ _ (Stmt.If _ _ _ _) _ _ _ _); refine Dl.s_if ?_)
  | ((with_reducible show Dl.dS _ _ _ (Stmt.Assign [Expr.Name _ _] _ _) _ _ _ _); (refine Dl.s_st (i := ?stI) ?stA ?stB ?stC ?_; (case stA => rfl); (case stB => rfl); (case stC => rfl)))
  | ((with_reducible show Dl.dS _ _ _ (Stmt.Expr _ _) _ _ _ _); refine Dl.s_expr ?_)
  | ((with_reducible show Dl.dSs _ _ _ _ _ _ _ _); first | refine Dl.s_cons ?_ | refine Dl.s_nil ?_))
local macro_rules | `(tactic| walk_at "xd") => `(tactic| ((with_reducible show Dl.IxD _ _ _ _ _); first | (refine Dl.x_T (d := ?ixD) ?ixE ?_; (case ixE => rfl)) | (refine Dl.x_L (d := ?ixD) ?ixE ?_; (case ixE => rfl)) | (refine Dl.x_O (d := ?ixD) ?ixE ?_; (case ixE => rfl))))
local macro_rules | `(tactic| walk_at "ds") => `(tactic| (refine Dl.ex_dats (ds := ?dsW) ?dsA ?dsB ?_; (case dsA => rfl); (case dsB => rfl)))
local macro_rules | `(tactic| walk_at "dl") => `(tactic| first
  | walk_at "ds"
  | walk_at "ed"
  | walk_at "ad"
  | walk_at "td"
  | walk_at "od"
  | walk_at "cd"
  | walk_at "sd"
  | walk_at "xd"
  | ((with_reducible refine ⟨_, rfl, fun hc => ?_, fun hc => ?_⟩) <;> (first | contradiction | (exfalso; revert hc; simp [Dl.isTy, Dl.tyD]; done) | skip))
  | ((with_reducible refine ⟨fun hc => ?_, fun hc => ?_⟩) <;> (first | contradiction | (exfalso; revert hc; simp [Dl.isTy, Dl.tyD]; done) | skip))
  | (refine ⟨_, _, rfl, rfl, ?_⟩)
  | (refine ⟨rfl, ?_⟩)
  | (with_reducible refine ⟨_, rfl, ?_⟩)
  | (refine ⟨(_, _), rfl, ?_⟩)
  | (refine ⟨(_, _, _), rfl, ?_⟩)
  | (refine ⟨True.intro, fun _ hs => ?_, fun _ hx => False.elim hx⟩; replace hs : _ = Dl.Sl.dat _ := hs; subst hs)
  | (refine ⟨by assumption, fun _ hs => ?_, fun _ hx => False.elim hx⟩; replace hs : _ = Dl.Sl.dat _ := hs; subst hs)
  | fail)
local macro_rules | `(tactic| walk_at "dl") => `(tactic| first
  | ((with_reducible show Dl.IxD _ _ Dl.Sl.bag _ _); refine Dl.x_B (by first | exact .inl rfl | exact .inr (.inl rfl) | exact .inr (.inr rfl)) fun _ _ => ?_)
  | ((with_reducible show Dl.dS _ _ _ (Stmt.AugAssign _ _ _ _) _ _ _ _); refine Dl.s_bagAug rfl rfl rfl (by decide) ?_)
  | ((with_reducible show Dl.dS _ _ _ (Stmt.Assign [Expr.Subscript (Expr.Name _ _) (Expr.Constant _ _ _) _] _ _) _ _ _ _); refine Dl.s_bag rfl rfl rfl (by decide) ?_)
  | ((with_reducible show Dl.dE _ _ (Expr.Subscript (Expr.BinOp _ _ _ _) _ _) _ _ _); refine Dl.d_cell rfl rfl rfl fun _ _ => ?_)
  | ((with_reducible show Dl.OpD _ _ (binaryOp Operator.Pow) _ _ _); refine Dl.o_pow ?_ ?_)
  | ((with_reducible show ∃ n : Int, 0 ≤ n ∧ _ ∧ _); refine ⟨_, ?_, rfl, ?_⟩))
theorem dS_mono {Θ : Dl.Th} {M0 M : List Addr} {st : Stmt} {Γ : Dl.Gm} {Ex : Dl.Xn → Prop} {Rt : Dl.Sl → Prop} {Kn : List Addr → Dl.Gm → Prop} (Kn' : List Addr → Dl.Gm → Prop) (h : Dl.dS Θ M0 M st Γ Ex Rt Kn') (m : ∀ M Γ, Kn' M Γ → Kn M Γ) : Dl.dS Θ M0 M st Γ Ex Rt Kn :=
  fun X c F hF H0 σ H D s xt kn rt => h X c F hF H0 σ H D s xt (fun M' Γ' σ' H' s' q => kn M' Γ' σ' H' s' (m M' Γ' q)) rt
def takeSpec : Dl.Spec where
  α := Nat
  arg n := [.bag, .dat (.int (n : Nat))]
  pre n := 0 < n ∧ n < 2 ^ 60
  post n s := ∃ k : Nat, k < n ∧ s = .dat (.int (k : Nat))
theorem take_post {n : Nat} (h : 0 < n) (x : Int) : takeSpec.post n (Dl.Sl.dat (PyData.int (x % (n : Int)))) := by
  have h1 := Int.emod_nonneg x (show (n : Int) ≠ 0 by omega)
  have h2 := Int.emod_lt_of_pos x (show (0 : Int) < n by omega)
  refine ⟨(x % (n : Int)).toNat, by omega, ?_⟩
  rw [Int.toNat_of_nonneg h1]
section
variable {G : Dl.Gd}
theorem ok_take (T : Top G) : Dl.Fn G 1 "_law_take" takeSpec := by
  have f1 := fr_int T
  refine mk__law_take T (fun _ => rfl) fun cdv M0 (n : Nat) hp => ?_
  have n1 : 0 < n := hp.1
  have n2 : n < 2 ^ 60 := hp.2
  have n3 : (0 : Int) < n ∧ (n : Int) < 2 ^ 4000 := ⟨by omega, Int.lt_of_lt_of_le (show (n : Int) < 2 ^ 60 by omega) (by decide +kernel)⟩
  refine Dl.s_cons (dS_mono (fun M Γ => M = M0 ∧ ∃ g1 g2, Γ = [some .bag, some (.dat (.int (n : Nat))), g1, g2, none, none, none]) ?_ fun M Γ q => ?_)
  · repeat' walk_at "dl"
    all_goals first
      | exact ⟨_, _, rfl⟩
      | assumption
      | decide
      | exact .inr ⟨by decide, by decide⟩
      | exact .inl ⟨by decide, by decide⟩
      | (apply Int.emod_nonneg; decide)
      | exact ⟨by decide, by decide, by decide⟩
  · obtain ⟨rfl, g1, g2, rfl⟩ := q
    refine Dl.s_cons (dS_mono (fun M' Γ => M' = M ∧ Γ = [some .bag, some (.dat (.int (n : Nat))), g1, g2, none, none, none]) ?_ fun M Γ q => ?_)
    · repeat' walk_at "dl"
      all_goals first
        | exact ⟨rfl, rfl⟩
        | exact rfl
        | exact take_post n1 _
        | exact Int.ediv_nonneg (by assumption) (by omega)
        | assumption
        | exact n3.1
    · obtain ⟨rfl, rfl⟩ := q
      repeat' walk_at "dl"
      all_goals first
        | exact take_post n1 _
        | decide
        | exact .inr ⟨by decide, by decide⟩
        | exact .inl ⟨by omega, by omega⟩
        | exact n3.1
        | exact ⟨by decide, by decide +kernel⟩
def someSpec : Dl.Spec where
  α := List PyData
  arg ds := [.bag, .dat (.list ds)]
  pre ds := ds ≠ [] ∧ ds.length ≤ 1000
  post ds s := ∃ d ∈ ds, s = .dat d
theorem ok_some (T : Top G) : Dl.Fn G 2 "_law_some" someSpec := by
  have f1 := fr_len T
  have h1 := ok_take T
  refine mk__law_some T (fun _ => rfl) fun cdv M0 (ds : List PyData) hp => ?_
  have hl := hp.2
  have h0 : 0 < ds.length := List.length_pos_iff.mpr hp.1
  repeat' walk_at "dl"
  refine ⟨⟨h0, by omega⟩, fun s hs => ?_, fun _ h => h.elim⟩
  obtain ⟨k, hk, rfl⟩ := hs
  refine Dl.x_L (d := ds[k]) (Dl.atD (by simp [hk])) ⟨rfl, ds[k], List.getElem_mem hk, rfl⟩
/-- row with another one at a place -/
def putSpec : Dl.Spec where
  α := List PyData × Nat × PyData
  arg a := [.dat (.tuple a.1), .dat (.int (a.2.1 : Nat)), .dat a.2.2]
  pre a := a.2.1 < a.1.length ∧ a.1.length ≤ 1000
  post a s := s = .dat (.tuple (a.1.set a.2.1 a.2.2))
theorem put_eq {ds : List PyData} {k : Nat} {d : PyData} (h : k < ds.length) : ds.take k ++ [d] ++ ds.drop (k + 1) = ds.set k d := by
  rw [List.set_eq_take_append_cons_drop, if_pos h, List.append_assoc]
  rfl
theorem ok_put (T : Top G) : Dl.Fn G 1 "_law_put" putSpec := by
  refine mk__law_put T (fun _ => rfl) fun cdv M0 ⟨ds, k, d⟩ hp => ?_
  have hk : k < ds.length := hp.1
  have hl : ds.length ≤ 1000 := hp.2
  refine Dl.s_cons (Dl.s_ret (Dl.d_bin (Dl.d_bin (Dl.d_to (ds := ds) k (Dl.d_nm (s := .dat (.tuple ds)) rfl rfl ⟨rfl, Dl.d_nm (s := .dat (.int (k : Nat))) rfl rfl ⟨rfl, ?_⟩⟩)))))
  repeat' walk_at "dl"
  refine Dl.o_addT (by rw [List.length_take, sizeLine_eq]; simp; omega) ?_
  refine Dl.d_from (ds := ds) (k + 1) (Dl.d_nm (s := .dat (.tuple ds)) rfl rfl ⟨rfl, ?_⟩)
  repeat' walk_at "dl"
  refine Dl.o_addT (by rw [List.length_append, List.length_take, List.length_drop, sizeLine_eq]; simp; omega) ⟨rfl, ?_⟩
  show _ = _
  rw [put_eq hk]
end
end K76
set_option Elab.async false
set_option linter.all false
set_option maxRecDepth 100000
set_option maxHeartbeats 4000000
set_option autoImplicit false
namespace K76
open PySem PySem.Spec PyProof.Rows L2
local macro_rules | `(tactic| walk_at "nm") => `(tactic| (refine Dl.d_nm (s := ?nmS) ?nmA ?nmB ?_; (case nmA => rfl); (case nmB => rfl)))
local macro_rules | `(tactic| walk_at "fr") => `(tactic| first | assumption)
local macro_rules | `(tactic| walk_at "name") => `(tactic| first
  | walk_at "nm"
  | ((with_reducible show Dl.dE _ _ (Expr.Name "int" _) _ _ _); refine Dl.d_t_int ?frA ?frB ?_; (case frA => walk_at "fr"); (case frB => rfl))
  | ((with_reducible show Dl.dE _ _ (Expr.Name "tuple" _) _ _ _); refine Dl.d_t_tuple ?frA ?frB ?_; (case frA => walk_at "fr"); (case frB => rfl))
  | ((with_reducible show Dl.dE _ _ (Expr.Name "list" _) _ _ _); refine Dl.d_t_list ?frA ?frB ?_; (case frA => walk_at "fr"); (case frB => rfl))
  | ((with_reducible show Dl.dE _ _ (Expr.Name "str" _) _ _ _); refine Dl.d_t_str ?frA ?frB ?_; (case frA => walk_at "fr"); (case frB => rfl))
  | ((with_reducible show Dl.dE _ _ (Expr.Name "bool" _) _ _ _); refine Dl.d_t_bool ?frA ?frB ?_; (case frA => walk_at "fr"); (case frB => rfl))
  | ((with_reducible show Dl.dE _ _ (Expr.Name "set" _) _ _ _); refine Dl.d_t_set ?frA ?frB ?_; (case frA => walk_at "fr"); (case frB => rfl))
  | walk_at "glob")
local macro_rules | `(tactic| walk_at "glob") => `(tactic| first
  | (refine Dl.d_globInt (i := ?gI) ?gA ?gB ?_; (case gA => rfl); (case gB => assumption))
  | (refine Dl.d_globStr (i := ?gI) ?gA ?gB ?_; (case gA => rfl); (case gB => assumption)))
local macro_rules | `(tactic| walk_at "call") => `(tactic| first
  | ((with_reducible show Dl.dE _ _ (Expr.Call (Expr.Name "isinstance" _) _ _ _) _ _ _); refine Dl.d_b_isinstance ?frA ?frB ?_; (case frA => walk_at "fr"); (case frB => rfl))
  | ((with_reducible show Dl.dE _ _ (Expr.Call (Expr.Name "len" _) _ _ _) _ _ _); refine Dl.d_b_len ?frA ?frB ?_; (case frA => walk_at "fr"); (case frB => rfl))
  | ((with_reducible show Dl.dE _ _ (Expr.Call (Expr.Name "all" _) _ _ _) _ _ _); refine Dl.d_b_all ?frA ?frB ?_; (case frA => walk_at "fr"); (case frB => rfl))
  | ((with_reducible show Dl.dE _ _ (Expr.Call (Expr.Name "any" _) _ _ _) _ _ _); refine Dl.d_b_any ?frA ?frB ?_; (case frA => walk_at "fr"); (case frB => rfl))
  | ((with_reducible show Dl.dE _ _ (Expr.Call (Expr.Name "abs" _) _ _ _) _ _ _); refine Dl.d_b_abs ?frA ?frB ?_; (case frA => walk_at "fr"); (case frB => rfl))
  | ((with_reducible show Dl.dE _ _ (Expr.Call (Expr.Name "sum" _) _ _ _) _ _ _); refine Dl.d_b_sum ?frA ?frB ?_; (case frA => walk_at "fr"); (case frB => rfl))
  | ((with_reducible show Dl.dE _ _ (Expr.Call (Expr.Name "min" _) _ _ _) _ _ _); refine Dl.d_b_min ?frA ?frB ?_; (case frA => walk_at "fr"); (case frB => rfl))
  | ((with_reducible show Dl.dE _ _ (Expr.Call (Expr.Name "max" _) _ _ _) _ _ _); refine Dl.d_b_max ?frA ?frB ?_; (case frA => walk_at "fr"); (case frB => rfl))
  | ((with_reducible show Dl.dE _ _ (Expr.Call (Expr.Name "sorted" _) _ _ _) _ _ _); refine Dl.d_b_sorted ?frA ?frB ?_; (case frA => walk_at "fr"); (case frB => rfl))
  | ((with_reducible show Dl.dE _ _ (Expr.Call (Expr.Name "int" _) _ _ _) _ _ _); refine Dl.d_c_int ?frA ?frB ?_; (case frA => walk_at "fr"); (case frB => rfl))
  | ((with_reducible show Dl.dE _ _ (Expr.Call (Expr.Name "tuple" _) _ _ _) _ _ _); refine Dl.d_c_tuple ?frA ?frB ?_; (case frA => walk_at "fr"); (case frB => rfl))
  | ((with_reducible show Dl.dE _ _ (Expr.Call (Expr.Name "list" _) _ _ _) _ _ _); refine Dl.d_c_list ?frA ?frB ?_; (case frA => walk_at "fr"); (case frB => rfl))
  | ((with_reducible show Dl.dE _ _ (Expr.Call (Expr.Name "str" _) _ _ _) _ _ _); refine Dl.d_c_str ?frA ?frB ?_; (case frA => walk_at "fr"); (case frB => rfl))
  | ((with_reducible show Dl.dE _ _ (Expr.Call (Expr.Name "bool" _) _ _ _) _ _ _); refine Dl.d_c_bool ?frA ?frB ?_; (case frA => walk_at "fr"); (case frB => rfl))
  | ((with_reducible show Dl.dE _ _ (Expr.Call (Expr.Name "set" _) _ _ _) _ _ _); refine Dl.d_c_set ?frA ?frB ?_; (case frA => walk_at "fr"); (case frB => rfl))
  | (refine Dl.d_fn (j := ?fnJ) (S := ?fnS) ?fnA ?fnB ?fnC ?_; (case fnA => assumption); (case fnB => exact Nat.le_of_ble_eq_true rfl); (case fnC => rfl)))
local macro_rules | `(tactic| walk_at "ed") => `(tactic| ((with_reducible show Dl.dE _ _ _ _ _ _); first
  | ((with_reducible show Dl.dE _ _ (Expr.Name _ _) _ _ _); walk_at "name")
  | ((with_reducible show Dl.dE _ _ (Expr.Constant (Const.int _) _ _) _ _ _); refine Dl.d_int ?_)
  | ((with_reducible show Dl.dE _ _ (Expr.Constant (Const.str _) _ _) _ _ _); refine Dl.d_str ?_)
  | ((with_reducible show Dl.dE _ _ (Expr.Constant (Const.bool _) _ _) _ _ _); refine Dl.d_bool ?_)
  | ((with_reducible show Dl.dE _ _ (Expr.Constant Const.none _ _) _ _ _); refine Dl.d_none ?_)
  | ((with_reducible show Dl.dE _ _ (Expr.Call (Expr.Name _ _) [_, Expr.Tuple [Expr.Name _ _, Expr.Name _ _] _ _] _ _) _ _ _); (refine Dl.d_isi2 ?frA ?frB ?frC ?frD ?frE ?frF ?_; (case frA => walk_at "fr"); (case frB => walk_at "fr"); (case frC => walk_at "fr"); (case frD => rfl); (case frE => rfl); (case frF => rfl)))
  | ((with_reducible show Dl.dE _ _ (Expr.Call (Expr.Name _ _) _ _ _) _ _ _); walk_at "call")
  | ((with_reducible show Dl.dE _ _ (Expr.BoolOp _ [_] _) _ _ _); refine Dl.d_one ?_)
  | ((with_reducible show Dl.dE _ _ (Expr.BoolOp BoolOp.And _ _) _ _ _); refine Dl.d_and ?_)
  | ((with_reducible show Dl.dE _ _ (Expr.BoolOp BoolOp.Or _ _) _ _ _); refine Dl.d_or ?_)
  | ((with_reducible show Dl.dE _ _ (Expr.UnaryOp UnaryOp.Not _ _) _ _ _); refine Dl.d_not ?_)
  | ((with_reducible show Dl.dE _ _ (Expr.UnaryOp UnaryOp.USub _ _) _ _ _); refine Dl.d_neg ?_)
  | ((with_reducible show Dl.dE _ _ (Expr.BinOp _ _ _ _) _ _ _); refine Dl.d_bin ?_)
  | ((with_reducible show Dl.dE _ _ (Expr.Compare _ [_] _ _) _ _ _); refine Dl.d_cmp ?_)
  | ((with_reducible show Dl.dE _ _ (Expr.Compare _ [_, _] _ _) _ _ _); refine Dl.d_chain ?_)
  | ((with_reducible show Dl.dE _ _ (Expr.IfExp _ _ _ _) _ _ _); refine Dl.d_if ?_)
  | ((with_reducible show Dl.dE _ _ (Expr.Tuple _ _ _) _ _ _); refine Dl.d_tup ?_)
  | ((with_reducible show Dl.dE _ _ (Expr.List _ _) _ _ _); refine Dl.d_lst ?_)
  | ((with_reducible show Dl.dE _ _ (Expr.Subscript _ (Expr.Slice _ _ _ _) _) _ _ _); refine Dl.d_slice ?_)
  | ((with_reducible show Dl.dE _ _ (Expr.Subscript _ _ _) _ _ _); refine Dl.d_ix ?_)))
local macro_rules | `(tactic| walk_at "ad") => `(tactic| ((with_reducible show Dl.dA _ _ _ _ _ _); first | refine Dl.a_nil ?_ | refine Dl.a_cons ?_))
local macro_rules | `(tactic| walk_at "td") => `(tactic| first
  | ((with_reducible show Dl.dT _ _ (Expr.UnaryOp UnaryOp.Not _ _) _ _ _); refine Dl.t_not ?_)
  | ((with_reducible show Dl.dT _ _ (Expr.BoolOp _ _ _) _ _ _); refine Dl.t_bool ?_)
  | ((with_reducible show Dl.dT _ _ (Expr.Compare _ [_] _ _) _ _ _); refine Dl.t_cmp ?_)
  | ((with_reducible show Dl.dT _ _ (Expr.Compare _ [_, _] _ _) _ _ _); refine Dl.t_chain ?_)
  | ((with_reducible show Dl.dT _ _ (_) _ _ _); refine Dl.t_val ?_)
  | ((with_reducible show Dl.dW _ _ (Expr.BoolOp BoolOp.And [_] _) _ _ _); refine Dl.w_and1 ?_)
  | ((with_reducible show Dl.dW _ _ (Expr.BoolOp BoolOp.Or [_] _) _ _ _); refine Dl.w_or1 ?_)
  | ((with_reducible show Dl.dW _ _ (Expr.BoolOp BoolOp.And _ _) _ _ _); refine Dl.w_and ?_)
  | ((with_reducible show Dl.dW _ _ (Expr.BoolOp BoolOp.Or _ _) _ _ _); refine Dl.w_or ?_))
local macro_rules | `(tactic| walk_at "od") => `(tactic| ((with_reducible show Dl.OpD _ _ _ _ _ _); first
  | refine Dl.o_add ?_ | refine Dl.o_sub ?_ | refine Dl.o_lt ?_ | refine Dl.o_le ?_ | refine Dl.o_gt ?_ | refine Dl.o_ge ?_ | refine Dl.o_eq ?_ | refine Dl.o_ne ?_ | refine Dl.o_eqS ?_ | refine Dl.o_mul ?_ ?_ | refine Dl.o_mod ?_ ?_ | refine Dl.o_fdivW ?_ ?_ | refine Dl.o_inS ?_ | refine Dl.o_notInS ?_
  | refine Dl.o_isN ?_ | refine Dl.o_notN ?_))
local macro_rules | `(tactic| walk_at "cd") => `(tactic| ((with_reducible show Dl.CallD _ _ _ _ _); first
  | refine Dl.c_lenT ?_ | refine Dl.c_lenL ?_ | refine Dl.c_lenO ?_ | refine Dl.c_abs ?_ | refine Dl.c_int ?_ | refine Dl.c_lenS ?_ ?_ | refine Dl.c_allT ?_
  | refine Dl.c_isInt ?_ | refine Dl.c_isBool ?_ | refine Dl.c_isStr ?_ | refine Dl.c_isTuple ?_ | refine Dl.c_isList ?_
  | refine Dl.c_allF ?_ | refine Dl.c_tupL ?_ | refine Dl.c_tupT ?_))
local macro_rules | `(tactic| walk_at "sd") => `(tactic| first
  | ((with_reducible show Dl.dS _ _ _ (Stmt.Return (some _) _) _ _ _ _); refine Dl.s_ret ?_)
  | ((with_reducible show Dl.dS _ _ _ (Stmt.Assign [Expr.Tuple [Expr.Name _ _, Expr.Name _ _] _ _] (Expr.Tuple [_, _] _ _) _) _ _ _ _); (refine Dl.s_pr (i := ?stI) (j := ?stJ) ?stA ?stB ?stC ?stD ?stE ?_; (case stA => rfl); (case stB => rfl); (case stC => rfl); (case stD => rfl); (case stE => rfl)))
  | ((with_reducible show Dl.dS _ _ _ (Stmt.If _ _ _ _) _ _ _ _); refine Dl.s_if ?_)
  | ((with_reducible show Dl.dS _ _ _ (Stmt.Assign [Expr.Name _ _] _ _) _ _ _ _); (refine Dl.s_st (i := ?stI) ?stA ?stB ?stC ?_; (case stA => rfl); (case stB => rfl); (case stC => rfl)))
  | ((with_reducible show Dl.dS _ _ _ (Stmt.Expr _ _) _ _ _ _); refine Dl.s_expr ?_)
  | ((with_reducible show Dl.dSs _ _ _ _ _ _ _ _); first | refine Dl.s_cons ?_ | refine Dl.s_nil ?_))
local macro_rules | `(tactic| walk_at "xd") => `(tactic| ((with_reducible show Dl.IxD _ _ _ _ _); first | (refine Dl.x_T (d := ?ixD) ?ixE ?_; (case ixE => rfl)) | (refine Dl.x_L (d := ?ixD) ?ixE ?_; (case ixE => rfl)) | (refine Dl.x_O (d := ?ixD) ?ixE ?_; (case ixE => rfl))))
local macro_rules | `(tactic| walk_at "ds") => `(tactic| (refine Dl.ex_dats (ds := ?dsW) ?dsA ?dsB ?_; (case dsA => rfl); (case dsB => rfl)))
local macro_rules | `(tactic| walk_at "dl") => `(tactic| first
  | walk_at "ds"
  | walk_at "ed"
  | walk_at "ad"
  | walk_at "td"
  | walk_at "od"
  | walk_at "cd"
  | walk_at "sd"
  | walk_at "xd"
  | ((with_reducible refine ⟨_, rfl, fun hc => ?_, fun hc => ?_⟩) <;> (first | contradiction | (exfalso; revert hc; simp [Dl.isTy, Dl.tyD]; done) | skip))
  | ((with_reducible refine ⟨fun hc => ?_, fun hc => ?_⟩) <;> (first | contradiction | (exfalso; revert hc; simp [Dl.isTy, Dl.tyD]; done) | skip))
  | (refine ⟨_, _, rfl, rfl, ?_⟩)
  | (refine ⟨rfl, ?_⟩)
  | (with_reducible refine ⟨_, rfl, ?_⟩)
  | (refine ⟨(_, _), rfl, ?_⟩)
  | (refine ⟨(_, _, _), rfl, ?_⟩)
  | (refine ⟨True.intro, fun _ hs => ?_, fun _ hx => False.elim hx⟩; replace hs : _ = Dl.Sl.dat _ := hs; subst hs)
  | (refine ⟨by assumption, fun _ hs => ?_, fun _ hx => False.elim hx⟩; replace hs : _ = Dl.Sl.dat _ := hs; subst hs)
  | fail)
/-! ### fractions, sums -/
theorem red_split {a : Sh} (h : 1 ≤ a.2) : ∃ g p q : Int, 0 < g ∧ a.1 = g * p ∧ a.2 = g * q ∧ 1 ≤ q ∧ Nat.gcd p.natAbs q.natAbs = 1 ∧ red a = (p, q) := by
  have hg := gcd_le_of_pos (x := a.1) (y := a.2) (by omega)
  have hn : 0 < Nat.gcd a.1.natAbs a.2.natAbs := by have := hg.2; omega
  obtain ⟨p, q, hp, hq, h1⟩ := gcd_split a.1 a.2 hn
  refine ⟨_, p, q, hg.2, hp, hq, ?_, h1, red_eq hn hp hq⟩
  have hpos : 0 < (Nat.gcd a.1.natAbs a.2.natAbs : Int) * q := by rw [← hq]; omega
  by_cases h2 : 0 < q
  · omega
  · have := Int.mul_le_mul_of_nonneg_left (show q ≤ 0 by omega) (Int.le_of_lt hg.2)
    rw [Int.mul_zero] at this
    omega
theorem cop_eq {p q p' q' : Int} (hq : 1 ≤ q) (hq' : 1 ≤ q') (h1 : Nat.gcd p.natAbs q.natAbs = 1) (h2 : Nat.gcd p'.natAbs q'.natAbs = 1) (h : p * q' = p' * q) : p = p' ∧ q = q' := by
  have e : p.natAbs * q'.natAbs = p'.natAbs * q.natAbs := by rw [← Int.natAbs_mul, ← Int.natAbs_mul, h]
  have d1 : q.natAbs ∣ q'.natAbs := by
    have c : Nat.Coprime q.natAbs p.natAbs := by unfold Nat.Coprime; rw [Nat.gcd_comm]; exact h1
    exact c.dvd_of_dvd_mul_left ⟨p'.natAbs, by rw [e, Nat.mul_comm]⟩
  have d2 : q'.natAbs ∣ q.natAbs := by
    have c : Nat.Coprime q'.natAbs p'.natAbs := by unfold Nat.Coprime; rw [Nat.gcd_comm]; exact h2
    exact c.dvd_of_dvd_mul_left ⟨p.natAbs, by rw [← e, Nat.mul_comm]⟩
  have eq : q.natAbs = q'.natAbs := Nat.dvd_antisymm d1 d2
  have eq' : q = q' := by omega
  refine ⟨?_, eq'⟩
  rw [← eq'] at h
  exact Int.eq_of_mul_eq_mul_right (by omega) h
theorem red_cross {a b : Sh} (ha : 1 ≤ a.2) (hb : 1 ≤ b.2) (h : a.1 * b.2 = b.1 * a.2) : red a = red b := by
  obtain ⟨g, p, q, g0, h1, h2, h3, h4, h5⟩ := red_split ha
  obtain ⟨g', p', q', g0', h1', h2', h3', h4', h5'⟩ := red_split hb
  rw [h5, h5']
  have e : p * q' = p' * q := by
    rw [h1, h2', h1', h2] at h
    have k : (g * g') * (p * q') = (g * g') * (p' * q) := by
      have l : g * p * (g' * q') = (g * g') * (p * q') := by ac_rfl
      have r : g' * p' * (g * q) = (g * g') * (p' * q) := by ac_rfl
      rw [← l, ← r, h]
    exact Int.eq_of_mul_eq_mul_left (Int.ne_of_gt (Int.mul_pos g0 g0')) k
  obtain ⟨e1, e2⟩ := cop_eq h3 h3' h4 h4' e
  rw [e1, e2]
theorem red_val {a : Sh} (h : 1 ≤ a.2) : a.1 * (red a).2 = (red a).1 * a.2 ∧ 1 ≤ (red a).2 := by
  obtain ⟨g, p, q, g0, h1, h2, h3, h4, h5⟩ := red_split h
  rw [h5]
  refine ⟨?_, h3⟩
  show a.1 * q = p * a.2
  rw [h1, h2]
  ac_rfl
def rawStep (u s : Sh) : Sh := (u.1 * s.2 + s.1 * u.2, u.2 * s.2)
def rawSum (l : List Sh) : Sh := l.foldl rawStep (0, 1)
theorem plus_red {u s : Sh} (hu : 1 ≤ u.2) (hs : 1 ≤ s.2) : plusF (red u) s = red (rawStep u s) := by
  obtain ⟨h1, h2⟩ := red_val hu
  have p1 : 1 ≤ (red u).2 * s.2 := by have := Int.mul_pos (show 0 < (red u).2 by omega) (show 0 < s.2 by omega); omega
  have p2 : 1 ≤ u.2 * s.2 := by have := Int.mul_pos (show 0 < u.2 by omega) (show 0 < s.2 by omega); omega
  refine red_cross p1 p2 ?_
  show ((red u).1 * s.2 + s.1 * (red u).2) * (u.2 * s.2) = (u.1 * s.2 + s.1 * u.2) * ((red u).2 * s.2)
  have e1 : (red u).1 * s.2 * (u.2 * s.2) = u.1 * s.2 * ((red u).2 * s.2) := by
    have l : (red u).1 * s.2 * (u.2 * s.2) = ((red u).1 * u.2) * (s.2 * s.2) := by ac_rfl
    have r : u.1 * s.2 * ((red u).2 * s.2) = (u.1 * (red u).2) * (s.2 * s.2) := by ac_rfl
    rw [l, r, h1]
  have e2 : s.1 * (red u).2 * (u.2 * s.2) = s.1 * u.2 * ((red u).2 * s.2) := by ac_rfl
  rw [Int.add_mul, Int.add_mul, e1, e2]
theorem fold_red : ∀ (l : List Sh) (u : Sh), 1 ≤ u.2 → (∀ s ∈ l, 1 ≤ s.2) → l.foldl plusF (red u) = red (l.foldl rawStep u) ∧ 1 ≤ (l.foldl rawStep u).2
  | [], u, h, _ => ⟨rfl, h⟩
  | s :: l, u, h, hl => by
    have hs := hl s List.mem_cons_self
    have p2 : 1 ≤ (rawStep u s).2 := by
      show 1 ≤ u.2 * s.2
      have := Int.mul_pos (show 0 < u.2 by omega) (show 0 < s.2 by omega); omega
    have ih := fold_red l (rawStep u s) p2 fun t ht => hl t (List.mem_cons_of_mem _ ht)
    rw [List.foldl_cons, List.foldl_cons, plus_red h hs]
    exact ih
theorem red01 : red (0, 1) = (0, 1) := by decide
theorem sum_raw {l : List Sh} (h : ∀ s ∈ l, 1 ≤ s.2) : sumF l = red (rawSum l) ∧ 1 ≤ (rawSum l).2 := by
  have := fold_red l (0, 1) (by decide) h
  rw [red01] at this
  exact this
theorem raw_le : ∀ (l : List Sh) (u : Sh), 1 ≤ u.2 → (∀ s ∈ l, 1 ≤ s.2 ∧ s.2 ≤ 20) → (l.foldl rawStep u).2 ≤ u.2 * 20 ^ l.length ∧ 1 ≤ (l.foldl rawStep u).2
  | [], u, h, _ => ⟨by simp, h⟩
  | s :: l, u, h, hl => by
    obtain ⟨h1, h2⟩ := hl s List.mem_cons_self
    have p2 : 1 ≤ u.2 * s.2 := by
      have := Int.mul_pos (show 0 < u.2 by omega) (show 0 < s.2 by omega); omega
    obtain ⟨h3, h4⟩ := raw_le l (rawStep u s) p2 fun t ht => hl t (List.mem_cons_of_mem _ ht)
    rw [List.foldl_cons]
    refine ⟨Int.le_trans h3 ?_, h4⟩
    rw [List.length_cons, Int.pow_succ, Int.mul_comm (20 ^ l.length) 20, ← Int.mul_assoc]
    exact Int.mul_le_mul_of_nonneg_right (Int.mul_le_mul_of_nonneg_left h2 (by omega)) (Int.pow_nonneg (by decide))
/-- equal parts of a whole -/
theorem sum_parts {S : Int} (hS : 1 ≤ S) : ∀ (ws : List Int) (n : Int), (ws.map fun w => red (w, S)).foldl plusF (red (n, S)) = red (n + ws.sum, S)
  | [], n => by simp
  | w :: ws, n => by
    rw [List.map_cons, List.foldl_cons]
    have e : plusF (red (n, S)) (red (w, S)) = red (n + w, S) := by
      obtain ⟨h1, h2⟩ := red_val (a := (w, S)) hS
      rw [plus_red (u := (n, S)) hS h2]
      have p : 1 ≤ S * (red (w, S)).2 := by have := Int.mul_pos (show 0 < S by omega) (show 0 < (red (w, S)).2 by omega); omega
      refine red_cross p hS ?_
      show (n * (red (w, S)).2 + (red (w, S)).1 * S) * S = (n + w) * (S * (red (w, S)).2)
      have h1' : w * (red (w, S)).2 = (red (w, S)).1 * S := h1
      rw [← h1', ← Int.add_mul]
      ac_rfl
    rw [e, sum_parts hS ws (n + w), List.sum_cons, Int.add_assoc]
theorem red_zero {S : Int} (hS : 1 ≤ S) : red (0, S) = (0, 1) := by
  rw [red_cross (a := (0, S)) (b := (0, 1)) hS (by decide) (by show 0 * 1 = 0 * S; omega)]
  decide
theorem red_one {S : Int} (hS : 1 ≤ S) : red (S, S) = (1, 1) := by
  rw [red_cross (a := (S, S)) (b := (1, 1)) hS (by decide) (by show S * 1 = 1 * S; omega)]
  decide
theorem sum_whole {ws : List Int} (h : 1 ≤ ws.sum) : sumF (ws.map fun w => red (w, ws.sum)) = (1, 1) := by
  unfold sumF
  have := sum_parts h ws 0
  rw [red_zero h, Int.zero_add, red_one h] at this
  exact this
theorem red_pos {w S : Int} (hw : 1 ≤ w) (hS : 1 ≤ S) : 1 ≤ (red (w, S)).1 ∧ (red (w, S)).1 ≤ w := by
  obtain ⟨g, p, q, g0, h1, h2, h3, h4, h5⟩ := red_split (a := (w, S)) hS
  rw [h5]
  have h1' : w = g * p := h1
  show 1 ≤ p ∧ p ≤ w
  have hp : 0 < p := by
    by_cases h : 0 < p
    · exact h
    · have := Int.mul_le_mul_of_nonneg_left (show p ≤ 0 by omega) (Int.le_of_lt g0)
      rw [Int.mul_zero] at this
      omega
  have := Int.mul_le_mul_of_nonneg_right (show (1 : Int) ≤ g by omega) (Int.le_of_lt hp)
  omega
theorem red_share {w S : Int} (hw : 1 ≤ w) (hw3 : w ≤ 3) (hS : 1 ≤ S) (hS2 : S ≤ 20) : isShare (red (w, S)) = true := by
  rw [share_iff]
  have h1 := red_pos hw hS
  have h2 : (red (w, S)).2 ≤ S := red_le (s := (w, S)) hS
  exact ⟨⟨frac_red (s := (w, S)) hS, by omega⟩, by omega⟩
/-! ### the order of items -/
theorem lex_irr : ∀ x : Itm, HT.lexLt x x = false
  | [] => rfl
  | a :: x => by
    show (if a = a then HT.lexLt x x else _) = false
    rw [if_pos rfl, lex_irr x]
theorem lex_asym : ∀ x y : Itm, HT.lexLt x y = true → HT.lexLt y x = false
  | [], [], h => by cases h
  | [], _ :: _, _ => rfl
  | _ :: _, [], h => by cases h
  | a :: x, b :: y, h => by
    have h : (if a = b then HT.lexLt x y else decide (a < b)) = true := h
    show (if b = a then HT.lexLt y x else decide (b < a)) = false
    by_cases e : a = b
    · rw [if_pos e] at h
      rw [if_pos e.symm, lex_asym x y h]
    · rw [if_neg e] at h
      rw [if_neg (fun z => e z.symm)]
      have := of_decide_eq_true h
      exact decide_eq_false (by omega)
theorem lex_tot : ∀ x y : Itm, x ≠ y → HT.lexLt x y = false → HT.lexLt y x = true
  | [], [], h, _ => absurd rfl h
  | [], _ :: _, _, h => by cases h
  | _ :: _, [], _, _ => rfl
  | a :: x, b :: y, n, h => by
    have h : (if a = b then HT.lexLt x y else decide (a < b)) = false := h
    show (if b = a then HT.lexLt y x else decide (b < a)) = true
    by_cases e : a = b
    · rw [if_pos e] at h
      rw [if_pos e.symm]
      exact lex_tot x y (fun z => n (by rw [e, z])) h
    · rw [if_neg e] at h
      rw [if_neg (fun z => e z.symm)]
      have := of_decide_eq_false h
      exact decide_eq_true (by omega)
theorem lex_code {B : Int} : ∀ x y : Itm, x.length = y.length → TS.Bd B x → TS.Bd B y → (HT.lexLt x y = true ↔ TS.code B x < TS.code B y)
  | [], [], _, _, _ => by
    constructor
    · intro h; cases h
    · intro h; exact absurd h (Int.lt_irrefl _)
  | [], _ :: _, h, _, _ => by cases h
  | _ :: _, [], h, _, _ => by cases h
  | a :: x, b :: y, hl, hx, hy => by
    have hl' : x.length = y.length := by simpa using hl
    show (if a = b then HT.lexLt x y else decide (a < b)) = true ↔ _
    by_cases e : a = b
    · subst e
      rw [if_pos rfl, TS.code_same hl']
      exact lex_code x y hl' hx.tail hy.tail
    · rw [if_neg e]
      constructor
      · intro h
        exact TS.code_lt hl' hx.tail hy.tail (of_decide_eq_true h)
      · intro h
        by_cases q : a < b
        · exact decide_eq_true q
        · have := TS.code_lt hl'.symm hy.tail hx.tail (show b < a by omega)
          omega
theorem lex_asc {B : Int} {d : Nat} : ∀ l : List Itm, (∀ x ∈ l, x.length = d ∧ TS.Bd B x) → l.Nodup → l.Pairwise (fun x y => TS.code B x ≤ TS.code B y) → l.Pairwise (fun x y => HT.lexLt x y = true)
  | [], _, _, _ => .nil
  | x :: l, h, hn, hp => by
    cases hp with
    | cons h1 h2 =>
      rw [List.nodup_cons] at hn
      refine .cons (fun y hy => ?_) (lex_asc l (fun z hz => h z (List.mem_cons_of_mem _ hz)) hn.2 h2)
      have hx := h x List.mem_cons_self
      have hy' := h y (List.mem_cons_of_mem _ hy)
      have hle := h1 y hy
      have ne : x ≠ y := fun z => hn.1 (by rw [z]; exact hy)
      cases q : HT.lexLt x y with
      | true => rfl
      | false =>
        have h3 := lex_tot x y ne q
        have h4 := (lex_code y x (by rw [hx.1, hy'.1]) hy'.2 hx.2).mp h3
        omega
theorem asc_of : ∀ l : List Itm, l.Pairwise (fun x y => HT.lexLt x y = true) → ascends l = true
  | [], _ => rfl
  | [_], _ => rfl
  | x :: y :: l, h => by
    cases h with
    | cons h1 h2 =>
      show ((x, y) :: ((y :: l).zip l)).all (fun q => HT.lexLt q.1 q.2) = true
      rw [List.all_cons]
      have e := asc_of (y :: l) h2
      have e2 : ((y :: l).zip l).all (fun q => HT.lexLt q.1 q.2) = true := e
      rw [e2]
      show (HT.lexLt x y && true) = true
      rw [h1 y List.mem_cons_self]
      rfl
/-! ### items of ties, mirrors -/
theorem turn_turn {n : Int} : turnI (turnI n) = n := by
  unfold turnI
  by_cases h1 : n = 1
  · subst h1; rfl
  · by_cases h2 : n = 2
    · subst h2; rfl
    · rw [if_neg h1, if_neg h2, if_neg h1, if_neg h2]
theorem mir_len {ts : List Tie} {x : Itm} (h : x.length = ts.length) : (mirrorI ts x).length = ts.length := by
  unfold mirrorI
  rw [List.length_map, List.length_zip, h, Nat.min_self]
theorem mir_mir : ∀ (ts : List Tie) (x : Itm), x.length = ts.length → mirrorI ts (mirrorI ts x) = x
  | [], [], _ => rfl
  | [], _ :: _, h => by cases h
  | _ :: _, [], h => by cases h
  | t :: ts, n :: x, h => by
    have ih := mir_mir ts x (by simpa using h)
    show (if t.2 then (if t.2 then n else turnI n) else turnI (if t.2 then n else turnI n)) :: mirrorI ts (mirrorI ts x) = n :: x
    rw [ih]
    cases t.2 with
    | true => rfl
    | false => show turnI (turnI n) :: x = _; rw [turn_turn]
/-- an item as a tie lets it -/
def okI (ts : List Tie) (x : Itm) : Prop := x.length = ts.length ∧ ∀ q ∈ x.zip ts, 0 ≤ q.1 ∧ q.1 < if q.2.2 then 2 else 4
theorem okI.fits {ts : List Tie} {x : Itm} (h : okI ts x) : fitsT ts x = true := by
  unfold fitsT
  rw [Bool.and_eq_true, beq_iff_eq, List.all_eq_true]
  exact ⟨h.1, fun q hq => decide_eq_true (h.2 q hq).2⟩
theorem okI.bd : ∀ {ts : List Tie} {x : Itm}, okI ts x → TS.Bd 4 x
  | [], [], _, m, hm => by cases hm
  | [], _ :: _, h, _, _ => by cases h.1
  | _ :: _, [], h, _, _ => by cases h.1
  | t :: ts, n :: x, h, m, hm => by
    rcases List.mem_cons.mp hm with rfl | hm
    · have := h.2 (m, t) List.mem_cons_self
      refine ⟨this.1, ?_⟩
      have h2 := this.2
      dsimp only at h2
      split at h2 <;> omega
    · exact okI.bd (ts := ts) (x := x) ⟨by simpa using h.1, fun q hq => h.2 q (List.mem_cons_of_mem _ hq)⟩ m hm
theorem okI.itm {ts : List Tie} {x : Itm} (h : okI ts x) (hl : ts.length ≤ 3) : ItmOk x := ⟨by rw [h.1]; exact hl, fun n hn => by have := h.bd n hn; omega⟩
theorem okI.mir : ∀ {ts : List Tie} {x : Itm}, okI ts x → okI ts (mirrorI ts x)
  | [], [], h => h
  | [], _ :: _, h => by cases h.1
  | _ :: _, [], h => by cases h.1
  | t :: ts, n :: x, h => by
    have ih := okI.mir (ts := ts) (x := x) ⟨by simpa using h.1, fun q hq => h.2 q (List.mem_cons_of_mem _ hq)⟩
    have hn := h.2 (n, t) List.mem_cons_self
    refine ⟨mir_len h.1, fun q hq => ?_⟩
    have hq : q ∈ (if t.2 then n else turnI n, t) :: (mirrorI ts x).zip ts := hq
    rcases List.mem_cons.mp hq with rfl | hq
    · dsimp only at hn ⊢
      cases e : t.2 with
      | true => rw [e] at hn; simpa using hn
      | false =>
        rw [e] at hn
        have h2 : n < 4 := by simpa using hn.2
        unfold turnI
        simp
        split
        · omega
        · split <;> omega
    · exact ih.2 q hq
def stepI (b : Bool) (acc : List Itm) : List Itm := acc.flatMap fun x => (List.range (if b then 2 else 4)).map fun (n : Nat) => x ++ [((n : Nat) : Int)]
def allI (ts : List Tie) : List Itm := ts.foldl (fun acc t => stepI t.2 acc) [[]]
theorem allI_snoc (ts : List Tie) (t : Tie) : allI (ts ++ [t]) = stepI t.2 (allI ts) := by
  unfold allI
  rw [List.foldl_append]
  rfl
theorem zip_snoc {x : Itm} {ts : List Tie} {n : Int} {t : Tie} (h : x.length = ts.length) : (x ++ [n]).zip (ts ++ [t]) = x.zip ts ++ [(n, t)] := by
  rw [List.zip_append h]
  rfl
theorem step_ok {ts : List Tie} {t : Tie} {acc : List Itm} (h : ∀ x ∈ acc, okI ts x) (hn : acc.Nodup) : (∀ x ∈ stepI t.2 acc, okI (ts ++ [t]) x) ∧ (stepI t.2 acc).Nodup := by
  constructor
  · intro y hy
    unfold stepI at hy
    rw [List.mem_flatMap] at hy
    obtain ⟨x, hx, hy⟩ := hy
    obtain ⟨n, hn, rfl⟩ := List.mem_map.mp hy
    have hn := List.mem_range.mp hn
    have h1 := h x hx
    refine ⟨by rw [List.length_append, List.length_append, h1.1]; rfl, fun q hq => ?_⟩
    rw [zip_snoc h1.1] at hq
    rcases List.mem_append.mp hq with hq | hq
    · exact h1.2 q hq
    · have := List.mem_singleton.mp hq
      subst this
      dsimp only
      cases e : t.2 with
      | true => rw [e] at hn; simp at hn ⊢; omega
      | false => rw [e] at hn; simp at hn ⊢; omega
  · unfold stepI
    rw [List.flatMap_def]
    unfold List.Nodup
    rw [List.pairwise_flatten]
    constructor
    · intro l hl
      obtain ⟨x, hx, rfl⟩ := List.mem_map.mp hl
      rw [List.pairwise_map]
      refine List.Pairwise.imp (fun {a b} hab z => ?_) (List.nodup_range (n := if t.2 then 2 else 4))
      have := List.append_cancel_left z
      injection this with this
      exact hab (by omega)
    · rw [List.pairwise_map]
      refine List.Pairwise.imp (fun {a b} hab x hx y hy z => ?_) hn
      obtain ⟨n, _, rfl⟩ := List.mem_map.mp hx
      obtain ⟨m, _, rfl⟩ := List.mem_map.mp hy
      have := List.append_inj_left' z rfl
      exact hab this
theorem allI_ok (l : List Tie) : (∀ x ∈ allI l, okI l x) ∧ (allI l).Nodup ∧ (allI l).length ≤ 4 ^ l.length ∧ allI l ≠ [] := by
  have key : ∀ (post pre : List Tie), (pre ++ post) = l → ((∀ x ∈ allI pre, okI pre x) ∧ (allI pre).Nodup ∧ (allI pre).length ≤ 4 ^ pre.length ∧ allI pre ≠ []) → ((∀ x ∈ allI l, okI l x) ∧ (allI l).Nodup ∧ (allI l).length ≤ 4 ^ l.length ∧ allI l ≠ []) := by
    intro post
    induction post with
    | nil =>
      intro pre e h
      rw [List.append_nil] at e
      rw [← e]
      exact h
    | cons t post ih =>
      intro pre e h
      refine ih (pre ++ [t]) (by rw [← e]; simp) ?_
      rw [allI_snoc]
      obtain ⟨h1, h2, h3, h4⟩ := h
      obtain ⟨a, b⟩ := step_ok (t := t) h1 h2
      refine ⟨a, b, ?_, ?_⟩
      · have e : (stepI t.2 (allI pre)).length = (allI pre).length * (if t.2 then 2 else 4) := by
          unfold stepI
          rw [List.length_flatMap]
          generalize allI pre = L
          induction L with
          | nil => simp
          | cons x L ih =>
            rw [List.map_cons, List.sum_cons, ih, List.length_map, List.length_range, List.length_cons, Nat.add_mul]
            omega
        rw [e, List.length_append, List.length_singleton, Nat.pow_succ]
        refine Nat.mul_le_mul h3 ?_
        split <;> omega
      · unfold stepI
        cases q : allI pre with
        | nil => exact absurd q h4
        | cons x L =>
          rw [List.flatMap_cons]
          intro z
          have := (List.append_eq_nil_iff.mp z).1
          have := congrArg List.length this
          rw [List.length_map, List.length_range] at this
          cases e : t.2 <;> simp [e] at this
  refine key l [] rfl ⟨fun x hx => ?_, by simp [allI], by simp [allI], by simp [allI]⟩
  have hx : x ∈ [([] : Itm)] := hx
  rw [List.mem_singleton.mp hx]
  exact ⟨rfl, fun q hq => by cases hq⟩
/-! ### the weights behind the turns -/
def minI (x y : Itm) : Itm := if HT.lexLt y x then y else x
theorem minI_comm (x y : Itm) : minI x y = minI y x := by
  unfold minI
  by_cases e : x = y
  · rw [e]
  · cases h1 : HT.lexLt x y with
    | true => rw [lex_asym x y h1]; rfl
    | false => rw [lex_tot x y e h1]; rfl
theorem minI_or (x y : Itm) : minI x y = x ∨ (minI x y = y ∧ HT.lexLt y x = true) := by
  unfold minI
  cases h : HT.lexLt y x with
  | true => exact .inr ⟨rfl, rfl⟩
  | false => exact .inl rfl
/-- behind i turns each number ahead of i has been put to that at c -/
structure Wts (c : Nat → Nat) (w0 : List Int) (i : Nat) (w : List Int) : Prop where
  len : w.length = w0.length
  lo : ∀ j, j < i → w[j]? = w0[c j]?
  hi : ∀ j, i ≤ j → w[j]? = w0[j]?
theorem Wts.zero (c : Nat → Nat) (w0 : List Int) : Wts c w0 0 w0 := ⟨rfl, fun j h => by omega, fun j _ => rfl⟩
theorem Wts.step {c : Nat → Nat} {w0 w : List Int} {i : Nat} {z : Int} (W : Wts c w0 i w) (hi : i < w0.length) (h1 : c i ≤ i) (h2 : c (c i) = c i) (hz : w[c i]? = some z) : Wts c w0 (i + 1) (w.set i z) := by
  have hz0 : w0[c i]? = some z := by
    by_cases e : c i < i
    · rw [← hz, W.lo _ e, h2]
    · rw [← hz, W.hi _ (by omega)]
  refine ⟨by rw [List.length_set, W.len], fun j hj => ?_, fun j hj => ?_⟩
  · by_cases e : i = j
    · subst e
      rw [List.getElem?_set_self (by rw [W.len]; exact hi), hz0]
    · rw [List.getElem?_set_ne e]
      exact W.lo j (by omega)
  · rw [List.getElem?_set_ne (by omega)]
    exact W.hi j (by omega)
theorem asc_nd {l : List Itm} (h : l.Pairwise (fun x y => HT.lexLt x y = true)) : l.Nodup := List.Pairwise.imp (fun {a b} hab z => by rw [z, lex_irr] at hab; cases hab) h
theorem asc_at {l : List Itm} (h : l.Pairwise (fun x y => HT.lexLt x y = true)) {i j : Nat} {x y : Itm} (hx : l[i]? = some x) (hy : l[j]? = some y) (hl : HT.lexLt x y = true) : i < j := by
  obtain ⟨h1, e1⟩ := List.getElem?_eq_some_iff.mp hx
  obtain ⟨h2, e2⟩ := List.getElem?_eq_some_iff.mp hy
  rcases Nat.lt_trichotomy i j with q | q | q
  · exact q
  · subst q
    rw [e1] at e2
    rw [e2, lex_irr] at hl
    cases hl
  · have := List.pairwise_iff_getElem.mp h j i h2 h1 q
    rw [e1, e2] at this
    rw [lex_asym _ _ hl] at this
    cases this
/-- items ascending, with each its mirror -/
structure Own (ts : List Tie) (l : List Itm) : Prop where
  asc : l.Pairwise (fun x y => HT.lexLt x y = true)
  ok : ∀ x ∈ l, okI ts x
  mir : ∀ x ∈ l, mirrorI ts x ∈ l
def cAt (ts : List Tie) (l : List Itm) (i : Nat) : Nat := match l[i]? with
  | some x => l.findIdx (fun y => y == minI x (mirrorI ts x))
  | none => 0
section
variable {ts : List Tie} {l : List Itm}
theorem Own.min_mem (O : Own ts l) {x : Itm} (hx : x ∈ l) : minI x (mirrorI ts x) ∈ l := by
  rcases minI_or x (mirrorI ts x) with h | ⟨h, _⟩
  · rw [h]; exact hx
  · rw [h]; exact O.mir x hx
theorem Own.cAt_at (O : Own ts l) {i : Nat} {x : Itm} (hx : l[i]? = some x) : l[cAt ts l i]? = some (minI x (mirrorI ts x)) := by
  have hm := O.min_mem (List.mem_of_getElem? hx)
  have h1 : l.findIdx (fun y => y == minI x (mirrorI ts x)) < l.length := List.findIdx_lt_length_of_exists ⟨_, hm, beq_self_eq_true _⟩
  have h2 := List.findIdx_getElem (w := h1)
  unfold cAt
  rw [hx]
  dsimp only
  rw [List.getElem?_eq_getElem h1, beq_iff_eq.mp h2]
theorem asc_inj (h : l.Pairwise (fun x y => HT.lexLt x y = true)) {i j : Nat} {x : Itm} (hx : l[i]? = some x) (hy : l[j]? = some x) : i = j := by
  obtain ⟨h1, e1⟩ := List.getElem?_eq_some_iff.mp hx
  obtain ⟨h2, e2⟩ := List.getElem?_eq_some_iff.mp hy
  rcases Nat.lt_trichotomy i j with q | q | q
  · have := List.pairwise_iff_getElem.mp h i j h1 h2 q
    rw [e1, e2, lex_irr] at this
    cases this
  · exact q
  · have := List.pairwise_iff_getElem.mp h j i h2 h1 q
    rw [e1, e2, lex_irr] at this
    cases this
theorem Own.c_le (O : Own ts l) {i : Nat} (hi : i < l.length) : cAt ts l i ≤ i := by
  have hx := List.getElem?_eq_getElem hi
  have hc := O.cAt_at hx
  rcases minI_or l[i] (mirrorI ts l[i]) with h | ⟨h, hl⟩
  · rw [h] at hc
    exact Nat.le_of_eq (asc_inj O.asc hc hx)
  · rw [h] at hc
    exact Nat.le_of_lt (asc_at O.asc hc hx hl)
theorem Own.c_mir (O : Own ts l) {i j : Nat} {x : Itm} (hx : l[i]? = some x) (hy : l[j]? = some (mirrorI ts x)) : cAt ts l i = cAt ts l j := by
  have h1 := O.cAt_at hx
  have h2 := O.cAt_at hy
  rw [mir_mir ts x (O.ok x (List.mem_of_getElem? hx)).1, minI_comm] at h2
  exact asc_inj O.asc h1 h2
theorem Own.c_c (O : Own ts l) {i : Nat} (hi : i < l.length) : cAt ts l (cAt ts l i) = cAt ts l i := by
  have hx := List.getElem?_eq_getElem hi
  have hc := O.cAt_at hx
  rcases minI_or l[i] (mirrorI ts l[i]) with h | ⟨h, hl⟩
  · rw [h] at hc
    rw [asc_inj O.asc hc hx]
    exact asc_inj O.asc (O.cAt_at hx) (by rw [h]; exact hx)
  · rw [h] at hc
    exact (O.c_mir hx hc).symm
end
/-! ### the menu -/
def mkMenu (l : List Itm) (ws : List Int) : Menu := (l.zip ws).map fun q => (q.1, red (q.2, ws.sum))
structure WideM (ts : List Tie) (own : Bool) (m : Menu) : Prop where
  ne : m ≠ []
  asc : ascends (m.map (·.1)) = true
  fits : (m.all fun r => fitsT ts r.1) = true
  pos : (m.all fun r => decide (1 ≤ r.2.1)) = true
  sum : sumF (m.map (·.2)) = (1, 1)
  mir : own = true → (m.all fun r => m.contains (mirrorI ts r.1, r.2)) = true
  len : m.length ≤ 6
  rows : ∀ r ∈ m, ItmOk r.1 ∧ isShare r.2 = true
theorem sum_bd : ∀ ws : List Int, (∀ w ∈ ws, 1 ≤ w ∧ w ≤ 3) → (ws.length : Int) ≤ ws.sum ∧ ws.sum ≤ 3 * ws.length
  | [], _ => by simp
  | w :: ws, h => by
    have h1 := h w List.mem_cons_self
    have h2 := sum_bd ws fun z hz => h z (List.mem_cons_of_mem _ hz)
    rw [List.sum_cons, List.length_cons]
    omega
theorem wide_ok {ts : List Tie} {own : Bool} {l : List Itm} {ws : List Int} (ht : ts.length ≤ 3) (ha : l.Pairwise (fun x y => HT.lexLt x y = true)) (hk : ∀ x ∈ l, okI ts x) (hl : l.length ≤ 6) (hne : l ≠ []) (hw : ws.length = l.length) (hb : ∀ w ∈ ws, 1 ≤ w ∧ w ≤ 3)
    (hm : own = true → (∀ x ∈ l, mirrorI ts x ∈ l) ∧ ∀ (i j : Nat) (x : Itm), l[i]? = some x → l[j]? = some (mirrorI ts x) → ws[i]? = ws[j]?) : WideM ts own (mkMenu l ws) := by
  have hs := sum_bd ws hb
  have hpos : 0 < l.length := List.length_pos_iff.mpr hne
  have S1 : 1 ≤ ws.sum := by omega
  have S2 : ws.sum ≤ 20 := by omega
  have e1 : (mkMenu l ws).map (·.1) = l := by
    unfold mkMenu
    rw [List.map_map]
    show (l.zip ws).map Prod.fst = l
    rw [List.map_fst_zip (by omega)]
  have e2 : (mkMenu l ws).map (·.2) = ws.map fun w => red (w, ws.sum) := by
    unfold mkMenu
    rw [List.map_map]
    show (l.zip ws).map ((fun w => red (w, ws.sum)) ∘ Prod.snd) = _
    rw [← List.map_map, List.map_snd_zip (by omega)]
  have mem : ∀ r ∈ mkMenu l ws, ∃ (i : Nat) (w : Int), l[i]? = some r.1 ∧ ws[i]? = some w ∧ r.2 = red (w, ws.sum) := by
    intro r hr
    obtain ⟨q, hq, rfl⟩ := List.mem_map.mp hr
    obtain ⟨i, hi⟩ := List.mem_iff_getElem?.mp hq
    rw [List.getElem?_zip_eq_some] at hi
    exact ⟨i, q.2, hi.1, hi.2, rfl⟩
  refine ⟨fun z => ?_, by rw [e1]; exact asc_of l ha, List.all_eq_true.mpr fun r hr => ?_, List.all_eq_true.mpr fun r hr => ?_, by rw [e2]; exact sum_whole S1, fun ho => List.all_eq_true.mpr fun r hr => ?_, ?_, fun r hr => ?_⟩
  · rw [z] at e1
    exact hne e1.symm
  · obtain ⟨i, w, h1, _, _⟩ := mem r hr
    exact (hk _ (List.mem_of_getElem? h1)).fits
  · obtain ⟨i, w, h1, h2, h3⟩ := mem r hr
    rw [h3]
    exact decide_eq_true (red_pos (hb w (List.mem_of_getElem? h2)).1 S1).1
  · obtain ⟨i, w, h1, h2, h3⟩ := mem r hr
    obtain ⟨m1, m2⟩ := hm ho
    obtain ⟨j, hj⟩ := List.mem_iff_getElem?.mp (m1 _ (List.mem_of_getElem? h1))
    have hwj := m2 i j _ h1 hj
    rw [List.contains_iff_mem]
    refine List.mem_map.mpr ⟨(mirrorI ts r.1, w), List.mem_of_getElem? (i := j) (List.getElem?_zip_eq_some.mpr ⟨hj, by rw [← hwj]; exact h2⟩), ?_⟩
    rw [h3]
  · unfold mkMenu
    rw [List.length_map, List.length_zip]
    omega
  · obtain ⟨i, w, h1, h2, h3⟩ := mem r hr
    have hw3 := hb w (List.mem_of_getElem? h2)
    exact ⟨(hk _ (List.mem_of_getElem? h1)).itm ht, by rw [h3]; exact red_share hw3.1 hw3.2 S1 S2⟩
end K76
set_option Elab.async false
set_option linter.all false
set_option maxRecDepth 100000
set_option maxHeartbeats 4000000
set_option autoImplicit false
namespace K76
open PySem PySem.Spec PyProof.Rows L2
local macro_rules | `(tactic| walk_at "nm") => `(tactic| (refine Dl.d_nm (s := ?nmS) ?nmA ?nmB ?_; (case nmA => rfl); (case nmB => rfl)))
local macro_rules | `(tactic| walk_at "fr") => `(tactic| first | assumption)
local macro_rules | `(tactic| walk_at "name") => `(tactic| first
  | walk_at "nm"
  | ((with_reducible show Dl.dE _ _ (Expr.Name "int" _) _ _ _); refine Dl.d_t_int ?frA ?frB ?_; (case frA => walk_at "fr"); (case frB => rfl))
  | ((with_reducible show Dl.dE _ _ (Expr.Name "tuple" _) _ _ _); refine Dl.d_t_tuple ?frA ?frB ?_; (case frA => walk_at "fr"); (case frB => rfl))
  | ((with_reducible show Dl.dE _ _ (Expr.Name "list" _) _ _ _); refine Dl.d_t_list ?frA ?frB ?_; (case frA => walk_at "fr"); (case frB => rfl))
  | ((with_reducible show Dl.dE _ _ (Expr.Name "str" _) _ _ _); refine Dl.d_t_str ?frA ?frB ?_; (case frA => walk_at "fr"); (case frB => rfl))
  | ((with_reducible show Dl.dE _ _ (Expr.Name "bool" _) _ _ _); refine Dl.d_t_bool ?frA ?frB ?_; (case frA => walk_at "fr"); (case frB => rfl))
  | ((with_reducible show Dl.dE _ _ (Expr.Name "set" _) _ _ _); refine Dl.d_t_set ?frA ?frB ?_; (case frA => walk_at "fr"); (case frB => rfl))
  | walk_at "glob")
local macro_rules | `(tactic| walk_at "glob") => `(tactic| first
  | (refine Dl.d_globInt (i := ?gI) ?gA ?gB ?_; (case gA => rfl); (case gB => assumption))
  | (refine Dl.d_globStr (i := ?gI) ?gA ?gB ?_; (case gA => rfl); (case gB => assumption)))
local macro_rules | `(tactic| walk_at "call") => `(tactic| first
  | ((with_reducible show Dl.dE _ _ (Expr.Call (Expr.Name "isinstance" _) _ _ _) _ _ _); refine Dl.d_b_isinstance ?frA ?frB ?_; (case frA => walk_at "fr"); (case frB => rfl))
  | ((with_reducible show Dl.dE _ _ (Expr.Call (Expr.Name "len" _) _ _ _) _ _ _); refine Dl.d_b_len ?frA ?frB ?_; (case frA => walk_at "fr"); (case frB => rfl))
  | ((with_reducible show Dl.dE _ _ (Expr.Call (Expr.Name "all" _) _ _ _) _ _ _); refine Dl.d_b_all ?frA ?frB ?_; (case frA => walk_at "fr"); (case frB => rfl))
  | ((with_reducible show Dl.dE _ _ (Expr.Call (Expr.Name "any" _) _ _ _) _ _ _); refine Dl.d_b_any ?frA ?frB ?_; (case frA => walk_at "fr"); (case frB => rfl))
  | ((with_reducible show Dl.dE _ _ (Expr.Call (Expr.Name "abs" _) _ _ _) _ _ _); refine Dl.d_b_abs ?frA ?frB ?_; (case frA => walk_at "fr"); (case frB => rfl))
  | ((with_reducible show Dl.dE _ _ (Expr.Call (Expr.Name "sum" _) _ _ _) _ _ _); refine Dl.d_b_sum ?frA ?frB ?_; (case frA => walk_at "fr"); (case frB => rfl))
  | ((with_reducible show Dl.dE _ _ (Expr.Call (Expr.Name "min" _) _ _ _) _ _ _); refine Dl.d_b_min ?frA ?frB ?_; (case frA => walk_at "fr"); (case frB => rfl))
  | ((with_reducible show Dl.dE _ _ (Expr.Call (Expr.Name "max" _) _ _ _) _ _ _); refine Dl.d_b_max ?frA ?frB ?_; (case frA => walk_at "fr"); (case frB => rfl))
  | ((with_reducible show Dl.dE _ _ (Expr.Call (Expr.Name "sorted" _) _ _ _) _ _ _); refine Dl.d_b_sorted ?frA ?frB ?_; (case frA => walk_at "fr"); (case frB => rfl))
  | ((with_reducible show Dl.dE _ _ (Expr.Call (Expr.Name "int" _) _ _ _) _ _ _); refine Dl.d_c_int ?frA ?frB ?_; (case frA => walk_at "fr"); (case frB => rfl))
  | ((with_reducible show Dl.dE _ _ (Expr.Call (Expr.Name "tuple" _) _ _ _) _ _ _); refine Dl.d_c_tuple ?frA ?frB ?_; (case frA => walk_at "fr"); (case frB => rfl))
  | ((with_reducible show Dl.dE _ _ (Expr.Call (Expr.Name "list" _) _ _ _) _ _ _); refine Dl.d_c_list ?frA ?frB ?_; (case frA => walk_at "fr"); (case frB => rfl))
  | ((with_reducible show Dl.dE _ _ (Expr.Call (Expr.Name "str" _) _ _ _) _ _ _); refine Dl.d_c_str ?frA ?frB ?_; (case frA => walk_at "fr"); (case frB => rfl))
  | ((with_reducible show Dl.dE _ _ (Expr.Call (Expr.Name "bool" _) _ _ _) _ _ _); refine Dl.d_c_bool ?frA ?frB ?_; (case frA => walk_at "fr"); (case frB => rfl))
  | ((with_reducible show Dl.dE _ _ (Expr.Call (Expr.Name "set" _) _ _ _) _ _ _); refine Dl.d_c_set ?frA ?frB ?_; (case frA => walk_at "fr"); (case frB => rfl))
  | (refine Dl.d_fn (j := ?fnJ) (S := ?fnS) ?fnA ?fnB ?fnC ?_; (case fnA => assumption); (case fnB => exact Nat.le_of_ble_eq_true rfl); (case fnC => rfl)))
local macro_rules | `(tactic| walk_at "ed") => `(tactic| ((with_reducible show Dl.dE _ _ _ _ _ _); first
  | ((with_reducible show Dl.dE _ _ (Expr.Name _ _) _ _ _); walk_at "name")
  | ((with_reducible show Dl.dE _ _ (Expr.Constant (Const.int _) _ _) _ _ _); refine Dl.d_int ?_)
  | ((with_reducible show Dl.dE _ _ (Expr.Constant (Const.str _) _ _) _ _ _); refine Dl.d_str ?_)
  | ((with_reducible show Dl.dE _ _ (Expr.Constant (Const.bool _) _ _) _ _ _); refine Dl.d_bool ?_)
  | ((with_reducible show Dl.dE _ _ (Expr.Constant Const.none _ _) _ _ _); refine Dl.d_none ?_)
  | ((with_reducible show Dl.dE _ _ (Expr.Call (Expr.Name _ _) [_, Expr.Tuple [Expr.Name _ _, Expr.Name _ _] _ _] _ _) _ _ _); (refine Dl.d_isi2 ?frA ?frB ?frC ?frD ?frE ?frF ?_; (case frA => walk_at "fr"); (case frB => walk_at "fr"); (case frC => walk_at "fr"); (case frD => rfl); (case frE => rfl); (case frF => rfl)))
  | ((with_reducible show Dl.dE _ _ (Expr.Call (Expr.Name _ _) _ _ _) _ _ _); walk_at "call")
  | ((with_reducible show Dl.dE _ _ (Expr.BoolOp _ [_] _) _ _ _); refine Dl.d_one ?_)
  | ((with_reducible show Dl.dE _ _ (Expr.BoolOp BoolOp.And _ _) _ _ _); refine Dl.d_and ?_)
  | ((with_reducible show Dl.dE _ _ (Expr.BoolOp BoolOp.Or _ _) _ _ _); refine Dl.d_or ?_)
  | ((with_reducible show Dl.dE _ _ (Expr.UnaryOp UnaryOp.Not _ _) _ _ _); refine Dl.d_not ?_)
  | ((with_reducible show Dl.dE _ _ (Expr.UnaryOp UnaryOp.USub _ _) _ _ _); refine Dl.d_neg ?_)
  | ((with_reducible show Dl.dE _ _ (Expr.BinOp _ _ _ _) _ _ _); refine Dl.d_bin ?_)
  | ((with_reducible show Dl.dE _ _ (Expr.Compare _ [_] _ _) _ _ _); refine Dl.d_cmp ?_)
  | ((with_reducible show Dl.dE _ _ (Expr.Compare _ [_, _] _ _) _ _ _); refine Dl.d_chain ?_)
  | ((with_reducible show Dl.dE _ _ (Expr.IfExp _ _ _ _) _ _ _); refine Dl.d_if ?_)
  | ((with_reducible show Dl.dE _ _ (Expr.Tuple _ _ _) _ _ _); refine Dl.d_tup ?_)
  | ((with_reducible show Dl.dE _ _ (Expr.List _ _) _ _ _); refine Dl.d_lst ?_)
  | ((with_reducible show Dl.dE _ _ (Expr.Subscript _ (Expr.Slice _ _ _ _) _) _ _ _); refine Dl.d_slice ?_)
  | ((with_reducible show Dl.dE _ _ (Expr.Subscript _ _ _) _ _ _); refine Dl.d_ix ?_)))
local macro_rules | `(tactic| walk_at "ad") => `(tactic| ((with_reducible show Dl.dA _ _ _ _ _ _); first | refine Dl.a_nil ?_ | refine Dl.a_cons ?_))
local macro_rules | `(tactic| walk_at "td") => `(tactic| first
  | ((with_reducible show Dl.dT _ _ (Expr.UnaryOp UnaryOp.Not _ _) _ _ _); refine Dl.t_not ?_)
  | ((with_reducible show Dl.dT _ _ (Expr.BoolOp _ _ _) _ _ _); refine Dl.t_bool ?_)
  | ((with_reducible show Dl.dT _ _ (Expr.Compare _ [_] _ _) _ _ _); refine Dl.t_cmp ?_)
  | ((with_reducible show Dl.dT _ _ (Expr.Compare _ [_, _] _ _) _ _ _); refine Dl.t_chain ?_)
  | ((with_reducible show Dl.dT _ _ (_) _ _ _); refine Dl.t_val ?_)
  | ((with_reducible show Dl.dW _ _ (Expr.BoolOp BoolOp.And [_] _) _ _ _); refine Dl.w_and1 ?_)
  | ((with_reducible show Dl.dW _ _ (Expr.BoolOp BoolOp.Or [_] _) _ _ _); refine Dl.w_or1 ?_)
  | ((with_reducible show Dl.dW _ _ (Expr.BoolOp BoolOp.And _ _) _ _ _); refine Dl.w_and ?_)
  | ((with_reducible show Dl.dW _ _ (Expr.BoolOp BoolOp.Or _ _) _ _ _); refine Dl.w_or ?_))
local macro_rules | `(tactic| walk_at "od") => `(tactic| ((with_reducible show Dl.OpD _ _ _ _ _ _); first
  | refine Dl.o_add ?_ | refine Dl.o_sub ?_ | refine Dl.o_lt ?_ | refine Dl.o_le ?_ | refine Dl.o_gt ?_ | refine Dl.o_ge ?_ | refine Dl.o_eq ?_ | refine Dl.o_ne ?_ | refine Dl.o_eqS ?_ | refine Dl.o_mul ?_ ?_ | refine Dl.o_mod ?_ ?_ | refine Dl.o_fdivW ?_ ?_ | refine Dl.o_inS ?_ | refine Dl.o_notInS ?_
  | refine Dl.o_isN ?_ | refine Dl.o_notN ?_))
local macro_rules | `(tactic| walk_at "cd") => `(tactic| ((with_reducible show Dl.CallD _ _ _ _ _); first
  | refine Dl.c_lenT ?_ | refine Dl.c_lenL ?_ | refine Dl.c_lenO ?_ | refine Dl.c_abs ?_ | refine Dl.c_int ?_ | refine Dl.c_lenS ?_ ?_ | refine Dl.c_allT ?_
  | refine Dl.c_isInt ?_ | refine Dl.c_isBool ?_ | refine Dl.c_isStr ?_ | refine Dl.c_isTuple ?_ | refine Dl.c_isList ?_
  | refine Dl.c_allF ?_ | refine Dl.c_tupL ?_ | refine Dl.c_tupT ?_))
local macro_rules | `(tactic| walk_at "sd") => `(tactic| first
  | ((with_reducible show Dl.dS _ _ _ (Stmt.Return (some _) _) _ _ _ _); refine Dl.s_ret ?_)
  | ((with_reducible show Dl.dS _ _ _ (Stmt.Assign [Expr.Tuple [Expr.Name _ _, Expr.Name _ _] _ _] (Expr.Tuple [_, _] _ _) _) _ _ _ _); (refine Dl.s_pr (i := ?stI) (j := ?stJ) ?stA ?stB ?stC ?stD ?stE ?_; (case stA => rfl); (case stB => rfl); (case stC => rfl); (case stD => rfl); (case stE => rfl)))
  | ((with_reducible show Dl.dS _ _ _ (Stmt.If _ _ _ _) _ _ _ _); refine Dl.s_if ?_)
  | ((with_reducible show Dl.dS _ _ _ (Stmt.Assign [Expr.Name _ _] _ _) _ _ _ _); (refine Dl.s_st (i := ?stI) ?stA ?stB ?stC ?_; (case stA => rfl); (case stB => rfl); (case stC => rfl)))
  | ((with_reducible show Dl.dS _ _ _ (Stmt.Expr _ _) _ _ _ _); refine Dl.s_expr ?_)
  | ((with_reducible show Dl.dSs _ _ _ _ _ _ _ _); first | refine Dl.s_cons ?_ | refine Dl.s_nil ?_))
local macro_rules | `(tactic| walk_at "xd") => `(tactic| ((with_reducible show Dl.IxD _ _ _ _ _); first | (refine Dl.x_T (d := ?ixD) ?ixE ?_; (case ixE => rfl)) | (refine Dl.x_L (d := ?ixD) ?ixE ?_; (case ixE => rfl)) | (refine Dl.x_O (d := ?ixD) ?ixE ?_; (case ixE => rfl))))
local macro_rules | `(tactic| walk_at "ds") => `(tactic| (refine Dl.ex_dats (ds := ?dsW) ?dsA ?dsB ?_; (case dsA => rfl); (case dsB => rfl)))
local macro_rules | `(tactic| walk_at "dl") => `(tactic| first
  | walk_at "ds"
  | walk_at "ed"
  | walk_at "ad"
  | walk_at "td"
  | walk_at "od"
  | walk_at "cd"
  | walk_at "sd"
  | walk_at "xd"
  | ((with_reducible refine ⟨_, rfl, fun hc => ?_, fun hc => ?_⟩) <;> (first | contradiction | (exfalso; revert hc; simp [Dl.isTy, Dl.tyD]; done) | skip))
  | ((with_reducible refine ⟨fun hc => ?_, fun hc => ?_⟩) <;> (first | contradiction | (exfalso; revert hc; simp [Dl.isTy, Dl.tyD]; done) | skip))
  | (refine ⟨_, _, rfl, rfl, ?_⟩)
  | (refine ⟨rfl, ?_⟩)
  | (with_reducible refine ⟨_, rfl, ?_⟩)
  | (refine ⟨(_, _), rfl, ?_⟩)
  | (refine ⟨(_, _, _), rfl, ?_⟩)
  | (refine ⟨True.intro, fun _ hs => ?_, fun _ hx => False.elim hx⟩; replace hs : _ = Dl.Sl.dat _ := hs; subst hs)
  | (refine ⟨by assumption, fun _ hs => ?_, fun _ hx => False.elim hx⟩; replace hs : _ = Dl.Sl.dat _ := hs; subst hs)
  | fail)
/-! ### an order drawn -/
def mixSpec : Dl.Spec where
  α := List PyData
  arg ds := [.bag, .dat (.list ds)]
  pre ds := ds.length ≤ 1000
  post ds s := ∃ es : List PyData, es.Perm ds ∧ s = .dat (.list es)
theorem perm_ins {α : Type} {es ds : List α} {k : Nat} {x : α} (h : es.Perm ds) : (es.take k ++ [x] ++ es.drop k).Perm (ds ++ [x]) := by
  have h1 : (es.take k ++ [x] ++ es.drop k).Perm (es.take k ++ es.drop k ++ [x]) := by
    rw [List.append_assoc, List.append_assoc]
    exact List.Perm.append_left _ List.perm_append_comm
  rw [List.take_append_drop] at h1
  exact h1.trans (h.append_right _)
section
variable {G : Dl.Gd}
theorem ok_mixed (T : Top G) : Dl.Fn G 2 "_law_mixed" mixSpec := by
  have f1 := fr_len T
  have h1 := ok_take T
  refine mk__law_mixed T (fun _ => rfl) fun cdv M0 (ds : List PyData) hp => ?_
  have hl : ds.length ≤ 1000 := hp
  refine Dl.s_cons (Dl.s_new (i := 2) rfl rfl rfl (Dl.a_nil (Dl.ex_dats (ds := []) rfl rfl fun D d0 d1 => ?_)))
  refine Dl.s_cons (Dl.s_forT ds id [3] (fun i M Γ => M = D :: M0 ∧ ∃ (es : List PyData) (g : Option PyData), es.Perm (ds.take i) ∧ Γ = [some .bag, some (.dat (.list ds)), some (.own D es), g.map Dl.Sl.dat]) ?_)
  refine Dl.i_list (Dl.d_nm (s := .dat (.list ds)) rfl rfl ⟨_, rfl, by simp, ⟨rfl, [], none, .refl _, rfl⟩, fun i x M Γ hx hI => ?_, fun M Γ hI => ?_⟩)
  · obtain ⟨rfl, es, g, pm, rfl⟩ := hI
    have el : es.length = i := by
      rw [pm.length_eq, List.length_take]
      have := (List.getElem?_eq_some_iff.mp hx).1
      omega
    have hi := (List.getElem?_eq_some_iff.mp hx).1
    refine Dl.g_nm (i := 3) rfl rfl ?_
    refine Dl.s_cons (Dl.s_insert (i := 2) (ds := es) (ad := D) rfl rfl rfl (by cases g <;> rfl) d0 (by rw [el, sizeLine_eq]; omega) ?_)
    repeat' walk_at "dl"
    have tp : takeSpec.pre (es.length + 1) := ⟨by omega, by omega⟩
    refine ⟨tp, fun s hs => ?_, fun _ h => h.elim⟩
    obtain ⟨k, hk, rfl⟩ := hs
    have hk : k < es.length + 1 := hk
    repeat' walk_at "dl"
    refine ⟨k, x, rfl, by omega, rfl, Dl.s_nil ⟨rfl, es.take k ++ [x] ++ es.drop k, some x, ?_, rfl⟩⟩
    rw [List.take_add_one, hx]
    exact perm_ins pm
  · obtain ⟨rfl, es, g, pm, rfl⟩ := hI
    rw [List.take_length] at pm
    refine Dl.s_freeze (x := "found") (i := 2) rfl rfl (by cases g <;> rfl) d0 d1 ?_
    repeat' walk_at "dl"
    exact ⟨es, pm, rfl⟩
/-! ### fractions -/
def rawFracSpec : Dl.Spec where
  α := Sh
  arg a := [.dat (.int a.1), .dat (.int a.2)]
  pre a := 0 < a.2 ∧ a.2 < 2 ^ 4000
  post a s := s = .dat (eSh (red a))
theorem gcd_emod (a : Int) (b : Nat) (h : 0 < b) : Nat.gcd b (a % (b : Int)).toNat = Nat.gcd a.natAbs b := by
  have h1 : Int.gcd (b : Int) (a % (b : Int)) = Int.gcd (b : Int) a := by
    have := Int.gcd_add_mul_left_right (b : Int) (a % (b : Int)) (a / (b : Int))
    rw [Int.emod_add_mul_ediv] at this
    exact this.symm
  have h2 := Int.emod_nonneg a (show (b : Int) ≠ 0 by omega)
  have h3 : (a % (b : Int)).natAbs = (a % (b : Int)).toNat := by omega
  have e1 : Int.gcd (b : Int) (a % (b : Int)) = Nat.gcd b (a % (b : Int)).natAbs := rfl
  have e2 : Int.gcd (b : Int) a = Nat.gcd b a.natAbs := rfl
  rw [e1, e2, h3] at h1
  rw [h1, Nat.gcd_comm]
theorem ok_fraction (T : Top G) : Dl.Fn G 1 "_law_fraction" rawFracSpec := by
  refine mk__law_fraction T (fun _ => rfl) fun cdv M0 ⟨x, y⟩ hp => ?_
  have b1 : 0 < y := hp.1
  have b2 : y < 2 ^ 4000 := hp.2
  obtain ⟨g1, g2⟩ := gcd_le_of_pos (x := x) b1
  repeat' walk_at "dl"
  refine Dl.s_while (fun m M Γ => M = M0 ∧ ∃ (a : Int) (b : Nat), Γ = [some (.dat (.int x)), some (.dat (.int y)), some (.dat (.int a)), some (.dat (.int (b : Nat)))] ∧ m = b ∧ Nat.gcd a.natAbs b = Nat.gcd x.natAbs y.natAbs ∧ (b = 0 → 0 ≤ a)) y.natAbs ⟨rfl, x, y.toNat, by rw [Int.toNat_of_nonneg (by omega)]; rfl, by omega, by rw [show y.toNat = y.natAbs by omega], by omega⟩ fun m M Γ hI => ?_
  obtain ⟨rfl, a, b, rfl, rfl, hg, ha⟩ := hI
  repeat' walk_at "dl"
  · rename_i hc
    simp at hc
    omega
  · rename_i hc
    have hc : (0 : Int) < (m : Nat) := by simpa using hc
    have h2 := Int.emod_nonneg a (show (m : Int) ≠ 0 by omega)
    have h3 := Int.emod_lt_of_pos a (show (0 : Int) < m by omega)
    refine ⟨(a % (m : Int)).toNat, by omega, rfl, (m : Int), (a % (m : Int)).toNat, by rw [Int.toNat_of_nonneg h2]; rfl, rfl, ?_, fun _ => by omega⟩
    rw [Int.natAbs_natCast, gcd_emod a m (by omega), hg]
  · rename_i hc
    have hc : ¬ (0 : Int) < (m : Nat) := by simpa using hc
    have hm : m = 0 := by omega
    subst hm
    rw [Nat.gcd_zero_right] at hg
    have ha' := ha rfl
    exact ⟨by omega, by omega⟩
  · rename_i hc
    have hc : ¬ (0 : Int) < (m : Nat) := by simpa using hc
    have hm : m = 0 := by omega
    subst hm
    rw [Nat.gcd_zero_right] at hg
    have ha' := ha rfl
    exact ⟨by omega, by omega⟩
  · rename_i hc
    have hc : ¬ (0 : Int) < (m : Nat) := by simpa using hc
    have hm : m = 0 := by omega
    subst hm
    rw [Nat.gcd_zero_right] at hg
    have ha' := ha rfl
    have e : a = (Nat.gcd x.natAbs y.natAbs : Int) := by omega
    subst e
    exact rfl
end
end K76
set_option Elab.async false
set_option linter.all false
set_option maxRecDepth 100000
set_option maxHeartbeats 4000000
set_option autoImplicit false
namespace K76
open PySem PySem.Spec PyProof.Rows L2
local macro_rules | `(tactic| walk_at "nm") => `(tactic| (refine Dl.d_nm (s := ?nmS) ?nmA ?nmB ?_; (case nmA => rfl); (case nmB => rfl)))
local macro_rules | `(tactic| walk_at "fr") => `(tactic| first | assumption)
local macro_rules | `(tactic| walk_at "name") => `(tactic| first
  | walk_at "nm"
  | ((with_reducible show Dl.dE _ _ (Expr.Name "int" _) _ _ _); refine Dl.d_t_int ?frA ?frB ?_; (case frA => walk_at "fr"); (case frB => rfl))
  | ((with_reducible show Dl.dE _ _ (Expr.Name "tuple" _) _ _ _); refine Dl.d_t_tuple ?frA ?frB ?_; (case frA => walk_at "fr"); (case frB => rfl))
  | ((with_reducible show Dl.dE _ _ (Expr.Name "list" _) _ _ _); refine Dl.d_t_list ?frA ?frB ?_; (case frA => walk_at "fr"); (case frB => rfl))
  | ((with_reducible show Dl.dE _ _ (Expr.Name "str" _) _ _ _); refine Dl.d_t_str ?frA ?frB ?_; (case frA => walk_at "fr"); (case frB => rfl))
  | ((with_reducible show Dl.dE _ _ (Expr.Name "bool" _) _ _ _); refine Dl.d_t_bool ?frA ?frB ?_; (case frA => walk_at "fr"); (case frB => rfl))
  | ((with_reducible show Dl.dE _ _ (Expr.Name "set" _) _ _ _); refine Dl.d_t_set ?frA ?frB ?_; (case frA => walk_at "fr"); (case frB => rfl))
  | walk_at "glob")
local macro_rules | `(tactic| walk_at "glob") => `(tactic| first
  | (refine Dl.d_globInt (i := ?gI) ?gA ?gB ?_; (case gA => rfl); (case gB => assumption))
  | (refine Dl.d_globStr (i := ?gI) ?gA ?gB ?_; (case gA => rfl); (case gB => assumption)))
local macro_rules | `(tactic| walk_at "call") => `(tactic| first
  | ((with_reducible show Dl.dE _ _ (Expr.Call (Expr.Name "isinstance" _) _ _ _) _ _ _); refine Dl.d_b_isinstance ?frA ?frB ?_; (case frA => walk_at "fr"); (case frB => rfl))
  | ((with_reducible show Dl.dE _ _ (Expr.Call (Expr.Name "len" _) _ _ _) _ _ _); refine Dl.d_b_len ?frA ?frB ?_; (case frA => walk_at "fr"); (case frB => rfl))
  | ((with_reducible show Dl.dE _ _ (Expr.Call (Expr.Name "all" _) _ _ _) _ _ _); refine Dl.d_b_all ?frA ?frB ?_; (case frA => walk_at "fr"); (case frB => rfl))
  | ((with_reducible show Dl.dE _ _ (Expr.Call (Expr.Name "any" _) _ _ _) _ _ _); refine Dl.d_b_any ?frA ?frB ?_; (case frA => walk_at "fr"); (case frB => rfl))
  | ((with_reducible show Dl.dE _ _ (Expr.Call (Expr.Name "abs" _) _ _ _) _ _ _); refine Dl.d_b_abs ?frA ?frB ?_; (case frA => walk_at "fr"); (case frB => rfl))
  | ((with_reducible show Dl.dE _ _ (Expr.Call (Expr.Name "sum" _) _ _ _) _ _ _); refine Dl.d_b_sum ?frA ?frB ?_; (case frA => walk_at "fr"); (case frB => rfl))
  | ((with_reducible show Dl.dE _ _ (Expr.Call (Expr.Name "min" _) _ _ _) _ _ _); refine Dl.d_b_min ?frA ?frB ?_; (case frA => walk_at "fr"); (case frB => rfl))
  | ((with_reducible show Dl.dE _ _ (Expr.Call (Expr.Name "max" _) _ _ _) _ _ _); refine Dl.d_b_max ?frA ?frB ?_; (case frA => walk_at "fr"); (case frB => rfl))
  | ((with_reducible show Dl.dE _ _ (Expr.Call (Expr.Name "sorted" _) _ _ _) _ _ _); refine Dl.d_b_sorted ?frA ?frB ?_; (case frA => walk_at "fr"); (case frB => rfl))
  | ((with_reducible show Dl.dE _ _ (Expr.Call (Expr.Name "int" _) _ _ _) _ _ _); refine Dl.d_c_int ?frA ?frB ?_; (case frA => walk_at "fr"); (case frB => rfl))
  | ((with_reducible show Dl.dE _ _ (Expr.Call (Expr.Name "tuple" _) _ _ _) _ _ _); refine Dl.d_c_tuple ?frA ?frB ?_; (case frA => walk_at "fr"); (case frB => rfl))
  | ((with_reducible show Dl.dE _ _ (Expr.Call (Expr.Name "list" _) _ _ _) _ _ _); refine Dl.d_c_list ?frA ?frB ?_; (case frA => walk_at "fr"); (case frB => rfl))
  | ((with_reducible show Dl.dE _ _ (Expr.Call (Expr.Name "str" _) _ _ _) _ _ _); refine Dl.d_c_str ?frA ?frB ?_; (case frA => walk_at "fr"); (case frB => rfl))
  | ((with_reducible show Dl.dE _ _ (Expr.Call (Expr.Name "bool" _) _ _ _) _ _ _); refine Dl.d_c_bool ?frA ?frB ?_; (case frA => walk_at "fr"); (case frB => rfl))
  | ((with_reducible show Dl.dE _ _ (Expr.Call (Expr.Name "set" _) _ _ _) _ _ _); refine Dl.d_c_set ?frA ?frB ?_; (case frA => walk_at "fr"); (case frB => rfl))
  | (refine Dl.d_fn (j := ?fnJ) (S := ?fnS) ?fnA ?fnB ?fnC ?_; (case fnA => assumption); (case fnB => exact Nat.le_of_ble_eq_true rfl); (case fnC => rfl)))
local macro_rules | `(tactic| walk_at "ed") => `(tactic| ((with_reducible show Dl.dE _ _ _ _ _ _); first
  | ((with_reducible show Dl.dE _ _ (Expr.Name _ _) _ _ _); walk_at "name")
  | ((with_reducible show Dl.dE _ _ (Expr.Constant (Const.int _) _ _) _ _ _); refine Dl.d_int ?_)
  | ((with_reducible show Dl.dE _ _ (Expr.Constant (Const.str _) _ _) _ _ _); refine Dl.d_str ?_)
  | ((with_reducible show Dl.dE _ _ (Expr.Constant (Const.bool _) _ _) _ _ _); refine Dl.d_bool ?_)
  | ((with_reducible show Dl.dE _ _ (Expr.Constant Const.none _ _) _ _ _); refine Dl.d_none ?_)
  | ((with_reducible show Dl.dE _ _ (Expr.Call (Expr.Name _ _) [_, Expr.Tuple [Expr.Name _ _, Expr.Name _ _] _ _] _ _) _ _ _); (refine Dl.d_isi2 ?frA ?frB ?frC ?frD ?frE ?frF ?_; (case frA => walk_at "fr"); (case frB => walk_at "fr"); (case frC => walk_at "fr"); (case frD => rfl); (case frE => rfl); (case frF => rfl)))
  | ((with_reducible show Dl.dE _ _ (Expr.Call (Expr.Name _ _) _ _ _) _ _ _); walk_at "call")
  | ((with_reducible show Dl.dE _ _ (Expr.BoolOp _ [_] _) _ _ _); refine Dl.d_one ?_)
  | ((with_reducible show Dl.dE _ _ (Expr.BoolOp BoolOp.And _ _) _ _ _); refine Dl.d_and ?_)
  | ((with_reducible show Dl.dE _ _ (Expr.BoolOp BoolOp.Or _ _) _ _ _); refine Dl.d_or ?_)
  | ((with_reducible show Dl.dE _ _ (Expr.UnaryOp UnaryOp.Not _ _) _ _ _); refine Dl.d_not ?_)
  | ((with_reducible show Dl.dE _ _ (Expr.UnaryOp UnaryOp.USub _ _) _ _ _); refine Dl.d_neg ?_)
  | ((with_reducible show Dl.dE _ _ (Expr.BinOp _ _ _ _) _ _ _); refine Dl.d_bin ?_)
  | ((with_reducible show Dl.dE _ _ (Expr.Compare _ [_] _ _) _ _ _); refine Dl.d_cmp ?_)
  | ((with_reducible show Dl.dE _ _ (Expr.Compare _ [_, _] _ _) _ _ _); refine Dl.d_chain ?_)
  | ((with_reducible show Dl.dE _ _ (Expr.IfExp _ _ _ _) _ _ _); refine Dl.d_if ?_)
  | ((with_reducible show Dl.dE _ _ (Expr.Tuple _ _ _) _ _ _); refine Dl.d_tup ?_)
  | ((with_reducible show Dl.dE _ _ (Expr.List _ _) _ _ _); refine Dl.d_lst ?_)
  | ((with_reducible show Dl.dE _ _ (Expr.Subscript _ (Expr.Slice _ _ _ _) _) _ _ _); refine Dl.d_slice ?_)
  | ((with_reducible show Dl.dE _ _ (Expr.Subscript _ _ _) _ _ _); refine Dl.d_ix ?_)))
local macro_rules | `(tactic| walk_at "ad") => `(tactic| ((with_reducible show Dl.dA _ _ _ _ _ _); first | refine Dl.a_nil ?_ | refine Dl.a_cons ?_))
local macro_rules | `(tactic| walk_at "td") => `(tactic| first
  | ((with_reducible show Dl.dT _ _ (Expr.UnaryOp UnaryOp.Not _ _) _ _ _); refine Dl.t_not ?_)
  | ((with_reducible show Dl.dT _ _ (Expr.BoolOp _ _ _) _ _ _); refine Dl.t_bool ?_)
  | ((with_reducible show Dl.dT _ _ (Expr.Compare _ [_] _ _) _ _ _); refine Dl.t_cmp ?_)
  | ((with_reducible show Dl.dT _ _ (Expr.Compare _ [_, _] _ _) _ _ _); refine Dl.t_chain ?_)
  | ((with_reducible show Dl.dT _ _ (_) _ _ _); refine Dl.t_val ?_)
  | ((with_reducible show Dl.dW _ _ (Expr.BoolOp BoolOp.And [_] _) _ _ _); refine Dl.w_and1 ?_)
  | ((with_reducible show Dl.dW _ _ (Expr.BoolOp BoolOp.Or [_] _) _ _ _); refine Dl.w_or1 ?_)
  | ((with_reducible show Dl.dW _ _ (Expr.BoolOp BoolOp.And _ _) _ _ _); refine Dl.w_and ?_)
  | ((with_reducible show Dl.dW _ _ (Expr.BoolOp BoolOp.Or _ _) _ _ _); refine Dl.w_or ?_))
local macro_rules | `(tactic| walk_at "od") => `(tactic| ((with_reducible show Dl.OpD _ _ _ _ _ _); first
  | refine Dl.o_add ?_ | refine Dl.o_sub ?_ | refine Dl.o_lt ?_ | refine Dl.o_le ?_ | refine Dl.o_gt ?_ | refine Dl.o_ge ?_ | refine Dl.o_eq ?_ | refine Dl.o_ne ?_ | refine Dl.o_eqS ?_ | refine Dl.o_mul ?_ ?_ | refine Dl.o_mod ?_ ?_ | refine Dl.o_fdivW ?_ ?_ | refine Dl.o_inS ?_ | refine Dl.o_notInS ?_
  | refine Dl.o_isN ?_ | refine Dl.o_notN ?_))
local macro_rules | `(tactic| walk_at "cd") => `(tactic| ((with_reducible show Dl.CallD _ _ _ _ _); first
  | refine Dl.c_lenT ?_ | refine Dl.c_lenL ?_ | refine Dl.c_lenO ?_ | refine Dl.c_abs ?_ | refine Dl.c_int ?_ | refine Dl.c_lenS ?_ ?_ | refine Dl.c_allT ?_
  | refine Dl.c_isInt ?_ | refine Dl.c_isBool ?_ | refine Dl.c_isStr ?_ | refine Dl.c_isTuple ?_ | refine Dl.c_isList ?_
  | refine Dl.c_allF ?_ | refine Dl.c_tupL ?_ | refine Dl.c_tupT ?_))
local macro_rules | `(tactic| walk_at "sd") => `(tactic| first
  | ((with_reducible show Dl.dS _ _ _ (Stmt.Return (some _) _) _ _ _ _); refine Dl.s_ret ?_)
  | ((with_reducible show Dl.dS _ _ _ (Stmt.Assign [Expr.Tuple [Expr.Name _ _, Expr.Name _ _] _ _] (Expr.Tuple [_, _] _ _) _) _ _ _ _); (refine Dl.s_pr (i := ?stI) (j := ?stJ) ?stA ?stB ?stC ?stD ?stE ?_; (case stA => rfl); (case stB => rfl); (case stC => rfl); (case stD => rfl); (case stE => rfl)))
  | ((with_reducible show Dl.dS _ _ _ (Stmt.If _ _ _ _) _ _ _ _); refine Dl.s_if ?_)
  | ((with_reducible show Dl.dS _ _ _ (Stmt.Assign [Expr.Name _ _] _ _) _ _ _ _); (refine Dl.s_st (i := ?stI) ?stA ?stB ?stC ?_; (case stA => rfl); (case stB => rfl); (case stC => rfl)))
  | ((with_reducible show Dl.dS _ _ _ (Stmt.Expr _ _) _ _ _ _); refine Dl.s_expr ?_)
  | ((with_reducible show Dl.dSs _ _ _ _ _ _ _ _); first | refine Dl.s_cons ?_ | refine Dl.s_nil ?_))
local macro_rules | `(tactic| walk_at "xd") => `(tactic| ((with_reducible show Dl.IxD _ _ _ _ _); first | (refine Dl.x_T (d := ?ixD) ?ixE ?_; (case ixE => rfl)) | (refine Dl.x_L (d := ?ixD) ?ixE ?_; (case ixE => rfl)) | (refine Dl.x_O (d := ?ixD) ?ixE ?_; (case ixE => rfl))))
local macro_rules | `(tactic| walk_at "ds") => `(tactic| (refine Dl.ex_dats (ds := ?dsW) ?dsA ?dsB ?_; (case dsA => rfl); (case dsB => rfl)))
local macro_rules | `(tactic| walk_at "dl") => `(tactic| first
  | walk_at "ds"
  | walk_at "ed"
  | walk_at "ad"
  | walk_at "td"
  | walk_at "od"
  | walk_at "cd"
  | walk_at "sd"
  | walk_at "xd"
  | ((with_reducible refine ⟨_, rfl, fun hc => ?_, fun hc => ?_⟩) <;> (first | contradiction | (exfalso; revert hc; simp [Dl.isTy, Dl.tyD]; done) | skip))
  | ((with_reducible refine ⟨fun hc => ?_, fun hc => ?_⟩) <;> (first | contradiction | (exfalso; revert hc; simp [Dl.isTy, Dl.tyD]; done) | skip))
  | (refine ⟨_, _, rfl, rfl, ?_⟩)
  | (refine ⟨rfl, ?_⟩)
  | (with_reducible refine ⟨_, rfl, ?_⟩)
  | (refine ⟨(_, _), rfl, ?_⟩)
  | (refine ⟨(_, _, _), rfl, ?_⟩)
  | (refine ⟨True.intro, fun _ hs => ?_, fun _ hx => False.elim hx⟩; replace hs : _ = Dl.Sl.dat _ := hs; subst hs)
  | (refine ⟨by assumption, fun _ hs => ?_, fun _ hx => False.elim hx⟩; replace hs : _ = Dl.Sl.dat _ := hs; subst hs)
  | fail)
section
variable {G : Dl.Gd}
theorem ok_lmirror (T : Top G) : Dl.Fn G 1 "_law_mirror" mirSpec := by
  have f2 := fr_tuple T
  have f3 := fr_zip T
  refine mk__law_mirror T (fun _ => rfl) fun cdv M0 ⟨ts, x⟩ hp => ?_
  have ht : ts.length ≤ 3 := hp.1
  have hx : ∀ n ∈ x, 0 ≤ n ∧ n ≤ 3 := hp.2.2
  repeat' walk_at "dl"
  refine Dl.d_ofLc (Dl.l_T (QL := fun zs => zs = (mirrorI ts x).map PyData.int) (fun q : Int × Tie => .tuple [.int q.1, eTie q.2]) (fun q => .int (if q.2.2 then q.1 else turnI q.1)) (own := [("number", 2), ("name", 3), ("way", 4)]) (is := [2, 3, 4]) (by kernel_rfl) (by decide) ?_) ?_
  · refine Dl.i_zip rfl f3 (Dl.d_nm (s := .dat (.tuple (x.map .int))) rfl rfl (Dl.d_nm (s := .dat (.tuple (ts.map eTie))) rfl rfl (Or.inr ⟨_, _, rfl, rfl, x.zip ts, by rw [Dl.pairsT], by rw [Dl.pairsT, List.length_map, List.length_zip]; exact Nat.le_trans (Nat.min_le_right _ _) (Nat.le_trans ht (by decide)), fun D q hq => ?_, by unfold mirrorI; rw [List.map_map]; rfl⟩)))
    obtain ⟨n, c, b⟩ := q
    have hn : 0 ≤ n ∧ n ≤ 3 := hx n (List.of_mem_zip hq).1
    refine Dl.g_tup (ds := [.int n, .tuple [.str (nmS c), .str (wayS b)]]) (is := [2, 3, 4]) rfl (Dl.gs_cons (is := [2]) (js := [3, 4]) (Dl.g_nm (i := 2) rfl rfl (Dl.gs_cons (is := [3, 4]) (js := []) (Dl.g_tup (ds := [.str (nmS c), .str (wayS b)]) (is := [3, 4]) rfl (Dl.gs_cons (is := [3]) (js := [4]) (Dl.g_nm (i := 3) rfl rfl (Dl.gs_cons (is := [4]) (js := []) (Dl.g_nm (i := 4) rfl rfl (Dl.gs_nil (Dl.gs_nil ?_))))))))))
    have ht : atI [PyData.int 0, PyData.int 2, PyData.int 1, PyData.int 3] n = some (PyData.int (turnI n)) := by
      have : n = 0 ∨ n = 1 ∨ n = 2 ∨ n = 3 := by omega
      rcases this with rfl | rfl | rfl | rfl <;> rfl
    repeat' walk_at "dl"
    · rename_i hb
      have hb := (way_both b).mp (of_decide_eq_true hb)
      subst hb
      rfl
    · rename_i hb
      have hb : b = false := by
        cases b
        · rfl
        · exact absurd ((way_both true).mpr rfl) (of_decide_eq_false hb)
      subst hb
      exact Dl.x_T ht rfl
  · intro zs hz
    subst hz
    repeat' walk_at "dl"
    exact rfl
end
end K76
set_option Elab.async false
set_option linter.all false
set_option maxRecDepth 100000
set_option maxHeartbeats 4000000
set_option autoImplicit false
namespace K76
open PySem PySem.Spec PyProof.Rows L2
local macro_rules | `(tactic| walk_at "nm") => `(tactic| (refine Dl.d_nm (s := ?nmS) ?nmA ?nmB ?_; (case nmA => rfl); (case nmB => rfl)))
local macro_rules | `(tactic| walk_at "fr") => `(tactic| first | assumption)
local macro_rules | `(tactic| walk_at "name") => `(tactic| first
  | walk_at "nm"
  | ((with_reducible show Dl.dE _ _ (Expr.Name "int" _) _ _ _); refine Dl.d_t_int ?frA ?frB ?_; (case frA => walk_at "fr"); (case frB => rfl))
  | ((with_reducible show Dl.dE _ _ (Expr.Name "tuple" _) _ _ _); refine Dl.d_t_tuple ?frA ?frB ?_; (case frA => walk_at "fr"); (case frB => rfl))
  | ((with_reducible show Dl.dE _ _ (Expr.Name "list" _) _ _ _); refine Dl.d_t_list ?frA ?frB ?_; (case frA => walk_at "fr"); (case frB => rfl))
  | ((with_reducible show Dl.dE _ _ (Expr.Name "str" _) _ _ _); refine Dl.d_t_str ?frA ?frB ?_; (case frA => walk_at "fr"); (case frB => rfl))
  | ((with_reducible show Dl.dE _ _ (Expr.Name "bool" _) _ _ _); refine Dl.d_t_bool ?frA ?frB ?_; (case frA => walk_at "fr"); (case frB => rfl))
  | ((with_reducible show Dl.dE _ _ (Expr.Name "set" _) _ _ _); refine Dl.d_t_set ?frA ?frB ?_; (case frA => walk_at "fr"); (case frB => rfl))
  | walk_at "glob")
local macro_rules | `(tactic| walk_at "glob") => `(tactic| first
  | (refine Dl.d_globInt (i := ?gI) ?gA ?gB ?_; (case gA => rfl); (case gB => assumption))
  | (refine Dl.d_globStr (i := ?gI) ?gA ?gB ?_; (case gA => rfl); (case gB => assumption)))
local macro_rules | `(tactic| walk_at "call") => `(tactic| first
  | ((with_reducible show Dl.dE _ _ (Expr.Call (Expr.Name "isinstance" _) _ _ _) _ _ _); refine Dl.d_b_isinstance ?frA ?frB ?_; (case frA => walk_at "fr"); (case frB => rfl))
  | ((with_reducible show Dl.dE _ _ (Expr.Call (Expr.Name "len" _) _ _ _) _ _ _); refine Dl.d_b_len ?frA ?frB ?_; (case frA => walk_at "fr"); (case frB => rfl))
  | ((with_reducible show Dl.dE _ _ (Expr.Call (Expr.Name "all" _) _ _ _) _ _ _); refine Dl.d_b_all ?frA ?frB ?_; (case frA => walk_at "fr"); (case frB => rfl))
  | ((with_reducible show Dl.dE _ _ (Expr.Call (Expr.Name "any" _) _ _ _) _ _ _); refine Dl.d_b_any ?frA ?frB ?_; (case frA => walk_at "fr"); (case frB => rfl))
  | ((with_reducible show Dl.dE _ _ (Expr.Call (Expr.Name "abs" _) _ _ _) _ _ _); refine Dl.d_b_abs ?frA ?frB ?_; (case frA => walk_at "fr"); (case frB => rfl))
  | ((with_reducible show Dl.dE _ _ (Expr.Call (Expr.Name "sum" _) _ _ _) _ _ _); refine Dl.d_b_sum ?frA ?frB ?_; (case frA => walk_at "fr"); (case frB => rfl))
  | ((with_reducible show Dl.dE _ _ (Expr.Call (Expr.Name "min" _) _ _ _) _ _ _); refine Dl.d_b_min ?frA ?frB ?_; (case frA => walk_at "fr"); (case frB => rfl))
  | ((with_reducible show Dl.dE _ _ (Expr.Call (Expr.Name "max" _) _ _ _) _ _ _); refine Dl.d_b_max ?frA ?frB ?_; (case frA => walk_at "fr"); (case frB => rfl))
  | ((with_reducible show Dl.dE _ _ (Expr.Call (Expr.Name "sorted" _) _ _ _) _ _ _); refine Dl.d_b_sorted ?frA ?frB ?_; (case frA => walk_at "fr"); (case frB => rfl))
  | ((with_reducible show Dl.dE _ _ (Expr.Call (Expr.Name "int" _) _ _ _) _ _ _); refine Dl.d_c_int ?frA ?frB ?_; (case frA => walk_at "fr"); (case frB => rfl))
  | ((with_reducible show Dl.dE _ _ (Expr.Call (Expr.Name "tuple" _) _ _ _) _ _ _); refine Dl.d_c_tuple ?frA ?frB ?_; (case frA => walk_at "fr"); (case frB => rfl))
  | ((with_reducible show Dl.dE _ _ (Expr.Call (Expr.Name "list" _) _ _ _) _ _ _); refine Dl.d_c_list ?frA ?frB ?_; (case frA => walk_at "fr"); (case frB => rfl))
  | ((with_reducible show Dl.dE _ _ (Expr.Call (Expr.Name "str" _) _ _ _) _ _ _); refine Dl.d_c_str ?frA ?frB ?_; (case frA => walk_at "fr"); (case frB => rfl))
  | ((with_reducible show Dl.dE _ _ (Expr.Call (Expr.Name "bool" _) _ _ _) _ _ _); refine Dl.d_c_bool ?frA ?frB ?_; (case frA => walk_at "fr"); (case frB => rfl))
  | ((with_reducible show Dl.dE _ _ (Expr.Call (Expr.Name "set" _) _ _ _) _ _ _); refine Dl.d_c_set ?frA ?frB ?_; (case frA => walk_at "fr"); (case frB => rfl))
  | (refine Dl.d_fn (j := ?fnJ) (S := ?fnS) ?fnA ?fnB ?fnC ?_; (case fnA => assumption); (case fnB => exact Nat.le_of_ble_eq_true rfl); (case fnC => rfl)))
local macro_rules | `(tactic| walk_at "ed") => `(tactic| ((with_reducible show Dl.dE _ _ _ _ _ _); first
  | ((with_reducible show Dl.dE _ _ (Expr.Name _ _) _ _ _); walk_at "name")
  | ((with_reducible show Dl.dE _ _ (Expr.Constant (Const.int _) _ _) _ _ _); refine Dl.d_int ?_)
  | ((with_reducible show Dl.dE _ _ (Expr.Constant (Const.str _) _ _) _ _ _); refine Dl.d_str ?_)
  | ((with_reducible show Dl.dE _ _ (Expr.Constant (Const.bool _) _ _) _ _ _); refine Dl.d_bool ?_)
  | ((with_reducible show Dl.dE _ _ (Expr.Constant Const.none _ _) _ _ _); refine Dl.d_none ?_)
  | ((with_reducible show Dl.dE _ _ (Expr.Call (Expr.Name _ _) [_, Expr.Tuple [Expr.Name _ _, Expr.Name _ _] _ _] _ _) _ _ _); (refine Dl.d_isi2 ?frA ?frB ?frC ?frD ?frE ?frF ?_; (case frA => walk_at "fr"); (case frB => walk_at "fr"); (case frC => walk_at "fr"); (case frD => rfl); (case frE => rfl); (case frF => rfl)))
  | ((with_reducible show Dl.dE _ _ (Expr.Call (Expr.Name _ _) _ _ _) _ _ _); walk_at "call")
  | ((with_reducible show Dl.dE _ _ (Expr.BoolOp _ [_] _) _ _ _); refine Dl.d_one ?_)
  | ((with_reducible show Dl.dE _ _ (Expr.BoolOp BoolOp.And _ _) _ _ _); refine Dl.d_and ?_)
  | ((with_reducible show Dl.dE _ _ (Expr.BoolOp BoolOp.Or _ _) _ _ _); refine Dl.d_or ?_)
  | ((with_reducible show Dl.dE _ _ (Expr.UnaryOp UnaryOp.Not _ _) _ _ _); refine Dl.d_not ?_)
  | ((with_reducible show Dl.dE _ _ (Expr.UnaryOp UnaryOp.USub _ _) _ _ _); refine Dl.d_neg ?_)
  | ((with_reducible show Dl.dE _ _ (Expr.BinOp _ _ _ _) _ _ _); refine Dl.d_bin ?_)
  | ((with_reducible show Dl.dE _ _ (Expr.Compare _ [_] _ _) _ _ _); refine Dl.d_cmp ?_)
  | ((with_reducible show Dl.dE _ _ (Expr.Compare _ [_, _] _ _) _ _ _); refine Dl.d_chain ?_)
  | ((with_reducible show Dl.dE _ _ (Expr.IfExp _ _ _ _) _ _ _); refine Dl.d_if ?_)
  | ((with_reducible show Dl.dE _ _ (Expr.Tuple _ _ _) _ _ _); refine Dl.d_tup ?_)
  | ((with_reducible show Dl.dE _ _ (Expr.List _ _) _ _ _); refine Dl.d_lst ?_)
  | ((with_reducible show Dl.dE _ _ (Expr.Subscript _ (Expr.Slice _ _ _ _) _) _ _ _); refine Dl.d_slice ?_)
  | ((with_reducible show Dl.dE _ _ (Expr.Subscript _ _ _) _ _ _); refine Dl.d_ix ?_)))
local macro_rules | `(tactic| walk_at "ad") => `(tactic| ((with_reducible show Dl.dA _ _ _ _ _ _); first | refine Dl.a_nil ?_ | refine Dl.a_cons ?_))
local macro_rules | `(tactic| walk_at "td") => `(tactic| first
  | ((with_reducible show Dl.dT _ _ (Expr.UnaryOp UnaryOp.Not _ _) _ _ _); refine Dl.t_not ?_)
  | ((with_reducible show Dl.dT _ _ (Expr.BoolOp _ _ _) _ _ _); refine Dl.t_bool ?_)
  | ((with_reducible show Dl.dT _ _ (Expr.Compare _ [_] _ _) _ _ _); refine Dl.t_cmp ?_)
  | ((with_reducible show Dl.dT _ _ (Expr.Compare _ [_, _] _ _) _ _ _); refine Dl.t_chain ?_)
  | ((with_reducible show Dl.dT _ _ (_) _ _ _); refine Dl.t_val ?_)
  | ((with_reducible show Dl.dW _ _ (Expr.BoolOp BoolOp.And [_] _) _ _ _); refine Dl.w_and1 ?_)
  | ((with_reducible show Dl.dW _ _ (Expr.BoolOp BoolOp.Or [_] _) _ _ _); refine Dl.w_or1 ?_)
  | ((with_reducible show Dl.dW _ _ (Expr.BoolOp BoolOp.And _ _) _ _ _); refine Dl.w_and ?_)
  | ((with_reducible show Dl.dW _ _ (Expr.BoolOp BoolOp.Or _ _) _ _ _); refine Dl.w_or ?_))
local macro_rules | `(tactic| walk_at "od") => `(tactic| ((with_reducible show Dl.OpD _ _ _ _ _ _); first
  | refine Dl.o_add ?_ | refine Dl.o_sub ?_ | refine Dl.o_lt ?_ | refine Dl.o_le ?_ | refine Dl.o_gt ?_ | refine Dl.o_ge ?_ | refine Dl.o_eq ?_ | refine Dl.o_ne ?_ | refine Dl.o_eqS ?_ | refine Dl.o_mul ?_ ?_ | refine Dl.o_mod ?_ ?_ | refine Dl.o_fdivW ?_ ?_ | refine Dl.o_inS ?_ | refine Dl.o_notInS ?_
  | refine Dl.o_isN ?_ | refine Dl.o_notN ?_))
local macro_rules | `(tactic| walk_at "cd") => `(tactic| ((with_reducible show Dl.CallD _ _ _ _ _); first
  | refine Dl.c_lenT ?_ | refine Dl.c_lenL ?_ | refine Dl.c_lenO ?_ | refine Dl.c_abs ?_ | refine Dl.c_int ?_ | refine Dl.c_lenS ?_ ?_ | refine Dl.c_allT ?_
  | refine Dl.c_isInt ?_ | refine Dl.c_isBool ?_ | refine Dl.c_isStr ?_ | refine Dl.c_isTuple ?_ | refine Dl.c_isList ?_
  | refine Dl.c_allF ?_ | refine Dl.c_tupL ?_ | refine Dl.c_tupT ?_))
local macro_rules | `(tactic| walk_at "sd") => `(tactic| first
  | ((with_reducible show Dl.dS _ _ _ (Stmt.Return (some _) _) _ _ _ _); refine Dl.s_ret ?_)
  | ((with_reducible show Dl.dS _ _ _ (Stmt.Assign [Expr.Tuple [Expr.Name _ _, Expr.Name _ _] _ _] (Expr.Tuple [_, _] _ _) _) _ _ _ _); (refine Dl.s_pr (i := ?stI) (j := ?stJ) ?stA ?stB ?stC ?stD ?stE ?_; (case stA => rfl); (case stB => rfl); (case stC => rfl); (case stD => rfl); (case stE => rfl)))
  | ((with_reducible show Dl.dS _ _ _ (Stmt.If _ _ _ _) _ _ _ _); refine Dl.s_if ?_)
  | ((with_reducible show Dl.dS _ _ _ (Stmt.Assign [Expr.Name _ _] _ _) _ _ _ _); (refine Dl.s_st (i := ?stI) ?stA ?stB ?stC ?_; (case stA => rfl); (case stB => rfl); (case stC => rfl)))
  | ((with_reducible show Dl.dS _ _ _ (Stmt.Expr _ _) _ _ _ _); refine Dl.s_expr ?_)
  | ((with_reducible show Dl.dSs _ _ _ _ _ _ _ _); first | refine Dl.s_cons ?_ | refine Dl.s_nil ?_))
local macro_rules | `(tactic| walk_at "xd") => `(tactic| ((with_reducible show Dl.IxD _ _ _ _ _); first | (refine Dl.x_T (d := ?ixD) ?ixE ?_; (case ixE => rfl)) | (refine Dl.x_L (d := ?ixD) ?ixE ?_; (case ixE => rfl)) | (refine Dl.x_O (d := ?ixD) ?ixE ?_; (case ixE => rfl))))
local macro_rules | `(tactic| walk_at "ds") => `(tactic| (refine Dl.ex_dats (ds := ?dsW) ?dsA ?dsB ?_; (case dsA => rfl); (case dsB => rfl)))
local macro_rules | `(tactic| walk_at "dl") => `(tactic| first
  | walk_at "ds"
  | walk_at "ed"
  | walk_at "ad"
  | walk_at "td"
  | walk_at "od"
  | walk_at "cd"
  | walk_at "sd"
  | walk_at "xd"
  | ((with_reducible refine ⟨_, rfl, fun hc => ?_, fun hc => ?_⟩) <;> (first | contradiction | (exfalso; revert hc; simp [Dl.isTy, Dl.tyD]; done) | skip))
  | ((with_reducible refine ⟨fun hc => ?_, fun hc => ?_⟩) <;> (first | contradiction | (exfalso; revert hc; simp [Dl.isTy, Dl.tyD]; done) | skip))
  | (refine ⟨_, _, rfl, rfl, ?_⟩)
  | (refine ⟨rfl, ?_⟩)
  | (with_reducible refine ⟨_, rfl, ?_⟩)
  | (refine ⟨(_, _), rfl, ?_⟩)
  | (refine ⟨(_, _, _), rfl, ?_⟩)
  | (refine ⟨True.intro, fun _ hs => ?_, fun _ hx => False.elim hx⟩; replace hs : _ = Dl.Sl.dat _ := hs; subst hs)
  | (refine ⟨by assumption, fun _ hs => ?_, fun _ hx => False.elim hx⟩; replace hs : _ = Dl.Sl.dat _ := hs; subst hs)
  | fail)
/-! ### all items -/
def tiesSpec : Dl.Spec where
  α := List Tie
  arg ts := [.dat (.tuple (ts.map eTie))]
  pre ts := ts.length ≤ 3 ∧ ∀ t ∈ ts, t.1 ∈ inNames
  post ts s := s = .dat (.list ((allI ts).map eI))
theorem pow4 {i : Nat} (h : i < 3) : 4 ^ i ≤ 16 := by
  have : i = 0 ∨ i = 1 ∨ i = 2 := by omega
  rcases this with rfl | rfl | rfl <;> decide
theorem flat_int (f : Itm → List Itm) (l : List Itm) : (l.map fun x => (f x).map eI).flatten = (l.flatMap f).map eI := by
  induction l with
  | nil => rfl
  | cons x l ih => rw [List.map_cons, List.flatten_cons, ih, List.flatMap_cons, List.map_append]
section
variable {G : Dl.Gd}
theorem ok_all_items (T : Top G) : Dl.Fn G 1 "_law_all_items" tiesSpec := by
  have f1 := fr_range T
  have f2 := fr_sum T
  refine mk__law_all_items T (fun _ => rfl) fun cdv M0 (ts : List Tie) hp => ?_
  have h3 : ts.length ≤ 3 := hp.1
  repeat' walk_at "dl"
  refine Dl.s_forT ts eTie [2, 3] (fun i M Γ => M = M0 ∧ ∃ g1 g2 g3 g4, Γ = [some (.dat (.tuple (ts.map eTie))), some (.dat (.list ((allI (ts.take i)).map eI))), g1, g2, g3, g4]) ?_
  refine Dl.i_tup (Dl.d_nm (s := .dat (.tuple (ts.map eTie))) rfl rfl ⟨_, rfl, rfl, ⟨rfl, none, none, none, none, rfl⟩, fun i t M Γ hx hI => ?_, fun M Γ hI => ?_⟩)
  · obtain ⟨rfl, g1, g2, g3, g4, rfl⟩ := hI
    obtain ⟨c, b⟩ := t
    refine Dl.g_tup (ds := [.str (nmS c), .str (wayS b)]) (is := [2, 3]) rfl (Dl.gs_cons (is := [2]) (js := [3]) (Dl.g_nm (i := 2) rfl rfl (Dl.gs_cons (is := [3]) (js := []) (Dl.g_nmC (i := 3) rfl rfl rfl (Dl.gs_nil ?_)))))
    have hi := (List.getElem?_eq_some_iff.mp hx).1
    obtain ⟨k1, k2, k3, k4⟩ := allI_ok (ts.take i)
    have hlen : (ts.take i).length = i := by rw [List.length_take]; omega
    rw [hlen] at k3
    have k5 : (allI (ts.take i)).length ≤ 16 := Nat.le_trans k3 (pow4 (show i < 3 by omega))
    have hnext : allI (ts.take (i + 1)) = stepI b (allI (ts.take i)) := by
      rw [List.take_add_one, hx]
      exact allI_snoc _ _
    have hs64 : (stepI b (allI (ts.take i))).length ≤ 64 := by
      rw [← hnext]
      refine Nat.le_trans (allI_ok (ts.take (i + 1))).2.2.1 ?_
      rw [List.length_take, Nat.min_eq_left (by omega)]
      have : i = 0 ∨ i = 1 ∨ i = 2 := by omega
      rcases this with rfl | rfl | rfl <;> decide
    have hfew : ((allI (ts.take i)).map fun x => ((List.range (if b then 2 else 4)).map fun (n : Nat) => x ++ [(n : Int)]).map eI).flatten = (stepI b (allI (ts.take i))).map eI := flat_int _ _
    repeat' walk_at "dl"
    refine Dl.d_ofLc (Dl.l_T (QL := fun zs => zs = ((allI (ts.take i)).map fun x => ((List.range (if b then 2 else 4)).map fun (n : Nat) => x ++ [(n : Int)]).map eI).map PyData.list) eI (fun x => .list (((List.range (if b then 2 else 4)).map fun (n : Nat) => x ++ [(n : Int)]).map eI)) (own := [("item", 4)]) (is := [4]) (by kernel_rfl) (by decide) ?_) ?_
    · refine Dl.i_listL (Dl.d_nm (s := .dat (.list ((allI (ts.take i)).map eI))) rfl rfl ⟨_, rfl, fun hl => ⟨allI (ts.take i), rfl, hl, fun D x hx => ?_, by rw [List.map_map]; rfl⟩⟩)
      have hxl : x.length ≤ 3 := by rw [(k1 x hx).1, hlen]; omega
      refine Dl.g_nmB (i := 4) rfl rfl rfl ?_
      refine Dl.d_ofLc (Dl.l_T (QL := fun zs => zs = ((List.range (if b then 2 else 4)).map fun (n : Nat) => x ++ [(n : Int)]).map eI) (fun n : Nat => .int (n : Nat)) (fun n => eI (x ++ [(n : Int)])) (own := [("number", 5)]) (is := [5]) (by kernel_rfl) (by decide) ?_) ?_
      · refine Dl.i_rng1 rfl f1 (Dl.dE.mono (Q := fun s => s = .dat (.int (if b then 2 else 4))) ?_ fun s hs => ⟨_, hs, by cases b <;> decide, by cases b <;> decide, List.range (if b then 2 else 4), ?_, ?_, fun D n hn => ?_, ?_⟩)
        · repeat' walk_at "dl"
          · rename_i hb
            have hb := (way_both b).mp (of_decide_eq_true hb)
            subst hb
            rfl
          · rename_i hb
            have hb : b = false := by
              cases b
              · rfl
              · exact absurd ((way_both true).mpr rfl) (of_decide_eq_false hb)
            subst hb
            rfl
        · cases b <;> rfl
        · rw [Dl.rngD_len, sizeLine_eq]
          cases b <;> decide
        · refine Dl.g_nm (i := 5) rfl rfl ?_
          repeat' walk_at "dl"
          refine Dl.o_addT (by rw [List.length_map, sizeLine_eq]; simp; omega) ?_
          show _ = Dl.Sl.dat (eI (x ++ [(n : Int)]))
          unfold eI
          rw [List.map_append]
          rfl
        · rw [List.map_map]
          rfl
      · intro zs hz
        rw [hz]
    · intro zs hz
      subst hz
      repeat' walk_at "dl"
      refine Dl.c_sumLL (by simpa using k4) (by rw [List.nil_append, hfew, List.length_map, sizeLine_eq]; omega) ⟨rfl, Dl.s_nil ⟨rfl, some (.dat (.str (nmS c))), some (.dat (.str (wayS b))), g3, g4, ?_⟩⟩
      rw [List.nil_append, hfew, hnext]
      rfl
  · obtain ⟨rfl, g1, g2, g3, g4, rfl⟩ := hI
    rw [List.take_length]
    repeat' walk_at "dl"
    exact rfl
/-! ### rows -/
def stepR (m : Nat) (acc : List Itm) : List Itm := acc.flatMap fun x => (List.range m).map fun (n : Nat) => x ++ [(n : Int)]
def rowsR (m : Nat) : Nat → List Itm
  | 0 => [[]]
  | k + 1 => stepR m (rowsR m k)
def rowsSpec : Dl.Spec where
  α := Nat
  arg m := [.dat (.int (m : Nat)), .dat (.int 2)]
  pre m := 1 ≤ m ∧ m ≤ 6
  post m s := s = .dat (.list ((rowsR m 2).map eI))
theorem rows_few {m k : Nat} (h1 : 1 ≤ m) (h : m ≤ 6) (hk : k ≤ 2) : (rowsR m k).length ≤ 36 ∧ rowsR m k ≠ [] ∧ ∀ x ∈ rowsR m k, x.length ≤ 2 := by
  have a1 : m = 1 ∨ m = 2 ∨ m = 3 ∨ m = 4 ∨ m = 5 ∨ m = 6 := by omega
  have a2 : k = 0 ∨ k = 1 ∨ k = 2 := by omega
  rcases a1 with a1 | a1 | a1 | a1 | a1 | a1 <;> rcases a2 with a2 | a2 | a2 <;> subst a1 <;> subst a2 <;> decide
theorem ok_rows (T : Top G) : Dl.Fn G 1 "_law_rows" rowsSpec := by
  have f1 := fr_range T
  have f2 := fr_sum T
  refine mk__law_rows T (fun _ => rfl) fun cdv M0 (m : Nat) hp => ?_
  have m1 : 1 ≤ m := hp.1
  have m3 : m ≤ 6 := hp.2
  repeat' walk_at "dl"
  refine Dl.s_forT (List.range 2) (fun i : Nat => .int (i : Nat)) [3] (fun i M Γ => M = M0 ∧ ∃ g1 g2 g3, Γ = [some (.dat (.int (m : Nat))), some (.dat (.int 2)), some (.dat (.list ((rowsR m i).map eI))), g1, g2, g3]) ?_
  refine Dl.i_rng1 rfl f1 (Dl.d_nm (s := .dat (.int 2)) rfl rfl ⟨_, rfl, by decide, by decide, rfl, ⟨rfl, none, none, none, rfl⟩, fun i t M Γ hx hI => ?_, fun M Γ hI => ?_⟩)
  · obtain ⟨rfl, g1, g2, g3, rfl⟩ := hI
    have hi : i < 2 := (List.getElem?_eq_some_iff.mp hx).1
    refine Dl.g_nm (i := 3) rfl rfl ?_
    obtain ⟨k1, k2, k3⟩ := rows_few m1 m3 (show i ≤ 2 by omega)
    have hs := (rows_few m1 m3 (show i + 1 ≤ 2 by omega)).1
    have hfew : ((rowsR m i).map fun x => ((List.range m).map fun (n : Nat) => x ++ [(n : Int)]).map eI).flatten = (rowsR m (i + 1)).map eI := flat_int _ _
    repeat' walk_at "dl"
    refine Dl.d_ofLc (Dl.l_T (QL := fun zs => zs = ((rowsR m i).map fun x => ((List.range m).map fun (n : Nat) => x ++ [(n : Int)]).map eI).map PyData.list) eI (fun x => .list (((List.range m).map fun (n : Nat) => x ++ [(n : Int)]).map eI)) (own := [("row", 4)]) (is := [4]) (by kernel_rfl) (by decide) ?_) ?_
    · refine Dl.i_listL (Dl.d_nm (s := .dat (.list ((rowsR m i).map eI))) rfl rfl ⟨_, rfl, fun hl => ⟨rowsR m i, rfl, hl, fun D x hx => ?_, by rw [List.map_map]; rfl⟩⟩)
      have hxl := k3 x hx
      refine Dl.g_nmB (i := 4) rfl rfl rfl ?_
      refine Dl.d_ofLc (Dl.l_T (QL := fun zs => zs = ((List.range m).map fun (n : Nat) => x ++ [(n : Int)]).map eI) (fun n : Nat => .int (n : Nat)) (fun n => eI (x ++ [(n : Int)])) (own := [("place", 5)]) (is := [5]) (by kernel_rfl) (by decide) ?_) ?_
      · refine Dl.i_rng1 rfl f1 (Dl.d_nm (s := .dat (.int (m : Nat))) rfl rfl ⟨_, rfl, by omega, by omega, List.range m, ?_, ?_, fun D n hn => ?_, ?_⟩)
        · rw [Int.toNat_natCast, Dl.rngT]
          exact List.map_congr_left fun i _ => by simp
        · rw [Dl.rngD_len, sizeLine_eq, Int.toNat_natCast]
          omega
        · refine Dl.g_nm (i := 5) rfl rfl ?_
          repeat' walk_at "dl"
          refine Dl.o_addT (by rw [List.length_map, sizeLine_eq]; simp; omega) ?_
          show _ = Dl.Sl.dat (eI (x ++ [(n : Int)]))
          unfold eI
          rw [List.map_append]
          rfl
        · rw [List.map_map]
          rfl
      · intro zs hz
        rw [hz]
    · intro zs hz
      subst hz
      repeat' walk_at "dl"
      refine Dl.c_sumLL (by simpa using k2) (by rw [List.nil_append, hfew, List.length_map, sizeLine_eq]; omega) ⟨rfl, Dl.s_nil ⟨rfl, some (.dat (.int (t : Nat))), g2, g3, ?_⟩⟩
      rw [List.nil_append, hfew]
      rfl
  · obtain ⟨rfl, g1, g2, g3, rfl⟩ := hI
    repeat' walk_at "dl"
    exact rfl
end
end K76
set_option Elab.async false
set_option linter.all false
set_option maxRecDepth 100000
set_option maxHeartbeats 4000000
set_option autoImplicit false
namespace K76
open PySem PySem.Spec PyProof.Rows L2
local macro_rules | `(tactic| walk_at "nm") => `(tactic| (refine Dl.d_nm (s := ?nmS) ?nmA ?nmB ?_; (case nmA => rfl); (case nmB => rfl)))
local macro_rules | `(tactic| walk_at "fr") => `(tactic| first | assumption)
local macro_rules | `(tactic| walk_at "name") => `(tactic| first
  | walk_at "nm"
  | ((with_reducible show Dl.dE _ _ (Expr.Name "int" _) _ _ _); refine Dl.d_t_int ?frA ?frB ?_; (case frA => walk_at "fr"); (case frB => rfl))
  | ((with_reducible show Dl.dE _ _ (Expr.Name "tuple" _) _ _ _); refine Dl.d_t_tuple ?frA ?frB ?_; (case frA => walk_at "fr"); (case frB => rfl))
  | ((with_reducible show Dl.dE _ _ (Expr.Name "list" _) _ _ _); refine Dl.d_t_list ?frA ?frB ?_; (case frA => walk_at "fr"); (case frB => rfl))
  | ((with_reducible show Dl.dE _ _ (Expr.Name "str" _) _ _ _); refine Dl.d_t_str ?frA ?frB ?_; (case frA => walk_at "fr"); (case frB => rfl))
  | ((with_reducible show Dl.dE _ _ (Expr.Name "bool" _) _ _ _); refine Dl.d_t_bool ?frA ?frB ?_; (case frA => walk_at "fr"); (case frB => rfl))
  | ((with_reducible show Dl.dE _ _ (Expr.Name "set" _) _ _ _); refine Dl.d_t_set ?frA ?frB ?_; (case frA => walk_at "fr"); (case frB => rfl))
  | walk_at "glob")
local macro_rules | `(tactic| walk_at "glob") => `(tactic| first
  | (refine Dl.d_globInt (i := ?gI) ?gA ?gB ?_; (case gA => rfl); (case gB => assumption))
  | (refine Dl.d_globStr (i := ?gI) ?gA ?gB ?_; (case gA => rfl); (case gB => assumption)))
local macro_rules | `(tactic| walk_at "call") => `(tactic| first
  | ((with_reducible show Dl.dE _ _ (Expr.Call (Expr.Name "isinstance" _) _ _ _) _ _ _); refine Dl.d_b_isinstance ?frA ?frB ?_; (case frA => walk_at "fr"); (case frB => rfl))
  | ((with_reducible show Dl.dE _ _ (Expr.Call (Expr.Name "len" _) _ _ _) _ _ _); refine Dl.d_b_len ?frA ?frB ?_; (case frA => walk_at "fr"); (case frB => rfl))
  | ((with_reducible show Dl.dE _ _ (Expr.Call (Expr.Name "all" _) _ _ _) _ _ _); refine Dl.d_b_all ?frA ?frB ?_; (case frA => walk_at "fr"); (case frB => rfl))
  | ((with_reducible show Dl.dE _ _ (Expr.Call (Expr.Name "any" _) _ _ _) _ _ _); refine Dl.d_b_any ?frA ?frB ?_; (case frA => walk_at "fr"); (case frB => rfl))
  | ((with_reducible show Dl.dE _ _ (Expr.Call (Expr.Name "abs" _) _ _ _) _ _ _); refine Dl.d_b_abs ?frA ?frB ?_; (case frA => walk_at "fr"); (case frB => rfl))
  | ((with_reducible show Dl.dE _ _ (Expr.Call (Expr.Name "sum" _) _ _ _) _ _ _); refine Dl.d_b_sum ?frA ?frB ?_; (case frA => walk_at "fr"); (case frB => rfl))
  | ((with_reducible show Dl.dE _ _ (Expr.Call (Expr.Name "min" _) _ _ _) _ _ _); refine Dl.d_b_min ?frA ?frB ?_; (case frA => walk_at "fr"); (case frB => rfl))
  | ((with_reducible show Dl.dE _ _ (Expr.Call (Expr.Name "max" _) _ _ _) _ _ _); refine Dl.d_b_max ?frA ?frB ?_; (case frA => walk_at "fr"); (case frB => rfl))
  | ((with_reducible show Dl.dE _ _ (Expr.Call (Expr.Name "sorted" _) _ _ _) _ _ _); refine Dl.d_b_sorted ?frA ?frB ?_; (case frA => walk_at "fr"); (case frB => rfl))
  | ((with_reducible show Dl.dE _ _ (Expr.Call (Expr.Name "int" _) _ _ _) _ _ _); refine Dl.d_c_int ?frA ?frB ?_; (case frA => walk_at "fr"); (case frB => rfl))
  | ((with_reducible show Dl.dE _ _ (Expr.Call (Expr.Name "tuple" _) _ _ _) _ _ _); refine Dl.d_c_tuple ?frA ?frB ?_; (case frA => walk_at "fr"); (case frB => rfl))
  | ((with_reducible show Dl.dE _ _ (Expr.Call (Expr.Name "list" _) _ _ _) _ _ _); refine Dl.d_c_list ?frA ?frB ?_; (case frA => walk_at "fr"); (case frB => rfl))
  | ((with_reducible show Dl.dE _ _ (Expr.Call (Expr.Name "str" _) _ _ _) _ _ _); refine Dl.d_c_str ?frA ?frB ?_; (case frA => walk_at "fr"); (case frB => rfl))
  | ((with_reducible show Dl.dE _ _ (Expr.Call (Expr.Name "bool" _) _ _ _) _ _ _); refine Dl.d_c_bool ?frA ?frB ?_; (case frA => walk_at "fr"); (case frB => rfl))
  | ((with_reducible show Dl.dE _ _ (Expr.Call (Expr.Name "set" _) _ _ _) _ _ _); refine Dl.d_c_set ?frA ?frB ?_; (case frA => walk_at "fr"); (case frB => rfl))
  | (refine Dl.d_fn (j := ?fnJ) (S := ?fnS) ?fnA ?fnB ?fnC ?_; (case fnA => assumption); (case fnB => exact Nat.le_of_ble_eq_true rfl); (case fnC => rfl)))
local macro_rules | `(tactic| walk_at "ed") => `(tactic| ((with_reducible show Dl.dE _ _ _ _ _ _); first
  | ((with_reducible show Dl.dE _ _ (Expr.Name _ _) _ _ _); walk_at "name")
  | ((with_reducible show Dl.dE _ _ (Expr.Constant (Const.int _) _ _) _ _ _); refine Dl.d_int ?_)
  | ((with_reducible show Dl.dE _ _ (Expr.Constant (Const.str _) _ _) _ _ _); refine Dl.d_str ?_)
  | ((with_reducible show Dl.dE _ _ (Expr.Constant (Const.bool _) _ _) _ _ _); refine Dl.d_bool ?_)
  | ((with_reducible show Dl.dE _ _ (Expr.Constant Const.none _ _) _ _ _); refine Dl.d_none ?_)
  | ((with_reducible show Dl.dE _ _ (Expr.Call (Expr.Name _ _) [_, Expr.Tuple [Expr.Name _ _, Expr.Name _ _] _ _] _ _) _ _ _); (refine Dl.d_isi2 ?frA ?frB ?frC ?frD ?frE ?frF ?_; (case frA => walk_at "fr"); (case frB => walk_at "fr"); (case frC => walk_at "fr"); (case frD => rfl); (case frE => rfl); (case frF => rfl)))
  | ((with_reducible show Dl.dE _ _ (Expr.Call (Expr.Name _ _) _ _ _) _ _ _); walk_at "call")
  | ((with_reducible show Dl.dE _ _ (Expr.BoolOp _ [_] _) _ _ _); refine Dl.d_one ?_)
  | ((with_reducible show Dl.dE _ _ (Expr.BoolOp BoolOp.And _ _) _ _ _); refine Dl.d_and ?_)
  | ((with_reducible show Dl.dE _ _ (Expr.BoolOp BoolOp.Or _ _) _ _ _); refine Dl.d_or ?_)
  | ((with_reducible show Dl.dE _ _ (Expr.UnaryOp UnaryOp.Not _ _) _ _ _); refine Dl.d_not ?_)
  | ((with_reducible show Dl.dE _ _ (Expr.UnaryOp UnaryOp.USub _ _) _ _ _); refine Dl.d_neg ?_)
  | ((with_reducible show Dl.dE _ _ (Expr.BinOp _ _ _ _) _ _ _); refine Dl.d_bin ?_)
  | ((with_reducible show Dl.dE _ _ (Expr.Compare _ [_] _ _) _ _ _); refine Dl.d_cmp ?_)
  | ((with_reducible show Dl.dE _ _ (Expr.Compare _ [_, _] _ _) _ _ _); refine Dl.d_chain ?_)
  | ((with_reducible show Dl.dE _ _ (Expr.IfExp _ _ _ _) _ _ _); refine Dl.d_if ?_)
  | ((with_reducible show Dl.dE _ _ (Expr.Tuple _ _ _) _ _ _); refine Dl.d_tup ?_)
  | ((with_reducible show Dl.dE _ _ (Expr.List _ _) _ _ _); refine Dl.d_lst ?_)
  | ((with_reducible show Dl.dE _ _ (Expr.Subscript _ (Expr.Slice _ _ _ _) _) _ _ _); refine Dl.d_slice ?_)
  | ((with_reducible show Dl.dE _ _ (Expr.Subscript _ _ _) _ _ _); refine Dl.d_ix ?_)))
local macro_rules | `(tactic| walk_at "ad") => `(tactic| ((with_reducible show Dl.dA _ _ _ _ _ _); first | refine Dl.a_nil ?_ | refine Dl.a_cons ?_))
local macro_rules | `(tactic| walk_at "td") => `(tactic| first
  | ((with_reducible show Dl.dT _ _ (Expr.UnaryOp UnaryOp.Not _ _) _ _ _); refine Dl.t_not ?_)
  | ((with_reducible show Dl.dT _ _ (Expr.BoolOp _ _ _) _ _ _); refine Dl.t_bool ?_)
  | ((with_reducible show Dl.dT _ _ (Expr.Compare _ [_] _ _) _ _ _); refine Dl.t_cmp ?_)
  | ((with_reducible show Dl.dT _ _ (Expr.Compare _ [_, _] _ _) _ _ _); refine Dl.t_chain ?_)
  | ((with_reducible show Dl.dT _ _ (_) _ _ _); refine Dl.t_val ?_)
  | ((with_reducible show Dl.dW _ _ (Expr.BoolOp BoolOp.And [_] _) _ _ _); refine Dl.w_and1 ?_)
  | ((with_reducible show Dl.dW _ _ (Expr.BoolOp BoolOp.Or [_] _) _ _ _); refine Dl.w_or1 ?_)
  | ((with_reducible show Dl.dW _ _ (Expr.BoolOp BoolOp.And _ _) _ _ _); refine Dl.w_and ?_)
  | ((with_reducible show Dl.dW _ _ (Expr.BoolOp BoolOp.Or _ _) _ _ _); refine Dl.w_or ?_))
local macro_rules | `(tactic| walk_at "od") => `(tactic| ((with_reducible show Dl.OpD _ _ _ _ _ _); first
  | refine Dl.o_add ?_ | refine Dl.o_sub ?_ | refine Dl.o_lt ?_ | refine Dl.o_le ?_ | refine Dl.o_gt ?_ | refine Dl.o_ge ?_ | refine Dl.o_eq ?_ | refine Dl.o_ne ?_ | refine Dl.o_eqS ?_ | refine Dl.o_mul ?_ ?_ | refine Dl.o_mod ?_ ?_ | refine Dl.o_fdivW ?_ ?_ | refine Dl.o_inS ?_ | refine Dl.o_notInS ?_
  | refine Dl.o_isN ?_ | refine Dl.o_notN ?_))
local macro_rules | `(tactic| walk_at "cd") => `(tactic| ((with_reducible show Dl.CallD _ _ _ _ _); first
  | refine Dl.c_lenT ?_ | refine Dl.c_lenL ?_ | refine Dl.c_lenO ?_ | refine Dl.c_abs ?_ | refine Dl.c_int ?_ | refine Dl.c_lenS ?_ ?_ | refine Dl.c_allT ?_
  | refine Dl.c_isInt ?_ | refine Dl.c_isBool ?_ | refine Dl.c_isStr ?_ | refine Dl.c_isTuple ?_ | refine Dl.c_isList ?_
  | refine Dl.c_allF ?_ | refine Dl.c_tupL ?_ | refine Dl.c_tupT ?_))
local macro_rules | `(tactic| walk_at "sd") => `(tactic| first
  | ((with_reducible show Dl.dS _ _ _ (Stmt.Return (some _) _) _ _ _ _); refine Dl.s_ret ?_)
  | ((with_reducible show Dl.dS _ _ _ (Stmt.Assign [Expr.Tuple [Expr.Name _ _, Expr.Name _ _] _ _] (Expr.Tuple [_, _] _ _) _) _ _ _ _); (refine Dl.s_pr (i := ?stI) (j := ?stJ) ?stA ?stB ?stC ?stD ?stE ?_; (case stA => rfl); (case stB => rfl); (case stC => rfl); (case stD => rfl); (case stE => rfl)))
  | ((with_reducible show Dl.dS _ _ _ (Stmt.If _ _ _ _) _ _ _ _); refine Dl.s_if ?_)
  | ((with_reducible show Dl.dS _ _ _ (Stmt.Assign [Expr.Name _ _] _ _) _ _ _ _); (refine Dl.s_st (i := ?stI) ?stA ?stB ?stC ?_; (case stA => rfl); (case stB => rfl); (case stC => rfl)))
  | ((with_reducible show Dl.dS _ _ _ (Stmt.Expr _ _) _ _ _ _); refine Dl.s_expr ?_)
  | ((with_reducible show Dl.dSs _ _ _ _ _ _ _ _); first | refine Dl.s_cons ?_ | refine Dl.s_nil ?_))
local macro_rules | `(tactic| walk_at "xd") => `(tactic| ((with_reducible show Dl.IxD _ _ _ _ _); first | (refine Dl.x_T (d := ?ixD) ?ixE ?_; (case ixE => rfl)) | (refine Dl.x_L (d := ?ixD) ?ixE ?_; (case ixE => rfl)) | (refine Dl.x_O (d := ?ixD) ?ixE ?_; (case ixE => rfl))))
local macro_rules | `(tactic| walk_at "ds") => `(tactic| (refine Dl.ex_dats (ds := ?dsW) ?dsA ?dsB ?_; (case dsA => rfl); (case dsB => rfl)))
local macro_rules | `(tactic| walk_at "dl") => `(tactic| first
  | walk_at "ds"
  | walk_at "ed"
  | walk_at "ad"
  | walk_at "td"
  | walk_at "od"
  | walk_at "cd"
  | walk_at "sd"
  | walk_at "xd"
  | ((with_reducible refine ⟨_, rfl, fun hc => ?_, fun hc => ?_⟩) <;> (first | contradiction | (exfalso; revert hc; simp [Dl.isTy, Dl.tyD]; done) | skip))
  | ((with_reducible refine ⟨fun hc => ?_, fun hc => ?_⟩) <;> (first | contradiction | (exfalso; revert hc; simp [Dl.isTy, Dl.tyD]; done) | skip))
  | (refine ⟨_, _, rfl, rfl, ?_⟩)
  | (refine ⟨rfl, ?_⟩)
  | (with_reducible refine ⟨_, rfl, ?_⟩)
  | (refine ⟨(_, _), rfl, ?_⟩)
  | (refine ⟨(_, _, _), rfl, ?_⟩)
  | (refine ⟨True.intro, fun _ hs => ?_, fun _ hx => False.elim hx⟩; replace hs : _ = Dl.Sl.dat _ := hs; subst hs)
  | (refine ⟨by assumption, fun _ hs => ?_, fun _ hx => False.elim hx⟩; replace hs : _ = Dl.Sl.dat _ := hs; subst hs)
  | fail)
theorem s_asgS {Θ : Dl.Th} {M0 M : List Addr} {tg e : Expr} {pos : Pos} {Γ : Dl.Gm} {Ex : Dl.Xn → Prop} {Rt : Dl.Sl → Prop} {Kn : List Addr → Dl.Gm → Prop} {is : List Nat} (h : Dl.dE Θ M e Γ Ex fun s => s.pure = true ∧ Dl.dG Θ M tg s Γ is fun Γ' => Kn M Γ')
    (hs : ∀ env, swapsWithSole [tg] e pos.line env = pure false := by intro _; rfl) (hw : ∀ env : Env, env.scope = Θ.sc → swappedStores [tg] e env = pure none := by (intro env h; obtain ⟨e1, e2, e3, e4, e5, e6, e7, e8, e9⟩ := env; cases h; rfl)) (h1 : ∀ env, (assignEach [tg] env).map (·.2) = [assign tg env] := by intro _; rfl) : Dl.dS Θ M0 M (.Assign [tg] e pos) Γ Ex Rt Kn := by
  intro X c F hF H0 σ H D s xt kn rt
  refine Dl.wS_of (ps_asg (Dl.pe X e) (Dl.pg X tg) (hs _) (hw _ c.sc) (h1 _)) (h X c σ H _ s.env (xt.xr s.sub s.ev) fun v t H' e' ok q => ?_)
  have s' := s.evo hF e'
  exact q.2 X c v σ H' _ s'.env ok fun Γ' σ' E' _ g => kn M Γ' σ' H' ⟨E', s'.g0, s'.ev, s'.sub, s'.new, s'.fr⟩ g
def optF : Option (PyData × Str) → PyData
  | none => .none
  | some (w, f) => .tuple [w, .str f]
theorem rows_coup {m : Nat} (h1 : 1 ≤ m) (h3 : m ≤ 3) : (rowsR m 2).filter (fun x => decide (x.getD 0 0 ≤ x.getD 1 0)) = (couplesI m).map fun c => [(c.1 : Int), (c.2 : Int)] := by
  have a1 : m = 1 ∨ m = 2 ∨ m = 3 := by omega
  rcases a1 with a1 | a1 | a1 <;> subst a1 <;> decide
theorem rows_two {m : Nat} (h1 : 1 ≤ m) (h3 : m ≤ 3) : ∀ x ∈ rowsR m 2, ∃ a b : Int, x = [a, b] := by
  have a1 : m = 1 ∨ m = 2 ∨ m = 3 := by omega
  have key : ∀ x ∈ rowsR m 2, x.length = 2 := by rcases a1 with a1 | a1 | a1 <;> subst a1 <;> decide
  intro x hx
  have := key x hx
  match x, this with
  | [a, b], _ => exact ⟨a, b, rfl⟩
/-- [couple for couple in rows if couple[0] <= couple[1]] -/
theorem coup_of {m : Nat} (h1 : 1 ≤ m) (h3 : m ≤ 3) : ((rowsR m 2).filter (fun x => decide (x.getD 0 0 ≤ x.getD 1 0))).map eI = (couplesI m).map eC := by
  rw [rows_coup h1 h3, List.map_map]
  rfl
theorem shN_ones (l : List PyData) (h : ∀ d ∈ l, d = .int 1) : Dl.ShN 1 (.list l) := Dl.shN_lst (n := 0) fun d hd => by rw [h d hd]; exact Dl.shN_int 0 1
/-- [.. for .. if ..] != [] -/
theorem ne_nil {α : Type} (l : List α) (g : α → Bool) (f : α → PyData) : (!PyData.eqv (.list ((l.filter g).map f)) (.list [])) = l.any g := by
  rw [eqv_nil]
  induction l with
  | nil => rfl
  | cons x l ih =>
    rw [List.filter_cons, List.any_cons]
    cases h : g x with
    | true => rfl
    | false =>
      rw [if_neg (by simp), ih]
      rfl
theorem any_not {α : Type} (l : List α) (f : α → Bool) : (l.any fun x => !f x) = !(l.all f) := by
  induction l with
  | nil => rfl
  | cons x xs ih => rw [List.any_cons, List.all_cons, ih, Bool.not_and]
end K76
set_option Elab.async false
set_option linter.all false
set_option maxRecDepth 100000
set_option maxHeartbeats 4000000
set_option autoImplicit false
namespace K76
open PySem PySem.Spec PyProof.Rows L2
local macro_rules | `(tactic| walk_at "nm") => `(tactic| (refine Dl.d_nm (s := ?nmS) ?nmA ?nmB ?_; (case nmA => rfl); (case nmB => rfl)))
local macro_rules | `(tactic| walk_at "fr") => `(tactic| first | assumption)
local macro_rules | `(tactic| walk_at "name") => `(tactic| first
  | walk_at "nm"
  | ((with_reducible show Dl.dE _ _ (Expr.Name "int" _) _ _ _); refine Dl.d_t_int ?frA ?frB ?_; (case frA => walk_at "fr"); (case frB => rfl))
  | ((with_reducible show Dl.dE _ _ (Expr.Name "tuple" _) _ _ _); refine Dl.d_t_tuple ?frA ?frB ?_; (case frA => walk_at "fr"); (case frB => rfl))
  | ((with_reducible show Dl.dE _ _ (Expr.Name "list" _) _ _ _); refine Dl.d_t_list ?frA ?frB ?_; (case frA => walk_at "fr"); (case frB => rfl))
  | ((with_reducible show Dl.dE _ _ (Expr.Name "str" _) _ _ _); refine Dl.d_t_str ?frA ?frB ?_; (case frA => walk_at "fr"); (case frB => rfl))
  | ((with_reducible show Dl.dE _ _ (Expr.Name "bool" _) _ _ _); refine Dl.d_t_bool ?frA ?frB ?_; (case frA => walk_at "fr"); (case frB => rfl))
  | ((with_reducible show Dl.dE _ _ (Expr.Name "set" _) _ _ _); refine Dl.d_t_set ?frA ?frB ?_; (case frA => walk_at "fr"); (case frB => rfl))
  | walk_at "glob")
local macro_rules | `(tactic| walk_at "glob") => `(tactic| first
  | (refine Dl.d_globInt (i := ?gI) ?gA ?gB ?_; (case gA => rfl); (case gB => assumption))
  | (refine Dl.d_globStr (i := ?gI) ?gA ?gB ?_; (case gA => rfl); (case gB => assumption)))
local macro_rules | `(tactic| walk_at "call") => `(tactic| first
  | ((with_reducible show Dl.dE _ _ (Expr.Call (Expr.Name "isinstance" _) _ _ _) _ _ _); refine Dl.d_b_isinstance ?frA ?frB ?_; (case frA => walk_at "fr"); (case frB => rfl))
  | ((with_reducible show Dl.dE _ _ (Expr.Call (Expr.Name "len" _) _ _ _) _ _ _); refine Dl.d_b_len ?frA ?frB ?_; (case frA => walk_at "fr"); (case frB => rfl))
  | ((with_reducible show Dl.dE _ _ (Expr.Call (Expr.Name "all" _) _ _ _) _ _ _); refine Dl.d_b_all ?frA ?frB ?_; (case frA => walk_at "fr"); (case frB => rfl))
  | ((with_reducible show Dl.dE _ _ (Expr.Call (Expr.Name "any" _) _ _ _) _ _ _); refine Dl.d_b_any ?frA ?frB ?_; (case frA => walk_at "fr"); (case frB => rfl))
  | ((with_reducible show Dl.dE _ _ (Expr.Call (Expr.Name "abs" _) _ _ _) _ _ _); refine Dl.d_b_abs ?frA ?frB ?_; (case frA => walk_at "fr"); (case frB => rfl))
  | ((with_reducible show Dl.dE _ _ (Expr.Call (Expr.Name "sum" _) _ _ _) _ _ _); refine Dl.d_b_sum ?frA ?frB ?_; (case frA => walk_at "fr"); (case frB => rfl))
  | ((with_reducible show Dl.dE _ _ (Expr.Call (Expr.Name "min" _) _ _ _) _ _ _); refine Dl.d_b_min ?frA ?frB ?_; (case frA => walk_at "fr"); (case frB => rfl))
  | ((with_reducible show Dl.dE _ _ (Expr.Call (Expr.Name "max" _) _ _ _) _ _ _); refine Dl.d_b_max ?frA ?frB ?_; (case frA => walk_at "fr"); (case frB => rfl))
  | ((with_reducible show Dl.dE _ _ (Expr.Call (Expr.Name "sorted" _) _ _ _) _ _ _); refine Dl.d_b_sorted ?frA ?frB ?_; (case frA => walk_at "fr"); (case frB => rfl))
  | ((with_reducible show Dl.dE _ _ (Expr.Call (Expr.Name "int" _) _ _ _) _ _ _); refine Dl.d_c_int ?frA ?frB ?_; (case frA => walk_at "fr"); (case frB => rfl))
  | ((with_reducible show Dl.dE _ _ (Expr.Call (Expr.Name "tuple" _) _ _ _) _ _ _); refine Dl.d_c_tuple ?frA ?frB ?_; (case frA => walk_at "fr"); (case frB => rfl))
  | ((with_reducible show Dl.dE _ _ (Expr.Call (Expr.Name "list" _) _ _ _) _ _ _); refine Dl.d_c_list ?frA ?frB ?_; (case frA => walk_at "fr"); (case frB => rfl))
  | ((with_reducible show Dl.dE _ _ (Expr.Call (Expr.Name "str" _) _ _ _) _ _ _); refine Dl.d_c_str ?frA ?frB ?_; (case frA => walk_at "fr"); (case frB => rfl))
  | ((with_reducible show Dl.dE _ _ (Expr.Call (Expr.Name "bool" _) _ _ _) _ _ _); refine Dl.d_c_bool ?frA ?frB ?_; (case frA => walk_at "fr"); (case frB => rfl))
  | ((with_reducible show Dl.dE _ _ (Expr.Call (Expr.Name "set" _) _ _ _) _ _ _); refine Dl.d_c_set ?frA ?frB ?_; (case frA => walk_at "fr"); (case frB => rfl))
  | (refine Dl.d_fn (j := ?fnJ) (S := ?fnS) ?fnA ?fnB ?fnC ?_; (case fnA => assumption); (case fnB => exact Nat.le_of_ble_eq_true rfl); (case fnC => rfl)))
local macro_rules | `(tactic| walk_at "ed") => `(tactic| ((with_reducible show Dl.dE _ _ _ _ _ _); first
  | ((with_reducible show Dl.dE _ _ (Expr.Name _ _) _ _ _); walk_at "name")
  | ((with_reducible show Dl.dE _ _ (Expr.Constant (Const.int _) _ _) _ _ _); refine Dl.d_int ?_)
  | ((with_reducible show Dl.dE _ _ (Expr.Constant (Const.str _) _ _) _ _ _); refine Dl.d_str ?_)
  | ((with_reducible show Dl.dE _ _ (Expr.Constant (Const.bool _) _ _) _ _ _); refine Dl.d_bool ?_)
  | ((with_reducible show Dl.dE _ _ (Expr.Constant Const.none _ _) _ _ _); refine Dl.d_none ?_)
  | ((with_reducible show Dl.dE _ _ (Expr.Call (Expr.Name _ _) [_, Expr.Tuple [Expr.Name _ _, Expr.Name _ _] _ _] _ _) _ _ _); (refine Dl.d_isi2 ?frA ?frB ?frC ?frD ?frE ?frF ?_; (case frA => walk_at "fr"); (case frB => walk_at "fr"); (case frC => walk_at "fr"); (case frD => rfl); (case frE => rfl); (case frF => rfl)))
  | ((with_reducible show Dl.dE _ _ (Expr.Call (Expr.Name _ _) _ _ _) _ _ _); walk_at "call")
  | ((with_reducible show Dl.dE _ _ (Expr.BoolOp _ [_] _) _ _ _); refine Dl.d_one ?_)
  | ((with_reducible show Dl.dE _ _ (Expr.BoolOp BoolOp.And _ _) _ _ _); refine Dl.d_and ?_)
  | ((with_reducible show Dl.dE _ _ (Expr.BoolOp BoolOp.Or _ _) _ _ _); refine Dl.d_or ?_)
  | ((with_reducible show Dl.dE _ _ (Expr.UnaryOp UnaryOp.Not _ _) _ _ _); refine Dl.d_not ?_)
  | ((with_reducible show Dl.dE _ _ (Expr.UnaryOp UnaryOp.USub _ _) _ _ _); refine Dl.d_neg ?_)
  | ((with_reducible show Dl.dE _ _ (Expr.BinOp _ _ _ _) _ _ _); refine Dl.d_bin ?_)
  | ((with_reducible show Dl.dE _ _ (Expr.Compare _ [_] _ _) _ _ _); refine Dl.d_cmp ?_)
  | ((with_reducible show Dl.dE _ _ (Expr.Compare _ [_, _] _ _) _ _ _); refine Dl.d_chain ?_)
  | ((with_reducible show Dl.dE _ _ (Expr.IfExp _ _ _ _) _ _ _); refine Dl.d_if ?_)
  | ((with_reducible show Dl.dE _ _ (Expr.Tuple _ _ _) _ _ _); refine Dl.d_tup ?_)
  | ((with_reducible show Dl.dE _ _ (Expr.List _ _) _ _ _); refine Dl.d_lst ?_)
  | ((with_reducible show Dl.dE _ _ (Expr.Subscript _ (Expr.Slice _ _ _ _) _) _ _ _); refine Dl.d_slice ?_)
  | ((with_reducible show Dl.dE _ _ (Expr.Subscript _ _ _) _ _ _); refine Dl.d_ix ?_)))
local macro_rules | `(tactic| walk_at "ad") => `(tactic| ((with_reducible show Dl.dA _ _ _ _ _ _); first | refine Dl.a_nil ?_ | refine Dl.a_cons ?_))
local macro_rules | `(tactic| walk_at "td") => `(tactic| first
  | ((with_reducible show Dl.dT _ _ (Expr.UnaryOp UnaryOp.Not _ _) _ _ _); refine Dl.t_not ?_)
  | ((with_reducible show Dl.dT _ _ (Expr.BoolOp _ _ _) _ _ _); refine Dl.t_bool ?_)
  | ((with_reducible show Dl.dT _ _ (Expr.Compare _ [_] _ _) _ _ _); refine Dl.t_cmp ?_)
  | ((with_reducible show Dl.dT _ _ (Expr.Compare _ [_, _] _ _) _ _ _); refine Dl.t_chain ?_)
  | ((with_reducible show Dl.dT _ _ (_) _ _ _); refine Dl.t_val ?_)
  | ((with_reducible show Dl.dW _ _ (Expr.BoolOp BoolOp.And [_] _) _ _ _); refine Dl.w_and1 ?_)
  | ((with_reducible show Dl.dW _ _ (Expr.BoolOp BoolOp.Or [_] _) _ _ _); refine Dl.w_or1 ?_)
  | ((with_reducible show Dl.dW _ _ (Expr.BoolOp BoolOp.And _ _) _ _ _); refine Dl.w_and ?_)
  | ((with_reducible show Dl.dW _ _ (Expr.BoolOp BoolOp.Or _ _) _ _ _); refine Dl.w_or ?_))
local macro_rules | `(tactic| walk_at "od") => `(tactic| ((with_reducible show Dl.OpD _ _ _ _ _ _); first
  | refine Dl.o_add ?_ | refine Dl.o_sub ?_ | refine Dl.o_lt ?_ | refine Dl.o_le ?_ | refine Dl.o_gt ?_ | refine Dl.o_ge ?_ | refine Dl.o_eq ?_ | refine Dl.o_ne ?_ | refine Dl.o_eqS ?_ | refine Dl.o_mul ?_ ?_ | refine Dl.o_mod ?_ ?_ | refine Dl.o_fdivW ?_ ?_ | refine Dl.o_inS ?_ | refine Dl.o_notInS ?_
  | refine Dl.o_isN ?_ | refine Dl.o_notN ?_))
local macro_rules | `(tactic| walk_at "cd") => `(tactic| ((with_reducible show Dl.CallD _ _ _ _ _); first
  | refine Dl.c_lenT ?_ | refine Dl.c_lenL ?_ | refine Dl.c_lenO ?_ | refine Dl.c_abs ?_ | refine Dl.c_int ?_ | refine Dl.c_lenS ?_ ?_ | refine Dl.c_allT ?_
  | refine Dl.c_isInt ?_ | refine Dl.c_isBool ?_ | refine Dl.c_isStr ?_ | refine Dl.c_isTuple ?_ | refine Dl.c_isList ?_
  | refine Dl.c_allF ?_ | refine Dl.c_tupL ?_ | refine Dl.c_tupT ?_))
local macro_rules | `(tactic| walk_at "sd") => `(tactic| first
  | ((with_reducible show Dl.dS _ _ _ (Stmt.Return (some _) _) _ _ _ _); refine Dl.s_ret ?_)
  | ((with_reducible show Dl.dS _ _ _ (Stmt.Assign [Expr.Tuple [Expr.Name _ _, Expr.Name _ _] _ _] (Expr.Tuple [_, _] _ _) _) _ _ _ _); (refine Dl.s_pr (i := ?stI) (j := ?stJ) ?stA ?stB ?stC ?stD ?stE ?_; (case stA => rfl); (case stB => rfl); (case stC => rfl); (case stD => rfl); (case stE => rfl)))
  | ((with_reducible show Dl.dS _ _ _ (Stmt.If _ _ _ _) _ _ _ _); refine Dl.s_if ?_)
  | ((with_reducible show Dl.dS _ _ _ (Stmt.Assign [Expr.Name _ _] _ _) _ _ _ _); (refine Dl.s_st (i := ?stI) ?stA ?stB ?stC ?_; (case stA => rfl); (case stB => rfl); (case stC => rfl)))
  | ((with_reducible show Dl.dS _ _ _ (Stmt.Expr _ _) _ _ _ _); refine Dl.s_expr ?_)
  | ((with_reducible show Dl.dSs _ _ _ _ _ _ _ _); first | refine Dl.s_cons ?_ | refine Dl.s_nil ?_))
local macro_rules | `(tactic| walk_at "xd") => `(tactic| ((with_reducible show Dl.IxD _ _ _ _ _); first | (refine Dl.x_T (d := ?ixD) ?ixE ?_; (case ixE => rfl)) | (refine Dl.x_L (d := ?ixD) ?ixE ?_; (case ixE => rfl)) | (refine Dl.x_O (d := ?ixD) ?ixE ?_; (case ixE => rfl))))
local macro_rules | `(tactic| walk_at "ds") => `(tactic| (refine Dl.ex_dats (ds := ?dsW) ?dsA ?dsB ?_; (case dsA => rfl); (case dsB => rfl)))
local macro_rules | `(tactic| walk_at "dl") => `(tactic| first
  | walk_at "ds"
  | walk_at "ed"
  | walk_at "ad"
  | walk_at "td"
  | walk_at "od"
  | walk_at "cd"
  | walk_at "sd"
  | walk_at "xd"
  | ((with_reducible refine ⟨_, rfl, fun hc => ?_, fun hc => ?_⟩) <;> (first | contradiction | (exfalso; revert hc; simp [Dl.isTy, Dl.tyD]; done) | skip))
  | ((with_reducible refine ⟨fun hc => ?_, fun hc => ?_⟩) <;> (first | contradiction | (exfalso; revert hc; simp [Dl.isTy, Dl.tyD]; done) | skip))
  | (refine ⟨_, _, rfl, rfl, ?_⟩)
  | (refine ⟨rfl, ?_⟩)
  | (with_reducible refine ⟨_, rfl, ?_⟩)
  | (refine ⟨(_, _), rfl, ?_⟩)
  | (refine ⟨(_, _, _), rfl, ?_⟩)
  | (refine ⟨True.intro, fun _ hs => ?_, fun _ hx => False.elim hx⟩; replace hs : _ = Dl.Sl.dat _ := hs; subst hs)
  | (refine ⟨by assumption, fun _ hs => ?_, fun _ hx => False.elim hx⟩; replace hs : _ = Dl.Sl.dat _ := hs; subst hs)
  | fail)
/-! ### a wide menu -/
def wmSpec : Dl.Spec where
  α := List Tie × Bool
  arg a := [.bag, .dat (.tuple (a.1.map eTie)), .dat (.bool a.2), .dat (.int 3)]
  pre a := (a.1.length = 2 ∨ a.1.length = 3) ∧ ∀ t ∈ a.1, t.1 ∈ inNames
  post a s := ∃ m : Menu, WideM a.1 a.2 m ∧ s = .dat (eMenu m)
theorem perm_enc {l : List Itm} : ∀ {es : List PyData}, es.Perm (l.map eI) → ∃ l' : List Itm, l'.Perm l ∧ es = l'.map eI := by
  have key : ∀ {es ds : List PyData}, es.Perm ds → ∀ l : List Itm, ds = l.map eI → ∃ l' : List Itm, l'.Perm l ∧ es = l'.map eI := by
    intro es ds pm
    induction pm with
    | nil => intro l e; exact ⟨l, .refl _, e⟩
    | cons x _ ih =>
      intro l e
      cases l with
      | nil => cases e
      | cons z l =>
        injection e with e1 e2
        obtain ⟨l2, p2, q2⟩ := ih l e2
        exact ⟨z :: l2, p2.cons z, by rw [List.map_cons, ← q2, e1]⟩
    | swap x y l0 =>
      intro l e
      cases l with
      | nil => cases e
      | cons z l =>
        cases l with
        | nil => cases e
        | cons w l =>
          injection e with e1 e2
          injection e2 with e2 e3
          exact ⟨w :: z :: l, .swap .., by rw [List.map_cons, List.map_cons, e1, e2, e3]⟩
    | trans _ _ ih1 ih2 =>
      intro l e
      obtain ⟨k2, p2, q2⟩ := ih2 l e
      obtain ⟨k3, p3, q3⟩ := ih1 k2 q2
      exact ⟨k3, p3.trans p2, q3⟩
  intro es pm
  exact key pm l rfl
theorem eI_inj {x y : Itm} (h : eI x = eI y) : x = y := by
  unfold eI at h
  injection h with h
  exact int_inj h
theorem sh_itm (x : Itm) : Dl.ShN 1 (eI x) := Dl.shN_tup (n := 0) fun e he => by
  obtain ⟨n, hn, rfl⟩ := List.mem_map.mp he
  exact Dl.shN_int 0 n
theorem eqv_itm (x y : Itm) : PyData.eqv (eI x) (eI y) = (x == y) := by
  have nb : ∀ x : Itm, Dl.Nb (eI x) := fun x => .tuple fun e he => by
    obtain ⟨n, hn, rfl⟩ := List.mem_map.mp he
    exact .int n
  rw [Bool.eq_iff_iff, Dl.eqv_iff _ _ (nb x) (nb y), beq_iff_eq]
  exact ⟨eI_inj, fun h => by rw [h]⟩
theorem nodup_len {α : Type} [DecidableEq α] : ∀ (l D : List α), l.Nodup → (∀ x ∈ l, x ∈ D) → l.length ≤ D.length
  | [], _, _, _ => Nat.zero_le _
  | x :: l, D, hn, hs => by
    rw [List.nodup_cons] at hn
    have hx := hs x List.mem_cons_self
    have h1 := nodup_len l (D.erase x) hn.2 fun y hy => (List.mem_erase_of_ne (fun z => hn.1 (by rw [← z]; exact hy))).mpr (hs y (List.mem_cons_of_mem _ hy))
    have h2 := List.length_erase_of_mem hx
    have h3 := List.length_pos_of_mem hx
    rw [List.length_cons]
    omega
theorem s_lcC {Θ : Dl.Th} {M0 M : List Addr} {elt tg iter : Expr} {pos p p2 : Pos} {x : Str} {i : Nat} {Γ : Dl.Gm} {Ex : Dl.Xn → Prop} {Rt : Dl.Sl → Prop} {Kn : List Addr → Dl.Gm → Prop} {ifs : List Expr} {scope : Scope} {Q' : List PyData → Prop} (hN : Dl.posN Θ.N x = some i) (hx : Dl.locB Θ.sc x = true) (hf : Θ.full = true) (h : Dl.LcO Θ M elt tg iter ifs scope Γ Ex Q') (hq : ∀ ds, Q' ds → ∀ D, D ∉ M0 → D ∉ M → Kn (D :: M) (Γ.set i (some (.own D ds))))
    (hs : ∀ env x, foldedSetIterable iter env x = pure x := by intro _ _; rfl) (hsw : ∀ env : Env, env.scope = Θ.sc → swapsWith (.ListComp elt [⟨tg, iter, ifs, 0⟩] scope p2) (some (.Name x p)) pos.line env = pure false := by (intro env h; obtain ⟨e1, e2, e3, e4, e5, e6, e7, e8, e9⟩ := env; cases h; rfl)) : Dl.dS Θ M0 M (.Assign [.Name x p] (.ListComp elt [⟨tg, iter, ifs, 0⟩] scope p2) pos) Γ Ex Rt Kn := by
  intro X c F hF H0 σ H D s xt kn rt
  obtain ⟨wi, g, tt, te, own, h1, h2, h3, h4, h5, h6⟩ := h X c σ H (fun v H1 => D.nx (σ.set i (some v)) H1) s.env (xt.xr s.sub s.ev) fun D xs ds H' hD e hH da q => by
    have s2 := s.adopt hF hD e hH
    have nM := s.env.hk.nin hD
    exact kn _ _ _ _ (s2.setOwn s.env.bM nM hH da) (hq ds q D (fun z => nM (s.sub D z)) nM)
  exact Dl.wS_of (ps_set (i := i) c.nd (by rw [c.N]; exact Dl.posN_ok hN) (by rw [c.sc]; exact Dl.locB_ok hx) (pe_lc c.calm c.nd h1 h2 h3 h4 h5 (hs _)) (hsw _ c.sc) (.inl (c.cel hf x))) h6
/-- some of the items, none twice, ascending, with their mirrors where it is the own menu -/
structure Its (ts : List Tie) (own : Bool) (l : List Itm) : Prop where
  asc : l.Pairwise (fun x y => HT.lexLt x y = true)
  ok : ∀ x ∈ l, okI ts x
  few : l.length ≤ 6
  ne : l ≠ []
  mir : own = true → ∀ x ∈ l, mirrorI ts x ∈ l
section
variable {G : Dl.Gd}
theorem ok_wide_menu (T : Top G) : Dl.Fn G 3 "_law_wide_menu" wmSpec := by
  have f1 := fr_sorted T
  have f2 := fr_set T
  have f3 := fr_enumerate T
  have f4 := fr_min T
  have f5 := fr_tuple T
  have f6 := fr_zip T
  have f7 := fr_sum T
  have h1 := ok_take T
  have h2 := ok_mixed T
  have h3 := ok_all_items T
  have h4 := ok_lmirror T
  have h5 := ok_fraction T
  refine mk__law_wide_menu T (fun _ => rfl) fun cdv M0 ⟨ts, own⟩ hp => ?_
  have ht : ts.length ≤ 3 := by rcases hp.1 with h | h <;> (have h : ts.length = _ := h; omega)
  have ht1 : 1 ≤ ts.length := by rcases hp.1 with h | h <;> (have h : ts.length = _ := h; omega)
  have hn : ∀ t ∈ ts, t.1 ∈ inNames := hp.2
  obtain ⟨a1, a2, a3, a4⟩ := allI_ok ts
  have a5 : (allI ts).length ≤ 64 := Nat.le_trans a3 (Nat.pow_le_pow_right (by decide) ht)
  have hst : Dl.startG N__law_wide_menu (wmSpec.arg (ts, own)) = [some .bag, some (.dat (.tuple (ts.map eTie))), some (.dat (.bool own)), some (.dat (.int 3)), none, none, none, none, none] := rfl
  rw [hst]
  refine Dl.s_cons (dS_mono (fun M Γ => M = M0 ∧ ∃ l : List Itm, Γ = [some .bag, some (.dat (.tuple (ts.map eTie))), some (.dat (.bool own)), some (.dat (.int 3)), some (.dat (.list (l.map eI))), none, none, none, none] ∧ (∀ x ∈ l, okI ts x) ∧ l.Nodup ∧ l.length ≤ 3 ∧ l ≠ []) ?_ fun M Γ q => ?_)
  · refine Dl.s_st (i := 4) rfl rfl rfl ?_
    refine Dl.d_slice ?_
    repeat' walk_at "dl"
    refine ⟨⟨ht, hn⟩, fun s hs => ?_, fun _ h => h.elim⟩
    replace hs : _ = Dl.Sl.dat _ := hs
    subst hs
    repeat' walk_at "dl"
    refine ⟨by show ((allI ts).map eI).length ≤ 1000; rw [List.length_map]; omega, fun s hs => ?_, fun _ h => h.elim⟩
    obtain ⟨es, pm, rfl⟩ := hs
    obtain ⟨l, pl, rfl⟩ := perm_enc pm
    refine Dl.p_none (Dl.p_some ?_)
    repeat' walk_at "dl"
    refine ⟨⟨by decide, by decide⟩, fun s hs => ?_, fun _ h => h.elim⟩
    obtain ⟨k, hk, rfl⟩ := hs
    have hk : k < 3 := hk
    repeat' walk_at "dl"
    have ec : (1 : Int) + (k : Int) = ((1 + k : Nat) : Int) := by omega
    have hl0 : 0 < l.length := by rw [pl.length_eq]; exact List.length_pos_iff.mpr a4
    refine Or.inl ⟨_, rfl, rfl, rfl, l.take (1 + k), by rw [ec, Dl.cutD_to, ← List.map_take]; rfl, fun x hx => a1 x (pl.mem_iff.mp (List.mem_of_mem_take hx)), ?_, by rw [List.length_take]; omega, fun z => ?_⟩
    · exact (pl.nodup_iff.mpr a2).sublist (List.take_sublist _ _)
    · have := congrArg List.length z
      rw [List.length_take, List.length_nil] at this
      omega
  obtain ⟨rfl, l, rfl, b1, b2, b3, b4⟩ := q
  refine Dl.s_cons (dS_mono (fun M2 Γ => M2 = M ∧ ∃ l : List Itm, Γ = [some .bag, some (.dat (.tuple (ts.map eTie))), some (.dat (.bool own)), some (.dat (.int 3)), some (.dat (.list (l.map eI))), none, none, none, none] ∧ (∀ x ∈ l, okI ts x) ∧ l.Nodup ∧ l.length ≤ 6 ∧ l ≠ [] ∧ (own = true → ∀ x ∈ l, mirrorI ts x ∈ l)) ?_ fun M2 Γ q => ?_)
  · refine Dl.s_if (Dl.t_val (Dl.d_nm (s := .dat (.bool own)) rfl rfl ⟨own, rfl, fun ho => ?_, fun ho => ?_⟩))
    · refine Dl.s_cons (Dl.s_st (i := 4) rfl rfl rfl (Dl.d_sortedSet rfl f1 rfl f2 ts.length 4 ht1 ?_))
      repeat' walk_at "dl"
      refine Dl.d_ofLc (Dl.l_T (QL := fun zs => zs = (l.map (mirrorI ts)).map eI) eI (fun x => eI (mirrorI ts x)) (own := [("item", 5)]) (is := [5]) (by kernel_rfl) (by decide) ?_) (fun zs hz => ?_)
      · refine Dl.i_listL (Dl.d_nm (s := .dat (.list (l.map eI))) rfl rfl ⟨_, rfl, fun hl => ⟨l, rfl, hl, fun D x hx => ?_, by rw [List.map_map]; rfl⟩⟩)
        refine Dl.g_nm (i := 5) rfl rfl ?_
        repeat' walk_at "dl"
        exact ⟨⟨ht, (b1 x hx).itm ht⟩, fun s hs => hs, fun _ h => h.elim⟩
      subst hz
      have sub : ∀ x ∈ l ++ l.map (mirrorI ts), okI ts x := fun x hx => by
        rcases List.mem_append.mp hx with h | h
        · exact b1 x h
        · obtain ⟨y, hy, rfl⟩ := List.mem_map.mp h
          exact (b1 y hy).mir
      refine Dl.o_addL (by rw [List.length_map, List.length_map, List.length_map, sizeLine_eq]; omega) ⟨l ++ l.map (mirrorI ts), by rw [List.map_append]; rfl, by rw [List.length_append, List.length_map]; omega, fun x hx => ⟨(sub x hx).1, (sub x hx).bd⟩, fun out o1 o2 o3 o4 => ⟨rfl, Dl.s_nil ⟨rfl, out, rfl, fun x hx => sub x ((o3 x).mp hx), o1, ?_, fun z => ?_, fun _ x hx => ?_⟩⟩⟩
      · have := nodup_len out (l ++ l.map (mirrorI ts)) o1 fun x hx => (o3 x).mp hx
        rw [List.length_append, List.length_map] at this
        omega
      · cases l with
        | nil => exact b4 rfl
        | cons x l =>
          have := (o3 x).mpr (by simp)
          rw [z] at this
          cases this
      · rw [o3]
        rcases List.mem_append.mp ((o3 x).mp hx) with h | h
        · exact List.mem_append_right _ (List.mem_map.mpr ⟨x, h, rfl⟩)
        · obtain ⟨y, hy, rfl⟩ := List.mem_map.mp h
          rw [mir_mir ts y (b1 y hy).1]
          exact List.mem_append_left _ hy
    · exact Dl.s_nil ⟨rfl, l, rfl, b1, b2, by omega, b4, fun z => by rw [ho] at z; cases z⟩
  clear b1 b2 b3 b4 l
  obtain ⟨rfl, l, rfl, b1, b2, b3, b4, b5⟩ := q
  refine Dl.s_cons (Dl.s_st (i := 4) rfl rfl rfl ?_)
  repeat' walk_at "dl"
  refine Dl.c_sortT ts.length 4 ht1 (ls := l) (by omega) (fun x hx => ⟨(b1 x hx).1, (b1 x hx).bd⟩) fun out pm pw => ⟨rfl, ?_⟩
  have O : Its ts own out := by
    have ok : ∀ x ∈ out, okI ts x := fun x hx => b1 x (pm.mem_iff.mp hx)
    exact ⟨lex_asc out (fun x hx => ⟨(ok x hx).1, (ok x hx).bd⟩) (pm.nodup_iff.mpr b2) pw, ok, by rw [pm.length_eq]; exact b3, fun z => b4 (List.length_eq_zero_iff.mp (by rw [← pm.length_eq, z]; rfl)), fun ho x hx => pm.mem_iff.mpr (b5 ho x (pm.mem_iff.mp hx))⟩
  refine Dl.s_cons (s_lcC (i := 6) rfl rfl rfl (Dl.l_TR (QL := fun zs => ∃ ws : List Int, zs = ws.map PyData.int ∧ ws.length = out.length ∧ ∀ w ∈ ws, 1 ≤ w ∧ w ≤ 3) eI PyData.int (fun _ w => 1 ≤ w ∧ w ≤ 3) (own := [("item", 5)]) (is := [5]) (by kernel_rfl) (by decide) ?_) (fun zs hz D d0 d1 => ?_))
  · refine Dl.i_listL (Dl.d_nm (s := .dat (.list (out.map eI))) rfl rfl ⟨_, rfl, fun hl => ⟨out, rfl, hl, fun D x hx => ?_, fun zs h1 h2 => ⟨zs, rfl, h1, fun w hw => ?_⟩⟩⟩)
    · refine Dl.g_nm (i := 5) rfl rfl ?_
      repeat' walk_at "dl"
      refine ⟨⟨by decide, by decide⟩, fun s hs => ?_, fun _ h => h.elim⟩
      obtain ⟨k, hk, rfl⟩ := hs
      have hk : k < 3 := hk
      repeat' walk_at "dl"
      exact ⟨by omega, by omega⟩
    · obtain ⟨i, hi⟩ := List.mem_iff_getElem?.mp hw
      have hl : i < out.length := by rw [← h1]; exact (List.getElem?_eq_some_iff.mp hi).1
      exact h2 i out[i] w (by simp [hl]) hi
  obtain ⟨w0, rfl, w1, w2⟩ := hz
  refine Dl.s_cons (Dl.s_forT ((List.range out.length).zip out) (fun q => .tuple [.int (q.1 : Nat), eI q.2]) [7, 5] (fun i M3 Γ => M3 = D :: M2 ∧ ∃ (w : List Int) (g5 g7 : Option PyData), Γ = [some .bag, some (.dat (.tuple (ts.map eTie))), some (.dat (.bool own)), some (.dat (.int 3)), some (.dat (.list (out.map eI))), g5.map Dl.Sl.dat, some (.own D (w.map .int)), g7.map Dl.Sl.dat, none] ∧ (own = true → Wts (cAt ts out) w0 i w) ∧ (own = false → w = w0)) ?_)
  · refine Dl.i_enumL rfl f3 (Dl.d_nm (s := .dat (.list (out.map eI))) rfl rfl ⟨_, rfl, ?_, ⟨rfl, w0, none, none, rfl, fun _ => Wts.zero _ _, fun _ => rfl⟩, fun i q M3 Γ hx hI => ?_, fun M3 Γ hI => ?_⟩)
    · rw [List.length_map, Dl.rngT, Dl.pairsT]
      refine List.map_congr_left fun q _ => ?_
      simp
    · obtain ⟨rfl, w, g5, g7, rfl, hW, hw⟩ := hI
      obtain ⟨hx1, hx2⟩ : q.1 = i ∧ out[i]? = some q.2 := by
        rw [List.getElem?_zip_eq_some] at hx
        obtain ⟨a1, a2⟩ := hx
        refine ⟨?_, a2⟩
        rw [List.getElem?_range (by exact (List.getElem?_eq_some_iff.mp a2).1)] at a1
        cases a1
        rfl
      obtain ⟨q1, x⟩ := q
      dsimp only at hx1 hx2
      subst hx1
      have hi : q1 < out.length := (List.getElem?_eq_some_iff.mp hx2).1
      have hxm := List.mem_of_getElem? hx2
      refine Dl.g_tup (ds := [.int (q1 : Nat), eI x]) (is := [7, 5]) rfl (Dl.gs_cons (is := [7]) (js := [5]) (Dl.g_nm (i := 7) rfl rfl (Dl.gs_cons (is := [5]) (js := []) (Dl.g_nm (i := 5) rfl rfl (Dl.gs_nil ?_)))))
      refine Dl.s_cons (Dl.s_if (Dl.t_val (Dl.d_nm (s := .dat (.bool own)) rfl rfl ⟨own, rfl, fun ho => ?_, fun ho => ?_⟩)))
      · have OO : Own ts out := ⟨O.asc, O.ok, O.mir ho⟩
        have hWt := hW ho
        have hc := OO.cAt_at hx2
        have hcl := OO.c_le hi
        have hwl : cAt ts out q1 < w.length := by rw [hWt.len, w1]; omega
        refine Dl.s_cons (Dl.s_store (k0 := 0) (i := 6) (ad := D) (ds := w.map .int) rfl rfl rfl rfl d0 ?_)
        refine Dl.d_ix (Dl.d_nm (s := .own D (w.map .int)) rfl rfl (Dl.d_index (Dl.d_nm (s := .dat (.list (out.map eI))) rfl rfl ⟨_, rfl, ?_⟩)))
        repeat' walk_at "dl"
        refine ⟨⟨ht, (O.ok x hxm).itm ht⟩, fun s hs => ?_, fun _ h => h.elim⟩
        replace hs : _ = Dl.Sl.dat _ := hs
        subst hs
        repeat' walk_at "dl"
        refine Dl.c_min2 ⟨_, cAt ts out q1, eI (minI x (mirrorI ts x)), rfl, (Dl.shN_lst (n := 1) fun d hd => by obtain ⟨y, hy, rfl⟩ := List.mem_map.mp hd; exact sh_itm y).sh, (sh_itm _).sh, by rw [List.getElem?_map, hc]; rfl, ?_, fun m z hm hz => ?_, ?_⟩
        · exact (eqv_itm _ _).trans (beq_self_eq_true _)
        · rw [List.getElem?_map] at hz
          cases hy : out[m]? with
          | none => rw [hy] at hz; cases hz
          | some y =>
            rw [hy] at hz
            cases hz
            refine (eqv_itm y (minI x (mirrorI ts x))).trans ?_
            rw [beq_eq_false_iff_ne]
            intro e
            rw [e] at hy
            have := asc_inj O.asc hy hc
            omega
        · refine Dl.x_O (d := .int w[cAt ts out q1]) (Dl.atD (by rw [List.getElem?_map]; simp [hwl])) ?_
          repeat' walk_at "dl"
          refine ⟨q1, .int w[cAt ts out q1], rfl, by rw [List.length_map, hWt.len, w1]; exact hi, rfl, Dl.s_nil (Dl.s_nil ⟨rfl, w.set q1 w[cAt ts out q1], some (eI x), some (.int (q1 : Nat)), by rw [← List.map_set]; rfl, fun _ => ?_, fun z => by rw [ho] at z; cases z⟩)⟩
          exact hWt.step (by rw [w1]; exact hi) hcl (OO.c_c hi) (by simp [hwl])
      · exact Dl.s_nil (Dl.s_nil ⟨rfl, w, some (eI x), some (.int (q1 : Nat)), rfl, fun z => (by rw [ho] at z; cases z), hw⟩)
    · obtain ⟨rfl, w, g5, g7, rfl, hW, hw⟩ := hI
      have wl : w.length = out.length := by
        cases own with
        | true => rw [(hW rfl).len, w1]
        | false => rw [hw rfl, w1]
      have hlen : ((List.range out.length).zip out).length = out.length := by rw [List.length_zip, List.length_range, Nat.min_self]
      rw [hlen] at hW
      have wb : ∀ z ∈ w, 1 ≤ z ∧ z ≤ 3 := fun z hz => by
        cases own with
        | true =>
          obtain ⟨j, hj⟩ := List.mem_iff_getElem?.mp hz
          have hjl : j < out.length := by rw [← wl]; exact (List.getElem?_eq_some_iff.mp hj).1
          rw [(hW rfl).lo j hjl] at hj
          exact w2 z (List.mem_of_getElem? hj)
        | false => rw [hw rfl] at hz; exact w2 z hz
      have W : WideM ts own (mkMenu out w) := wide_ok ht O.asc O.ok O.few O.ne wl wb fun ho => ⟨O.mir ho, fun i j x hi hj => by
        have OO : Own ts out := ⟨O.asc, O.ok, O.mir ho⟩
        rw [(hW ho).lo i (List.getElem?_eq_some_iff.mp hi).1, (hW ho).lo j (List.getElem?_eq_some_iff.mp hj).1, OO.c_mir hi hj]⟩
      have sb := sum_bd w wb
      have S1 : (1 : Int) ≤ w.sum := by
        have := List.length_pos_iff.mpr O.ne
        omega
      have S2 : w.sum ≤ 20 := by have := O.few; omega
      refine Dl.s_freeze (x := "weights") (i := 6) rfl rfl (by cases g5 <;> cases g7 <;> rfl) d0 d1 ?_
      repeat' walk_at "dl"
      refine Dl.d_ofLc (Dl.l_T (QL := fun zs => zs = (mkMenu out w).map eRow) (fun q : Itm × Int => .tuple [eI q.1, .int q.2]) (fun q => eRow (q.1, red (q.2, w.sum))) (own := [("item", 5), ("weight", 8)]) (is := [5, 8]) (by kernel_rfl) (by decide) ?_) (fun zs hz => ?_)
      · refine Dl.i_zip rfl f6 (Dl.d_nm (s := .dat (.list (out.map eI))) rfl rfl (Dl.d_nm (s := .dat (.list (w.map .int))) rfl rfl (Or.inl ⟨_, _, rfl, rfl, out.zip w, by rw [Dl.pairsT], by rw [Dl.pairsT, List.length_map, List.length_zip, sizeLine_eq]; have := O.few; omega, fun D q hq => ?_, by unfold mkMenu; rw [List.map_map]; rfl⟩)))
        obtain ⟨x, v⟩ := q
        refine Dl.g_tup (ds := [eI x, .int v]) (is := [5, 8]) rfl (Dl.gs_cons (is := [5]) (js := [8]) (Dl.g_nm (i := 5) rfl rfl (Dl.gs_cons (is := [8]) (js := []) (Dl.g_nm (i := 8) rfl rfl (Dl.gs_nil ?_)))))
        repeat' walk_at "dl"
        refine Dl.c_sumI (ns := w) ?_
        repeat' walk_at "dl"
        refine ⟨⟨by show 0 < w.sum; omega, by show w.sum < _; omega⟩, fun s hs => ?_, fun _ h => h.elim⟩
        replace hs : _ = Dl.Sl.dat _ := hs
        subst hs
        repeat' walk_at "dl"
        exact rfl
      · subst hz
        repeat' walk_at "dl"
        exact ⟨_, W, rfl⟩
end
end K76
set_option Elab.async false
set_option linter.all false
set_option maxRecDepth 100000
set_option maxHeartbeats 4000000
set_option autoImplicit false
namespace K76
open PySem PySem.Spec PyProof.Rows L2
local macro_rules | `(tactic| walk_at "nm") => `(tactic| (refine Dl.d_nm (s := ?nmS) ?nmA ?nmB ?_; (case nmA => rfl); (case nmB => rfl)))
local macro_rules | `(tactic| walk_at "fr") => `(tactic| first | assumption)
local macro_rules | `(tactic| walk_at "name") => `(tactic| first
  | walk_at "nm"
  | ((with_reducible show Dl.dE _ _ (Expr.Name "int" _) _ _ _); refine Dl.d_t_int ?frA ?frB ?_; (case frA => walk_at "fr"); (case frB => rfl))
  | ((with_reducible show Dl.dE _ _ (Expr.Name "tuple" _) _ _ _); refine Dl.d_t_tuple ?frA ?frB ?_; (case frA => walk_at "fr"); (case frB => rfl))
  | ((with_reducible show Dl.dE _ _ (Expr.Name "list" _) _ _ _); refine Dl.d_t_list ?frA ?frB ?_; (case frA => walk_at "fr"); (case frB => rfl))
  | ((with_reducible show Dl.dE _ _ (Expr.Name "str" _) _ _ _); refine Dl.d_t_str ?frA ?frB ?_; (case frA => walk_at "fr"); (case frB => rfl))
  | ((with_reducible show Dl.dE _ _ (Expr.Name "bool" _) _ _ _); refine Dl.d_t_bool ?frA ?frB ?_; (case frA => walk_at "fr"); (case frB => rfl))
  | ((with_reducible show Dl.dE _ _ (Expr.Name "set" _) _ _ _); refine Dl.d_t_set ?frA ?frB ?_; (case frA => walk_at "fr"); (case frB => rfl))
  | walk_at "glob")
local macro_rules | `(tactic| walk_at "glob") => `(tactic| first
  | (refine Dl.d_globInt (i := ?gI) ?gA ?gB ?_; (case gA => rfl); (case gB => assumption))
  | (refine Dl.d_globStr (i := ?gI) ?gA ?gB ?_; (case gA => rfl); (case gB => assumption)))
local macro_rules | `(tactic| walk_at "call") => `(tactic| first
  | ((with_reducible show Dl.dE _ _ (Expr.Call (Expr.Name "isinstance" _) _ _ _) _ _ _); refine Dl.d_b_isinstance ?frA ?frB ?_; (case frA => walk_at "fr"); (case frB => rfl))
  | ((with_reducible show Dl.dE _ _ (Expr.Call (Expr.Name "len" _) _ _ _) _ _ _); refine Dl.d_b_len ?frA ?frB ?_; (case frA => walk_at "fr"); (case frB => rfl))
  | ((with_reducible show Dl.dE _ _ (Expr.Call (Expr.Name "all" _) _ _ _) _ _ _); refine Dl.d_b_all ?frA ?frB ?_; (case frA => walk_at "fr"); (case frB => rfl))
  | ((with_reducible show Dl.dE _ _ (Expr.Call (Expr.Name "any" _) _ _ _) _ _ _); refine Dl.d_b_any ?frA ?frB ?_; (case frA => walk_at "fr"); (case frB => rfl))
  | ((with_reducible show Dl.dE _ _ (Expr.Call (Expr.Name "abs" _) _ _ _) _ _ _); refine Dl.d_b_abs ?frA ?frB ?_; (case frA => walk_at "fr"); (case frB => rfl))
  | ((with_reducible show Dl.dE _ _ (Expr.Call (Expr.Name "sum" _) _ _ _) _ _ _); refine Dl.d_b_sum ?frA ?frB ?_; (case frA => walk_at "fr"); (case frB => rfl))
  | ((with_reducible show Dl.dE _ _ (Expr.Call (Expr.Name "min" _) _ _ _) _ _ _); refine Dl.d_b_min ?frA ?frB ?_; (case frA => walk_at "fr"); (case frB => rfl))
  | ((with_reducible show Dl.dE _ _ (Expr.Call (Expr.Name "max" _) _ _ _) _ _ _); refine Dl.d_b_max ?frA ?frB ?_; (case frA => walk_at "fr"); (case frB => rfl))
  | ((with_reducible show Dl.dE _ _ (Expr.Call (Expr.Name "sorted" _) _ _ _) _ _ _); refine Dl.d_b_sorted ?frA ?frB ?_; (case frA => walk_at "fr"); (case frB => rfl))
  | ((with_reducible show Dl.dE _ _ (Expr.Call (Expr.Name "int" _) _ _ _) _ _ _); refine Dl.d_c_int ?frA ?frB ?_; (case frA => walk_at "fr"); (case frB => rfl))
  | ((with_reducible show Dl.dE _ _ (Expr.Call (Expr.Name "tuple" _) _ _ _) _ _ _); refine Dl.d_c_tuple ?frA ?frB ?_; (case frA => walk_at "fr"); (case frB => rfl))
  | ((with_reducible show Dl.dE _ _ (Expr.Call (Expr.Name "list" _) _ _ _) _ _ _); refine Dl.d_c_list ?frA ?frB ?_; (case frA => walk_at "fr"); (case frB => rfl))
  | ((with_reducible show Dl.dE _ _ (Expr.Call (Expr.Name "str" _) _ _ _) _ _ _); refine Dl.d_c_str ?frA ?frB ?_; (case frA => walk_at "fr"); (case frB => rfl))
  | ((with_reducible show Dl.dE _ _ (Expr.Call (Expr.Name "bool" _) _ _ _) _ _ _); refine Dl.d_c_bool ?frA ?frB ?_; (case frA => walk_at "fr"); (case frB => rfl))
  | ((with_reducible show Dl.dE _ _ (Expr.Call (Expr.Name "set" _) _ _ _) _ _ _); refine Dl.d_c_set ?frA ?frB ?_; (case frA => walk_at "fr"); (case frB => rfl))
  | (refine Dl.d_fn (j := ?fnJ) (S := ?fnS) ?fnA ?fnB ?fnC ?_; (case fnA => assumption); (case fnB => exact Nat.le_of_ble_eq_true rfl); (case fnC => rfl)))
local macro_rules | `(tactic| walk_at "ed") => `(tactic| ((with_reducible show Dl.dE _ _ _ _ _ _); first
  | ((with_reducible show Dl.dE _ _ (Expr.Name _ _) _ _ _); walk_at "name")
  | ((with_reducible show Dl.dE _ _ (Expr.Constant (Const.int _) _ _) _ _ _); refine Dl.d_int ?_)
  | ((with_reducible show Dl.dE _ _ (Expr.Constant (Const.str _) _ _) _ _ _); refine Dl.d_str ?_)
  | ((with_reducible show Dl.dE _ _ (Expr.Constant (Const.bool _) _ _) _ _ _); refine Dl.d_bool ?_)
  | ((with_reducible show Dl.dE _ _ (Expr.Constant Const.none _ _) _ _ _); refine Dl.d_none ?_)
  | ((with_reducible show Dl.dE _ _ (Expr.Call (Expr.Name _ _) [_, Expr.Tuple [Expr.Name _ _, Expr.Name _ _] _ _] _ _) _ _ _); (refine Dl.d_isi2 ?frA ?frB ?frC ?frD ?frE ?frF ?_; (case frA => walk_at "fr"); (case frB => walk_at "fr"); (case frC => walk_at "fr"); (case frD => rfl); (case frE => rfl); (case frF => rfl)))
  | ((with_reducible show Dl.dE _ _ (Expr.Call (Expr.Name _ _) _ _ _) _ _ _); walk_at "call")
  | ((with_reducible show Dl.dE _ _ (Expr.BoolOp _ [_] _) _ _ _); refine Dl.d_one ?_)
  | ((with_reducible show Dl.dE _ _ (Expr.BoolOp BoolOp.And _ _) _ _ _); refine Dl.d_and ?_)
  | ((with_reducible show Dl.dE _ _ (Expr.BoolOp BoolOp.Or _ _) _ _ _); refine Dl.d_or ?_)
  | ((with_reducible show Dl.dE _ _ (Expr.UnaryOp UnaryOp.Not _ _) _ _ _); refine Dl.d_not ?_)
  | ((with_reducible show Dl.dE _ _ (Expr.UnaryOp UnaryOp.USub _ _) _ _ _); refine Dl.d_neg ?_)
  | ((with_reducible show Dl.dE _ _ (Expr.BinOp _ _ _ _) _ _ _); refine Dl.d_bin ?_)
  | ((with_reducible show Dl.dE _ _ (Expr.Compare _ [_] _ _) _ _ _); refine Dl.d_cmp ?_)
  | ((with_reducible show Dl.dE _ _ (Expr.Compare _ [_, _] _ _) _ _ _); refine Dl.d_chain ?_)
  | ((with_reducible show Dl.dE _ _ (Expr.IfExp _ _ _ _) _ _ _); refine Dl.d_if ?_)
  | ((with_reducible show Dl.dE _ _ (Expr.Tuple _ _ _) _ _ _); refine Dl.d_tup ?_)
  | ((with_reducible show Dl.dE _ _ (Expr.List _ _) _ _ _); refine Dl.d_lst ?_)
  | ((with_reducible show Dl.dE _ _ (Expr.Subscript _ (Expr.Slice _ _ _ _) _) _ _ _); refine Dl.d_slice ?_)
  | ((with_reducible show Dl.dE _ _ (Expr.Subscript _ _ _) _ _ _); refine Dl.d_ix ?_)))
local macro_rules | `(tactic| walk_at "ad") => `(tactic| ((with_reducible show Dl.dA _ _ _ _ _ _); first | refine Dl.a_nil ?_ | refine Dl.a_cons ?_))
local macro_rules | `(tactic| walk_at "td") => `(tactic| first
  | ((with_reducible show Dl.dT _ _ (Expr.UnaryOp UnaryOp.Not _ _) _ _ _); refine Dl.t_not ?_)
  | ((with_reducible show Dl.dT _ _ (Expr.BoolOp _ _ _) _ _ _); refine Dl.t_bool ?_)
  | ((with_reducible show Dl.dT _ _ (Expr.Compare _ [_] _ _) _ _ _); refine Dl.t_cmp ?_)
  | ((with_reducible show Dl.dT _ _ (Expr.Compare _ [_, _] _ _) _ _ _); refine Dl.t_chain ?_)
  | ((with_reducible show Dl.dT _ _ (_) _ _ _); refine Dl.t_val ?_)
  | ((with_reducible show Dl.dW _ _ (Expr.BoolOp BoolOp.And [_] _) _ _ _); refine Dl.w_and1 ?_)
  | ((with_reducible show Dl.dW _ _ (Expr.BoolOp BoolOp.Or [_] _) _ _ _); refine Dl.w_or1 ?_)
  | ((with_reducible show Dl.dW _ _ (Expr.BoolOp BoolOp.And _ _) _ _ _); refine Dl.w_and ?_)
  | ((with_reducible show Dl.dW _ _ (Expr.BoolOp BoolOp.Or _ _) _ _ _); refine Dl.w_or ?_))
local macro_rules | `(tactic| walk_at "od") => `(tactic| ((with_reducible show Dl.OpD _ _ _ _ _ _); first
  | refine Dl.o_add ?_ | refine Dl.o_sub ?_ | refine Dl.o_lt ?_ | refine Dl.o_le ?_ | refine Dl.o_gt ?_ | refine Dl.o_ge ?_ | refine Dl.o_eq ?_ | refine Dl.o_ne ?_ | refine Dl.o_eqS ?_ | refine Dl.o_mul ?_ ?_ | refine Dl.o_mod ?_ ?_ | refine Dl.o_fdivW ?_ ?_ | refine Dl.o_inS ?_ | refine Dl.o_notInS ?_
  | refine Dl.o_isN ?_ | refine Dl.o_notN ?_))
local macro_rules | `(tactic| walk_at "cd") => `(tactic| ((with_reducible show Dl.CallD _ _ _ _ _); first
  | refine Dl.c_lenT ?_ | refine Dl.c_lenL ?_ | refine Dl.c_lenO ?_ | refine Dl.c_abs ?_ | refine Dl.c_int ?_ | refine Dl.c_lenS ?_ ?_ | refine Dl.c_allT ?_
  | refine Dl.c_isInt ?_ | refine Dl.c_isBool ?_ | refine Dl.c_isStr ?_ | refine Dl.c_isTuple ?_ | refine Dl.c_isList ?_
  | refine Dl.c_allF ?_ | refine Dl.c_tupL ?_ | refine Dl.c_tupT ?_))
local macro_rules | `(tactic| walk_at "sd") => `(tactic| first
  | ((with_reducible show Dl.dS _ _ _ (Stmt.Return (some _) _) _ _ _ _); refine Dl.s_ret ?_)
  | ((with_reducible show Dl.dS _ _ _ (Stmt.Assign [Expr.Tuple [Expr.Name _ _, Expr.Name _ _] _ _] (Expr.Tuple [_, _] _ _) _) _ _ _ _); (refine Dl.s_pr (i := ?stI) (j := ?stJ) ?stA ?stB ?stC ?stD ?stE ?_; (case stA => rfl); (case stB => rfl); (case stC => rfl); (case stD => rfl); (case stE => rfl)))
  | ((with_reducible show Dl.dS _ _ _ (Stmt.If _ _ _ _) _ _ _ _); refine Dl.s_if ?_)
  | ((with_reducible show Dl.dS _ _ _ (Stmt.Assign [Expr.Name _ _] _ _) _ _ _ _); (refine Dl.s_st (i := ?stI) ?stA ?stB ?stC ?_; (case stA => rfl); (case stB => rfl); (case stC => rfl)))
  | ((with_reducible show Dl.dS _ _ _ (Stmt.Expr _ _) _ _ _ _); refine Dl.s_expr ?_)
  | ((with_reducible show Dl.dSs _ _ _ _ _ _ _ _); first | refine Dl.s_cons ?_ | refine Dl.s_nil ?_))
local macro_rules | `(tactic| walk_at "xd") => `(tactic| ((with_reducible show Dl.IxD _ _ _ _ _); first | (refine Dl.x_T (d := ?ixD) ?ixE ?_; (case ixE => rfl)) | (refine Dl.x_L (d := ?ixD) ?ixE ?_; (case ixE => rfl)) | (refine Dl.x_O (d := ?ixD) ?ixE ?_; (case ixE => rfl))))
local macro_rules | `(tactic| walk_at "ds") => `(tactic| (refine Dl.ex_dats (ds := ?dsW) ?dsA ?dsB ?_; (case dsA => rfl); (case dsB => rfl)))
local macro_rules | `(tactic| walk_at "dl") => `(tactic| first
  | walk_at "ds"
  | walk_at "ed"
  | walk_at "ad"
  | walk_at "td"
  | walk_at "od"
  | walk_at "cd"
  | walk_at "sd"
  | walk_at "xd"
  | ((with_reducible refine ⟨_, rfl, fun hc => ?_, fun hc => ?_⟩) <;> (first | contradiction | (exfalso; revert hc; simp [Dl.isTy, Dl.tyD]; done) | skip))
  | ((with_reducible refine ⟨fun hc => ?_, fun hc => ?_⟩) <;> (first | contradiction | (exfalso; revert hc; simp [Dl.isTy, Dl.tyD]; done) | skip))
  | (refine ⟨_, _, rfl, rfl, ?_⟩)
  | (refine ⟨rfl, ?_⟩)
  | (with_reducible refine ⟨_, rfl, ?_⟩)
  | (refine ⟨(_, _), rfl, ?_⟩)
  | (refine ⟨(_, _, _), rfl, ?_⟩)
  | (refine ⟨True.intro, fun _ hs => ?_, fun _ hx => False.elim hx⟩; replace hs : _ = Dl.Sl.dat _ := hs; subst hs)
  | (refine ⟨by assumption, fun _ hs => ?_, fun _ hx => False.elim hx⟩; replace hs : _ = Dl.Sl.dat _ := hs; subst hs)
  | fail)
/-! ### a wide kind -/
structure WideK (k : Kd) : Prop where
  ok : KindOk k
  none : kindFault k = Option.none
  few : ∀ m ∈ k.menus, m.length ≤ 6 ∧ m ≠ []
  ties : k.ties ≠ []
def wkSpec : Dl.Spec where
  α := Int
  arg n := [.bag, .dat (.int n)]
  pre n := n = 2 ∨ n = 3
  post n s := ∃ k : Kd, WideK k ∧ s = .dat (eKd k)
theorem e_a : (Str.ofString "a") = nmS 97 := by decide +kernel
theorem e_b : (Str.ofString "b") = nmS 98 := by decide +kernel
theorem e_c : (Str.ofString "c") = nmS 99 := by decide +kernel
theorem e_q : (Str.ofString "q") = nmS 113 := by decide +kernel
theorem e_t : (Str.ofString "t") = nmS 116 := by decide +kernel
theorem e_u : (Str.ofString "u") = nmS 117 := by decide +kernel
theorem e_v : (Str.ofString "v") = nmS 118 := by decide +kernel
theorem e_w : (Str.ofString "w") = nmS 119 := by decide +kernel
def colsA : List Col := [(97, (1, 3)), (98, (2, 3))]
def colsB : List Col := [(97, (1, 6)), (98, (1, 3)), (99, (1, 2))]
def colsC : List Col := [(99, (1, 4)), (97, (3, 4))]
def tiesA : List Tie := [(116, false), (117, true)]
def tiesB : List Tie := [(116, false), (118, false)]
def tiesC : List Tie := [(116, false), (117, true), (118, false)]
def tiesD : List Tie := [(117, true), (119, true)]
def colsOk (cs : List Col) : Prop := (cs.length = 2 ∨ cs.length = 3) ∧ (∀ c ∈ cs, c.1 ∈ inNames ∧ isShare c.2 = true) ∧ colsFault cs = none
theorem cols_ok : colsOk colsA ∧ colsOk colsB ∧ colsOk colsC := by
  have cf : ∀ cs : List Col, firstC cs = none → sumF (cs.map (·.2)) = (1, 1) → colsFault cs = none := fun cs h1 h2 => by
    unfold colsFault
    rw [h1]
    dsimp only
    rw [if_pos h2]
  exact ⟨⟨.inl rfl, by decide +kernel, cf _ (by decide +kernel) (by decide +kernel)⟩, ⟨.inr rfl, by decide +kernel, cf _ (by decide +kernel) (by decide +kernel)⟩, ⟨.inl rfl, by decide +kernel, cf _ (by decide +kernel) (by decide +kernel)⟩⟩
def tiesOk (ts : List Tie) : Prop := (ts.length = 2 ∨ ts.length = 3) ∧ (∀ t ∈ ts, t.1 ∈ inNames) ∧ (ts.map (·.1)).Nodup
theorem ties_ok : tiesOk tiesA ∧ tiesOk tiesB ∧ tiesOk tiesC ∧ tiesOk tiesD := by
  refine ⟨⟨.inl rfl, by decide, by decide⟩, ⟨.inl rfl, by decide, by decide⟩, ⟨.inr rfl, by decide, by decide⟩, ⟨.inl rfl, by decide, by decide⟩⟩
theorem tiesOk.perm {ts us : List Tie} (h : tiesOk ts) (p : us.Perm ts) : tiesOk us :=
  ⟨by rw [p.length_eq]; exact h.1, fun t ht => h.2.1 t (p.mem_iff.mp ht), (p.map (·.1)).nodup_iff.mpr h.2.2⟩
theorem firstA_nd {l : List Nat} (h : l.Nodup) : firstA l = none := firstA_none fun i hi => by
  unfold alike
  have hx : l[i]? = some l[i] := by simp [hi]
  rw [hx]
  dsimp only
  rw [Bool.eq_false_iff]
  intro z
  rw [List.contains_iff_mem] at z
  obtain ⟨j, hj⟩ := List.mem_iff_getElem?.mp z
  have hji : j < i := by
    have := (List.getElem?_eq_some_iff.mp hj).1
    rw [List.length_take] at this
    omega
  rw [List.getElem?_take_of_lt hji] at hj
  have := (List.getElem?_inj (i := j) (j := i) (by omega) h).mp (by rw [hj, hx])
  omega
theorem perm_of {α : Type} (f : α → PyData) {l : List α} : ∀ {es : List PyData}, es.Perm (l.map f) → ∃ l' : List α, l'.Perm l ∧ es = l'.map f := by
  have key : ∀ {es ds : List PyData}, es.Perm ds → ∀ l : List α, ds = l.map f → ∃ l' : List α, l'.Perm l ∧ es = l'.map f := by
    intro es ds pm
    induction pm with
    | nil => intro l e; exact ⟨l, .refl _, e⟩
    | cons x _ ih =>
      intro l e
      cases l with
      | nil => cases e
      | cons z l =>
        injection e with e1 e2
        obtain ⟨l2, p2, q2⟩ := ih l e2
        exact ⟨z :: l2, p2.cons z, by rw [List.map_cons, ← q2, e1]⟩
    | swap x y l0 =>
      intro l e
      cases l with
      | nil => cases e
      | cons z l =>
        cases l with
        | nil => cases e
        | cons w l =>
          injection e with e1 e2
          injection e2 with e2 e3
          exact ⟨w :: z :: l, .swap .., by rw [List.map_cons, List.map_cons, e1, e2, e3]⟩
    | trans _ _ ih1 ih2 =>
      intro l e
      obtain ⟨k2, p2, q2⟩ := ih2 l e
      obtain ⟨k3, p3, q3⟩ := ih1 k2 q2
      exact ⟨k3, p3.trans p2, q3⟩
  intro es pm
  exact key pm l rfl
theorem WideM.none {ts : List Tie} {own : Bool} {m : Menu} (W : WideM ts own m) : menuFault ts m own = Option.none := by
  unfold menuFault
  rw [if_neg (by rw [W.asc, W.fits]; simp [W.ne]), if_neg (by rw [W.pos]; simp), if_neg (by simp [W.sum])]
  cases own with
  | true => rw [W.mir rfl]; rfl
  | false => rfl
theorem WideM.ok {ts : List Tie} {own : Bool} {m : Menu} (W : WideM ts own m) : MenuOk m := ⟨Nat.le_trans W.len (by decide), W.rows⟩
section
variable {G : Dl.Gd}
theorem ok_wide_kind (T : Top G) : Dl.Fn G 4 "_law_wide_kind" wkSpec := by
  have f1 := fr_tuple T
  have f2 := fr_len T
  have h1 := ok_some T
  have h2 := ok_mixed T
  have h3 := ok_rows T
  have h4 := ok_wide_menu T
  refine mk__law_wide_kind T (fun _ => rfl) fun cdv M0 (n : Int) hp => ?_
  have hst : Dl.startG N__law_wide_kind (wkSpec.arg n) = [some .bag, some (.dat (.int n)), none, none, none, none, none, none, none, none, none, none, none] := rfl
  rw [hst]
  refine Dl.s_cons (s_asgS (is := [2, 3]) ?_)
  repeat' walk_at "dl"
  refine Dl.g_tup (ds := [.tuple (colsA.map eCol), .tuple (colsB.map eCol)]) (is := [2, 3]) rfl (Dl.gs_cons (is := [2]) (js := [3]) (Dl.g_nm (i := 2) rfl rfl (Dl.gs_cons (is := [3]) (js := []) (Dl.g_nm (i := 3) rfl rfl (Dl.gs_nil ?_)))))
  refine Dl.s_cons (Dl.s_st (i := 4) rfl rfl rfl ?_)
  repeat' walk_at "dl"
  refine ⟨⟨by simp, by decide⟩, fun s hs => ?_, fun _ h => h.elim⟩
  obtain ⟨d, hd, rfl⟩ := hs
  have hd : d ∈ [PyData.tuple (colsA.map eCol), PyData.tuple (colsB.map eCol), PyData.tuple (colsC.map eCol)] := hd
  obtain ⟨cs, hcs, rfl⟩ : ∃ cs, colsOk cs ∧ d = .tuple (cs.map eCol) := by
    rcases List.mem_cons.mp hd with rfl | hd
    · exact ⟨_, cols_ok.1, rfl⟩
    · rcases List.mem_cons.mp hd with rfl | hd
      · exact ⟨_, cols_ok.2.1, rfl⟩
      · exact ⟨_, cols_ok.2.2, List.mem_singleton.mp hd⟩
  clear hd
  have cl1 : 1 ≤ cs.length := by rcases hcs.1 with h | h <;> omega
  have cl3 : cs.length ≤ 3 := by rcases hcs.1 with h | h <;> omega
  refine ⟨rfl, ?_⟩
  refine Dl.s_cons (s_asgS (is := [5, 6, 7]) ?_)
  repeat' walk_at "dl"
  refine Dl.g_tup (ds := [eTie (116, false), eTie (117, true), eTie (118, false)]) (is := [5, 6, 7]) rfl (Dl.gs_cons (is := [5]) (js := [6, 7]) (Dl.g_nm (i := 5) rfl rfl (Dl.gs_cons (is := [6]) (js := [7]) (Dl.g_nm (i := 6) rfl rfl (Dl.gs_cons (is := [7]) (js := []) (Dl.g_nm (i := 7) rfl rfl (Dl.gs_nil ?_)))))))
  refine Dl.s_cons (Dl.s_st (i := 8) rfl rfl rfl ?_)
  repeat' walk_at "dl"
  refine ⟨⟨by simp, by decide⟩, fun s hs => ?_, fun _ h => h.elim⟩
  obtain ⟨d, hd, rfl⟩ := hs
  have hd : d ∈ [PyData.list (tiesA.map eTie), PyData.list (tiesB.map eTie), PyData.list (tiesC.map eTie), PyData.list (tiesD.map eTie)] := hd
  obtain ⟨ts0, hts0, rfl⟩ : ∃ ts, tiesOk ts ∧ d = .list (ts.map eTie) := by
    rcases List.mem_cons.mp hd with rfl | hd
    · exact ⟨_, ties_ok.1, rfl⟩
    · rcases List.mem_cons.mp hd with rfl | hd
      · exact ⟨_, ties_ok.2.1, rfl⟩
      · rcases List.mem_cons.mp hd with rfl | hd
        · exact ⟨_, ties_ok.2.2.1, rfl⟩
        · exact ⟨_, ties_ok.2.2.2, List.mem_singleton.mp hd⟩
  clear hd
  repeat' walk_at "dl"
  refine ⟨by show (ts0.map eTie).length ≤ 1000; rw [List.length_map]; rcases hts0.1 with h | h <;> omega, fun s hs => ?_, fun _ h => h.elim⟩
  obtain ⟨es, pm, rfl⟩ := hs
  obtain ⟨ts, pt, rfl⟩ := perm_of eTie pm
  have hts := hts0.perm pt
  clear pm pt
  refine Dl.a_nil (Dl.c_tupL ⟨rfl, ?_⟩)
  refine Dl.s_cons (Dl.s_new (i := 9) rfl rfl rfl (Dl.a_nil (Dl.ex_dats (ds := []) rfl rfl fun D d0 d1 => ?_)))
  have clen : (couplesI cs.length).length ≤ 6 := by
    rcases hcs.1 with h | h <;> rw [h] <;> decide
  refine Dl.s_cons (Dl.s_forT (couplesI cs.length) eC [10, 11] (fun i M Γ => M = D :: M0 ∧ ∃ (ms : List Menu) (g10 g11 : Option PyData), Γ = [some .bag, some (.dat (.int n)), some (.dat (.tuple (colsA.map eCol))), some (.dat (.tuple (colsB.map eCol))), some (.dat (.tuple (cs.map eCol))), some (.dat (eTie (116, false))), some (.dat (eTie (117, true))), some (.dat (eTie (118, false))), some (.dat (.tuple (ts.map eTie))), some (.own D (ms.map eMenu)), g10.map Dl.Sl.dat, g11.map Dl.Sl.dat, none] ∧ ms.length = i ∧ ∀ (j : Nat) (c : Nat × Nat) (m : Menu), (couplesI cs.length)[j]? = some c → ms[j]? = some m → WideM ts (c.1 == c.2) m) ?_)
  · refine Dl.i_listL (Dl.d_ofLc (Dl.l_TF (QL := fun zs => zs = ((rowsR cs.length 2).filter (fun x => decide (x.getD 0 0 ≤ x.getD 1 0))).map eI) eI (fun x => decide (x.getD 0 0 ≤ x.getD 1 0)) eI (own := [("couple", 12)]) (is := [12]) (by kernel_rfl) (by decide) ?_) (fun zs hz => ?_))
    · refine Dl.i_listL ?_
      repeat' walk_at "dl"
      refine ⟨⟨by rw [List.length_map]; exact cl1, by rw [List.length_map]; exact Nat.le_trans cl3 (by decide)⟩, fun s hs => ?_, fun _ h => h.elim⟩
      replace hs : _ = Dl.Sl.dat _ := hs
      rw [List.length_map] at hs
      subst hs
      refine ⟨_, rfl, fun hl => ⟨rowsR cs.length 2, rfl, hl, fun D x hx => ?_, rfl⟩⟩
      obtain ⟨u, v, rfl⟩ := rows_two cl1 cl3 x hx
      refine Dl.g_nm (i := 12) rfl rfl ?_
      repeat' walk_at "dl"
      first | exact ⟨rfl, fun _ => Dl.d_nm rfl rfl rfl⟩ | exact fun _ => Dl.d_nm rfl rfl rfl
    rw [coup_of cl1 cl3] at hz
    subst hz
    refine ⟨_, rfl, fun hl => ⟨rfl, ⟨rfl, [], none, none, rfl, rfl, fun j c m _ h => by simp at h⟩, fun i c M Γ hx hI => ?_, fun M Γ hI => ?_⟩⟩
    · obtain ⟨rfl, ms, g10, g11, rfl, ml, mW⟩ := hI
      obtain ⟨o, u⟩ := c
      refine Dl.g_tup (ds := [.int (o : Nat), .int (u : Nat)]) (is := [10, 11]) rfl (Dl.gs_cons (is := [10]) (js := [11]) (Dl.g_nm (i := 10) rfl rfl (Dl.gs_cons (is := [11]) (js := []) (Dl.g_nm (i := 11) rfl rfl (Dl.gs_nil ?_)))))
      have hi := (List.getElem?_eq_some_iff.mp hx).1
      refine Dl.s_cons (Dl.s_append (i := 9) (ds := ms.map eMenu) (ad := D) rfl rfl rfl rfl d0 (by rw [List.length_map, ml, sizeLine_eq]; omega) ?_)
      repeat' walk_at "dl"
      refine ⟨⟨hts.1, hts.2.1⟩, fun s hs => ?_, fun _ h => h.elim⟩
      have hs : wmSpec.post (ts, decide ((o : Int) = (u : Int))) s := hs
      obtain ⟨m, W, rfl⟩ := hs
      refine ⟨_, rfl, Dl.s_nil ⟨rfl, ms ++ [m], some (.int (o : Nat)), some (.int (u : Nat)), by rw [List.map_append]; rfl, by rw [List.length_append, ml]; rfl, fun j c m' hc hm => ?_⟩⟩
      by_cases hj : j < ms.length
      · rw [List.getElem?_append_left hj] at hm
        exact mW j c m' hc hm
      · have hji : j = i := by
          have := (List.getElem?_eq_some_iff.mp hm).1
          rw [List.length_append, List.length_singleton] at this
          omega
        subst hji
        rw [hx] at hc
        cases hc
        rw [List.getElem?_append_right (by omega), ml, Nat.sub_self] at hm
        cases hm
        dsimp only
        rw [beq_dec]
        exact W
    · obtain ⟨rfl, ms, g10, g11, rfl, ml, mW⟩ := hI
      have hmem : ∀ m ∈ ms, ∃ own, WideM ts own m := fun m hm => by
        obtain ⟨j, hj⟩ := List.mem_iff_getElem?.mp hm
        have hjl := (List.getElem?_eq_some_iff.mp hj).1
        rw [ml] at hjl
        exact ⟨_, mW j _ m (List.getElem?_eq_getElem hjl) hj⟩
      refine Dl.s_freeze (x := "menus") (i := 9) rfl rfl (by cases g10 <;> cases g11 <;> rfl) d0 d1 ?_
      repeat' walk_at "dl"
      have t2 : ts.length ≤ 3 := by rcases hts.1 with h | h <;> omega
      refine ⟨⟨n, cs, ts, ms⟩, ⟨⟨hp, ⟨cl1, cl3⟩, hcs.2.1, t2, hts.2.1, fun m hm => ?_, ?_⟩, ?_, fun m hm => ?_, fun z => ?_⟩, rfl⟩
      · obtain ⟨_, W⟩ := hmem m hm
        exact W.ok
      · show ms.length = cs.length * (cs.length + 1) / 2
        rw [ml]
        rcases hcs.1 with h | h <;> rw [h] <;> rfl
      · unfold kindFault
        dsimp only
        rw [hcs.2.2]
        dsimp only
        rw [firstA_nd hts.2.2]
        dsimp only
        refine findS_none fun j q hq => ?_
        obtain ⟨c, m⟩ := q
        rw [List.getElem?_zip_eq_some] at hq
        unfold menuOf
        dsimp only
        rw [(mW j c m hq.1 hq.2).none]
        rfl
      · obtain ⟨_, W⟩ := hmem m hm
        exact ⟨W.len, W.ne⟩
      · have z : ts = [] := z
        rcases hts.1 with h | h <;> rw [z] at h <;> cases h
end
end K76
set_option Elab.async false
set_option linter.all false
set_option maxRecDepth 100000
set_option maxHeartbeats 4000000
set_option autoImplicit false
namespace K76
open PySem PySem.Spec PyProof.Rows L2
local macro_rules | `(tactic| walk_at "nm") => `(tactic| (refine Dl.d_nm (s := ?nmS) ?nmA ?nmB ?_; (case nmA => rfl); (case nmB => rfl)))
local macro_rules | `(tactic| walk_at "fr") => `(tactic| first | assumption)
local macro_rules | `(tactic| walk_at "name") => `(tactic| first
  | walk_at "nm"
  | ((with_reducible show Dl.dE _ _ (Expr.Name "int" _) _ _ _); refine Dl.d_t_int ?frA ?frB ?_; (case frA => walk_at "fr"); (case frB => rfl))
  | ((with_reducible show Dl.dE _ _ (Expr.Name "tuple" _) _ _ _); refine Dl.d_t_tuple ?frA ?frB ?_; (case frA => walk_at "fr"); (case frB => rfl))
  | ((with_reducible show Dl.dE _ _ (Expr.Name "list" _) _ _ _); refine Dl.d_t_list ?frA ?frB ?_; (case frA => walk_at "fr"); (case frB => rfl))
  | ((with_reducible show Dl.dE _ _ (Expr.Name "str" _) _ _ _); refine Dl.d_t_str ?frA ?frB ?_; (case frA => walk_at "fr"); (case frB => rfl))
  | ((with_reducible show Dl.dE _ _ (Expr.Name "bool" _) _ _ _); refine Dl.d_t_bool ?frA ?frB ?_; (case frA => walk_at "fr"); (case frB => rfl))
  | ((with_reducible show Dl.dE _ _ (Expr.Name "set" _) _ _ _); refine Dl.d_t_set ?frA ?frB ?_; (case frA => walk_at "fr"); (case frB => rfl))
  | walk_at "glob")
local macro_rules | `(tactic| walk_at "glob") => `(tactic| first
  | (refine Dl.d_globInt (i := ?gI) ?gA ?gB ?_; (case gA => rfl); (case gB => assumption))
  | (refine Dl.d_globStr (i := ?gI) ?gA ?gB ?_; (case gA => rfl); (case gB => assumption)))
local macro_rules | `(tactic| walk_at "call") => `(tactic| first
  | ((with_reducible show Dl.dE _ _ (Expr.Call (Expr.Name "isinstance" _) _ _ _) _ _ _); refine Dl.d_b_isinstance ?frA ?frB ?_; (case frA => walk_at "fr"); (case frB => rfl))
  | ((with_reducible show Dl.dE _ _ (Expr.Call (Expr.Name "len" _) _ _ _) _ _ _); refine Dl.d_b_len ?frA ?frB ?_; (case frA => walk_at "fr"); (case frB => rfl))
  | ((with_reducible show Dl.dE _ _ (Expr.Call (Expr.Name "all" _) _ _ _) _ _ _); refine Dl.d_b_all ?frA ?frB ?_; (case frA => walk_at "fr"); (case frB => rfl))
  | ((with_reducible show Dl.dE _ _ (Expr.Call (Expr.Name "any" _) _ _ _) _ _ _); refine Dl.d_b_any ?frA ?frB ?_; (case frA => walk_at "fr"); (case frB => rfl))
  | ((with_reducible show Dl.dE _ _ (Expr.Call (Expr.Name "abs" _) _ _ _) _ _ _); refine Dl.d_b_abs ?frA ?frB ?_; (case frA => walk_at "fr"); (case frB => rfl))
  | ((with_reducible show Dl.dE _ _ (Expr.Call (Expr.Name "sum" _) _ _ _) _ _ _); refine Dl.d_b_sum ?frA ?frB ?_; (case frA => walk_at "fr"); (case frB => rfl))
  | ((with_reducible show Dl.dE _ _ (Expr.Call (Expr.Name "min" _) _ _ _) _ _ _); refine Dl.d_b_min ?frA ?frB ?_; (case frA => walk_at "fr"); (case frB => rfl))
  | ((with_reducible show Dl.dE _ _ (Expr.Call (Expr.Name "max" _) _ _ _) _ _ _); refine Dl.d_b_max ?frA ?frB ?_; (case frA => walk_at "fr"); (case frB => rfl))
  | ((with_reducible show Dl.dE _ _ (Expr.Call (Expr.Name "sorted" _) _ _ _) _ _ _); refine Dl.d_b_sorted ?frA ?frB ?_; (case frA => walk_at "fr"); (case frB => rfl))
  | ((with_reducible show Dl.dE _ _ (Expr.Call (Expr.Name "int" _) _ _ _) _ _ _); refine Dl.d_c_int ?frA ?frB ?_; (case frA => walk_at "fr"); (case frB => rfl))
  | ((with_reducible show Dl.dE _ _ (Expr.Call (Expr.Name "tuple" _) _ _ _) _ _ _); refine Dl.d_c_tuple ?frA ?frB ?_; (case frA => walk_at "fr"); (case frB => rfl))
  | ((with_reducible show Dl.dE _ _ (Expr.Call (Expr.Name "list" _) _ _ _) _ _ _); refine Dl.d_c_list ?frA ?frB ?_; (case frA => walk_at "fr"); (case frB => rfl))
  | ((with_reducible show Dl.dE _ _ (Expr.Call (Expr.Name "str" _) _ _ _) _ _ _); refine Dl.d_c_str ?frA ?frB ?_; (case frA => walk_at "fr"); (case frB => rfl))
  | ((with_reducible show Dl.dE _ _ (Expr.Call (Expr.Name "bool" _) _ _ _) _ _ _); refine Dl.d_c_bool ?frA ?frB ?_; (case frA => walk_at "fr"); (case frB => rfl))
  | ((with_reducible show Dl.dE _ _ (Expr.Call (Expr.Name "set" _) _ _ _) _ _ _); refine Dl.d_c_set ?frA ?frB ?_; (case frA => walk_at "fr"); (case frB => rfl))
  | (refine Dl.d_fn (j := ?fnJ) (S := ?fnS) ?fnA ?fnB ?fnC ?_; (case fnA => assumption); (case fnB => exact Nat.le_of_ble_eq_true rfl); (case fnC => rfl)))
local macro_rules | `(tactic| walk_at "ed") => `(tactic| ((with_reducible show Dl.dE _ _ _ _ _ _); first
  | ((with_reducible show Dl.dE _ _ (Expr.Name _ _) _ _ _); walk_at "name")
  | ((with_reducible show Dl.dE _ _ (Expr.Constant (Const.int _) _ _) _ _ _); refine Dl.d_int ?_)
  | ((with_reducible show Dl.dE _ _ (Expr.Constant (Const.str _) _ _) _ _ _); refine Dl.d_str ?_)
  | ((with_reducible show Dl.dE _ _ (Expr.Constant (Const.bool _) _ _) _ _ _); refine Dl.d_bool ?_)
  | ((with_reducible show Dl.dE _ _ (Expr.Constant Const.none _ _) _ _ _); refine Dl.d_none ?_)
  | ((with_reducible show Dl.dE _ _ (Expr.Call (Expr.Name _ _) [_, Expr.Tuple [Expr.Name _ _, Expr.Name _ _] _ _] _ _) _ _ _); (refine Dl.d_isi2 ?frA ?frB ?frC ?frD ?frE ?frF ?_; (case frA => walk_at "fr"); (case frB => walk_at "fr"); (case frC => walk_at "fr"); (case frD => rfl); (case frE => rfl); (case frF => rfl)))
  | ((with_reducible show Dl.dE _ _ (Expr.Call (Expr.Name _ _) _ _ _) _ _ _); walk_at "call")
  | ((with_reducible show Dl.dE _ _ (Expr.BoolOp _ [_] _) _ _ _); refine Dl.d_one ?_)
  | ((with_reducible show Dl.dE _ _ (Expr.BoolOp BoolOp.And _ _) _ _ _); refine Dl.d_and ?_)
  | ((with_reducible show Dl.dE _ _ (Expr.BoolOp BoolOp.Or _ _) _ _ _); refine Dl.d_or ?_)
  | ((with_reducible show Dl.dE _ _ (Expr.UnaryOp UnaryOp.Not _ _) _ _ _); refine Dl.d_not ?_)
  | ((with_reducible show Dl.dE _ _ (Expr.UnaryOp UnaryOp.USub _ _) _ _ _); refine Dl.d_neg ?_)
  | ((with_reducible show Dl.dE _ _ (Expr.BinOp _ _ _ _) _ _ _); refine Dl.d_bin ?_)
  | ((with_reducible show Dl.dE _ _ (Expr.Compare _ [_] _ _) _ _ _); refine Dl.d_cmp ?_)
  | ((with_reducible show Dl.dE _ _ (Expr.Compare _ [_, _] _ _) _ _ _); refine Dl.d_chain ?_)
  | ((with_reducible show Dl.dE _ _ (Expr.IfExp _ _ _ _) _ _ _); refine Dl.d_if ?_)
  | ((with_reducible show Dl.dE _ _ (Expr.Tuple _ _ _) _ _ _); refine Dl.d_tup ?_)
  | ((with_reducible show Dl.dE _ _ (Expr.List _ _) _ _ _); refine Dl.d_lst ?_)
  | ((with_reducible show Dl.dE _ _ (Expr.Subscript _ (Expr.Slice _ _ _ _) _) _ _ _); refine Dl.d_slice ?_)
  | ((with_reducible show Dl.dE _ _ (Expr.Subscript _ _ _) _ _ _); refine Dl.d_ix ?_)))
local macro_rules | `(tactic| walk_at "ad") => `(tactic| ((with_reducible show Dl.dA _ _ _ _ _ _); first | refine Dl.a_nil ?_ | refine Dl.a_cons ?_))
local macro_rules | `(tactic| walk_at "td") => `(tactic| first
  | ((with_reducible show Dl.dT _ _ (Expr.UnaryOp UnaryOp.Not _ _) _ _ _); refine Dl.t_not ?_)
  | ((with_reducible show Dl.dT _ _ (Expr.BoolOp _ _ _) _ _ _); refine Dl.t_bool ?_)
  | ((with_reducible show Dl.dT _ _ (Expr.Compare _ [_] _ _) _ _ _); refine Dl.t_cmp ?_)
  | ((with_reducible show Dl.dT _ _ (Expr.Compare _ [_, _] _ _) _ _ _); refine Dl.t_chain ?_)
  | ((with_reducible show Dl.dT _ _ (_) _ _ _); refine Dl.t_val ?_)
  | ((with_reducible show Dl.dW _ _ (Expr.BoolOp BoolOp.And [_] _) _ _ _); refine Dl.w_and1 ?_)
  | ((with_reducible show Dl.dW _ _ (Expr.BoolOp BoolOp.Or [_] _) _ _ _); refine Dl.w_or1 ?_)
  | ((with_reducible show Dl.dW _ _ (Expr.BoolOp BoolOp.And _ _) _ _ _); refine Dl.w_and ?_)
  | ((with_reducible show Dl.dW _ _ (Expr.BoolOp BoolOp.Or _ _) _ _ _); refine Dl.w_or ?_))
local macro_rules | `(tactic| walk_at "od") => `(tactic| ((with_reducible show Dl.OpD _ _ _ _ _ _); first
  | refine Dl.o_add ?_ | refine Dl.o_sub ?_ | refine Dl.o_lt ?_ | refine Dl.o_le ?_ | refine Dl.o_gt ?_ | refine Dl.o_ge ?_ | refine Dl.o_eq ?_ | refine Dl.o_ne ?_ | refine Dl.o_eqS ?_ | refine Dl.o_mul ?_ ?_ | refine Dl.o_mod ?_ ?_ | refine Dl.o_fdivW ?_ ?_ | refine Dl.o_inS ?_ | refine Dl.o_notInS ?_
  | refine Dl.o_isN ?_ | refine Dl.o_notN ?_))
local macro_rules | `(tactic| walk_at "cd") => `(tactic| ((with_reducible show Dl.CallD _ _ _ _ _); first
  | refine Dl.c_lenT ?_ | refine Dl.c_lenL ?_ | refine Dl.c_lenO ?_ | refine Dl.c_abs ?_ | refine Dl.c_int ?_ | refine Dl.c_lenS ?_ ?_ | refine Dl.c_allT ?_
  | refine Dl.c_isInt ?_ | refine Dl.c_isBool ?_ | refine Dl.c_isStr ?_ | refine Dl.c_isTuple ?_ | refine Dl.c_isList ?_
  | refine Dl.c_allF ?_ | refine Dl.c_tupL ?_ | refine Dl.c_tupT ?_))
local macro_rules | `(tactic| walk_at "sd") => `(tactic| first
  | ((with_reducible show Dl.dS _ _ _ (Stmt.Return (some _) _) _ _ _ _); refine Dl.s_ret ?_)
  | ((with_reducible show Dl.dS _ _ _ (Stmt.Assign [Expr.Tuple [Expr.Name _ _, Expr.Name _ _] _ _] (Expr.Tuple [_, _] _ _) _) _ _ _ _); (refine Dl.s_pr (i := ?stI) (j := ?stJ) ?stA ?stB ?stC ?stD ?stE ?_; (case stA => rfl); (case stB => rfl); (case stC => rfl); (case stD => rfl); (case stE => rfl)))
  | ((with_reducible show Dl.dS _ _ _ (Stmt.If _ _ _ _) _ _ _ _); refine Dl.s_if ?_)
  | ((with_reducible show Dl.dS _ _ _ (Stmt.Assign [Expr.Name _ _] _ _) _ _ _ _); (refine Dl.s_st (i := ?stI) ?stA ?stB ?stC ?_; (case stA => rfl); (case stB => rfl); (case stC => rfl)))
  | ((with_reducible show Dl.dS _ _ _ (Stmt.Expr _ _) _ _ _ _); refine Dl.s_expr ?_)
  | ((with_reducible show Dl.dSs _ _ _ _ _ _ _ _); first | refine Dl.s_cons ?_ | refine Dl.s_nil ?_))
local macro_rules | `(tactic| walk_at "xd") => `(tactic| ((with_reducible show Dl.IxD _ _ _ _ _); first | (refine Dl.x_T (d := ?ixD) ?ixE ?_; (case ixE => rfl)) | (refine Dl.x_L (d := ?ixD) ?ixE ?_; (case ixE => rfl)) | (refine Dl.x_O (d := ?ixD) ?ixE ?_; (case ixE => rfl))))
local macro_rules | `(tactic| walk_at "ds") => `(tactic| (refine Dl.ex_dats (ds := ?dsW) ?dsA ?dsB ?_; (case dsA => rfl); (case dsB => rfl)))
local macro_rules | `(tactic| walk_at "dl") => `(tactic| first
  | walk_at "ds"
  | walk_at "ed"
  | walk_at "ad"
  | walk_at "td"
  | walk_at "od"
  | walk_at "cd"
  | walk_at "sd"
  | walk_at "xd"
  | ((with_reducible refine ⟨_, rfl, fun hc => ?_, fun hc => ?_⟩) <;> (first | contradiction | (exfalso; revert hc; simp [Dl.isTy, Dl.tyD]; done) | skip))
  | ((with_reducible refine ⟨fun hc => ?_, fun hc => ?_⟩) <;> (first | contradiction | (exfalso; revert hc; simp [Dl.isTy, Dl.tyD]; done) | skip))
  | (refine ⟨_, _, rfl, rfl, ?_⟩)
  | (refine ⟨rfl, ?_⟩)
  | (with_reducible refine ⟨_, rfl, ?_⟩)
  | (refine ⟨(_, _), rfl, ?_⟩)
  | (refine ⟨(_, _, _), rfl, ?_⟩)
  | (refine ⟨True.intro, fun _ hs => ?_, fun _ hx => False.elim hx⟩; replace hs : _ = Dl.Sl.dat _ := hs; subst hs)
  | (refine ⟨by assumption, fun _ hs => ?_, fun _ hx => False.elim hx⟩; replace hs : _ = Dl.Sl.dat _ := hs; subst hs)
  | fail)
local macro_rules | `(tactic| walk_at "dl") => `(tactic| ((with_reducible show Dl.dE _ _ (Expr.Subscript _ (Expr.Slice none none (some _) _) _) _ _ _); refine Dl.d_rev ?_))
theorem kind_menus {k : Kd} (h : KindOk k) : 1 ≤ k.menus.length ∧ k.menus.length ≤ 6 := by
  obtain ⟨_, ⟨c1, c3⟩, _, _, _, _, b7⟩ := h
  have : k.cols.length = 1 ∨ k.cols.length = 2 ∨ k.cols.length = 3 := by omega
  rcases this with e | e | e <;> rw [e] at b7 <;> omega
theorem sh_col {c : Col} (h : c.1 ∈ inNames) : Dl.ShN 2 (eCol c) := Dl.shN_tup (n := 1) fun d hd => by
  rcases List.mem_cons.mp hd with rfl | hd
  · exact sh_nm h 1
  · rw [List.mem_singleton.mp hd]
    exact sh_sh _
theorem sh_tie {t : Tie} (h : t.1 ∈ inNames) : Dl.ShN 1 (eTie t) := Dl.shN_tup (n := 0) fun d hd => by
  rcases List.mem_cons.mp hd with rfl | hd
  · exact sh_nm h 0
  · rw [List.mem_singleton.mp hd]
    refine Dl.shN_str 0 ?_
    cases t.2 <;> decide +kernel
theorem sh_menu (m : Menu) : Dl.ShN 3 (eMenu m) := Dl.shN_tup (n := 2) fun d hd => by
  obtain ⟨r, hr, rfl⟩ := List.mem_map.mp hd
  exact sh_row r
theorem sh_kd {k : Kd} (h : KindOk k) : Dl.ShN 5 (eKd k) := by
  obtain ⟨_, _, b3, _, b5, _, _⟩ := h
  refine Dl.shN_tup (n := 4) fun d hd => ?_
  rcases List.mem_cons.mp hd with rfl | hd
  · exact Dl.shN_int 4 _
  rcases List.mem_cons.mp hd with rfl | hd
  · refine (Dl.shN_tup (n := 2) fun e he => ?_).le (by decide)
    obtain ⟨c, hc, rfl⟩ := List.mem_map.mp he
    exact sh_col (b3 c hc).1
  rcases List.mem_cons.mp hd with rfl | hd
  · refine (Dl.shN_tup (n := 1) fun e he => ?_).le (by decide)
    obtain ⟨t, ht, rfl⟩ := List.mem_map.mp he
    exact sh_tie (b5 t ht)
  · rw [List.mem_singleton.mp hd]
    refine Dl.shN_tup (n := 3) fun e he => ?_
    obtain ⟨m, hm, rfl⟩ := List.mem_map.mp he
    exact sh_menu m
theorem nb_sh (s : Sh) : Dl.Nb (eSh s) := .tuple fun d hd => by
  rcases List.mem_cons.mp hd with rfl | hd
  · exact .int _
  · rw [List.mem_singleton.mp hd]; exact .int _
theorem nb_kd (k : Kd) : Dl.Nb (eKd k) := .tuple fun d hd => by
  rcases List.mem_cons.mp hd with rfl | hd
  · exact .int _
  rcases List.mem_cons.mp hd with rfl | hd
  · refine .tuple fun e he => ?_
    obtain ⟨c, hc, rfl⟩ := List.mem_map.mp he
    refine .tuple fun f hf => ?_
    rcases List.mem_cons.mp hf with rfl | hf
    · exact .str _
    · rw [List.mem_singleton.mp hf]; exact nb_sh _
  rcases List.mem_cons.mp hd with rfl | hd
  · refine .tuple fun e he => ?_
    obtain ⟨t, ht, rfl⟩ := List.mem_map.mp he
    refine .tuple fun f hf => ?_
    rcases List.mem_cons.mp hf with rfl | hf
    · exact .str _
    · rw [List.mem_singleton.mp hf]; exact .str _
  · rw [List.mem_singleton.mp hd]
    refine .tuple fun e he => ?_
    obtain ⟨m, hm, rfl⟩ := List.mem_map.mp he
    refine .tuple fun f hf => ?_
    obtain ⟨r, hr, rfl⟩ := List.mem_map.mp hf
    exact nb_row r
/-- data that may be told -/
def Tell (n : Nat) (d : PyData) : Prop := Dl.Nb d ∧ Dl.ShN n d
theorem tell_str {s : Str} (h : PyData.canLay0 (.str s) = true) (n : Nat) : Tell n (.str s) := ⟨.str s, Dl.shN_str n h⟩
theorem tell_int (i : Int) (n : Nat) : Tell n (.int i) := ⟨.int i, Dl.shN_int n i⟩
theorem tell_tup {n : Nat} {ds : List PyData} (h : ∀ d ∈ ds, Tell n d) : Tell (n + 1) (.tuple ds) := ⟨.tuple fun d hd => (h d hd).1, Dl.shN_tup fun d hd => (h d hd).2⟩
theorem tell_2 {n : Nat} {a b : PyData} (ha : Tell n a) (hb : Tell n b) : Tell (n + 1) (.tuple [a, b]) := tell_tup fun d hd => by
  rcases List.mem_cons.mp hd with rfl | hd
  · exact ha
  · rw [List.mem_singleton.mp hd]; exact hb
def faults : List Str := ["alike", "share", "sum", "items", "mirror"]
theorem tell_fault {f : Str} (h : f ∈ faults) (n : Nat) : Tell n (.str f) := by
  refine tell_str ?_ n
  have key : ∀ f ∈ faults, PyData.canLay0 (.str f) = true := by decide +kernel
  exact key f h
theorem menu_fault_in {ts : List Tie} {m : Menu} {b : Bool} {f : Str} (h : menuFault ts m b = some f) : f ∈ faults := by
  unfold menuFault at h
  split at h
  · cases h; simp [faults]
  split at h
  · cases h; simp [faults]
  split at h
  · cases h; simp [faults]
  split at h
  · cases h; simp [faults]
  · cases h
theorem cols_fault_in {l : List Col} {w : PyData} {f : Str} (h : colsFault l = some (w, f)) : Tell 1 w ∧ f ∈ faults := by
  unfold colsFault at h
  split at h
  · rename_i i g e
    cases h
    refine ⟨tell_2 (tell_str (by decide +kernel) 0) (tell_int _ 0), ?_⟩
    unfold firstC at e
    obtain ⟨j, hj, e2⟩ := List.exists_of_findSome?_eq_some e
    cases q : colFault l j with
    | none => rw [q] at e2; cases e2
    | some g' =>
      rw [q] at e2
      cases e2
      unfold colFault at q
      split at q
      · split at q
        · cases q; simp [faults]
        · split at q
          · cases q; simp [faults]
          · cases q
      · cases q
  · split at h
    · cases h
    · cases h
      refine ⟨tell_tup fun d hd => ?_, by simp [faults]⟩
      rw [List.mem_singleton.mp hd]
      exact tell_str (by decide +kernel) 0
theorem kind_fault_in {k : Kd} {w : PyData} {f : Str} (h : kindFault k = some (w, f)) : Tell 1 w ∧ f ∈ faults := by
  unfold kindFault at h
  split at h
  · rename_i r e
    cases h
    exact cols_fault_in e
  · split at h
    · cases h
      exact ⟨tell_2 (tell_str (by decide +kernel) 0) (tell_int _ 0), by simp [faults]⟩
    · unfold menusFault at h
      obtain ⟨q, hq, e2⟩ := List.exists_of_findSome?_eq_some h
      unfold menuOf at e2
      cases e : menuFault k.ties q.2 (q.1.1 == q.1.2) with
      | none => rw [e] at e2; cases e2
      | some g =>
        rw [e] at e2
        cases e2
        refine ⟨tell_tup fun d hd => ?_, menu_fault_in e⟩
        rcases List.mem_cons.mp hd with rfl | hd
        · exact tell_str (by decide +kernel) 0
        rcases List.mem_cons.mp hd with rfl | hd
        · exact tell_int _ 0
        · rw [List.mem_singleton.mp hd]; exact tell_int _ 0
theorem tell_kd {k : Kd} (h : KindOk k) : Tell 5 (eKd k) := ⟨nb_kd k, sh_kd h⟩
theorem Tell.le {m n : Nat} {d : PyData} (h : Tell m d) (l : m ≤ n) : Tell n d := ⟨h.1, h.2.le l⟩
theorem Tell.refl {n : Nat} {d : PyData} (h : Tell n d) : PyData.eqv d d = true := (Dl.eqv_iff d d h.1 h.1).mpr rfl
end K76
set_option Elab.async false
set_option linter.all false
set_option maxRecDepth 100000
set_option maxHeartbeats 4000000
set_option autoImplicit false
namespace K76
open PySem PySem.Spec PyProof.Rows L2
local macro_rules | `(tactic| walk_at "nm") => `(tactic| (refine Dl.d_nm (s := ?nmS) ?nmA ?nmB ?_; (case nmA => rfl); (case nmB => rfl)))
local macro_rules | `(tactic| walk_at "fr") => `(tactic| first | assumption)
local macro_rules | `(tactic| walk_at "name") => `(tactic| first
  | walk_at "nm"
  | ((with_reducible show Dl.dE _ _ (Expr.Name "int" _) _ _ _); refine Dl.d_t_int ?frA ?frB ?_; (case frA => walk_at "fr"); (case frB => rfl))
  | ((with_reducible show Dl.dE _ _ (Expr.Name "tuple" _) _ _ _); refine Dl.d_t_tuple ?frA ?frB ?_; (case frA => walk_at "fr"); (case frB => rfl))
  | ((with_reducible show Dl.dE _ _ (Expr.Name "list" _) _ _ _); refine Dl.d_t_list ?frA ?frB ?_; (case frA => walk_at "fr"); (case frB => rfl))
  | ((with_reducible show Dl.dE _ _ (Expr.Name "str" _) _ _ _); refine Dl.d_t_str ?frA ?frB ?_; (case frA => walk_at "fr"); (case frB => rfl))
  | ((with_reducible show Dl.dE _ _ (Expr.Name "bool" _) _ _ _); refine Dl.d_t_bool ?frA ?frB ?_; (case frA => walk_at "fr"); (case frB => rfl))
  | ((with_reducible show Dl.dE _ _ (Expr.Name "set" _) _ _ _); refine Dl.d_t_set ?frA ?frB ?_; (case frA => walk_at "fr"); (case frB => rfl))
  | walk_at "glob")
local macro_rules | `(tactic| walk_at "glob") => `(tactic| first
  | (refine Dl.d_globInt (i := ?gI) ?gA ?gB ?_; (case gA => rfl); (case gB => assumption))
  | (refine Dl.d_globStr (i := ?gI) ?gA ?gB ?_; (case gA => rfl); (case gB => assumption)))
local macro_rules | `(tactic| walk_at "call") => `(tactic| first
  | ((with_reducible show Dl.dE _ _ (Expr.Call (Expr.Name "isinstance" _) _ _ _) _ _ _); refine Dl.d_b_isinstance ?frA ?frB ?_; (case frA => walk_at "fr"); (case frB => rfl))
  | ((with_reducible show Dl.dE _ _ (Expr.Call (Expr.Name "len" _) _ _ _) _ _ _); refine Dl.d_b_len ?frA ?frB ?_; (case frA => walk_at "fr"); (case frB => rfl))
  | ((with_reducible show Dl.dE _ _ (Expr.Call (Expr.Name "all" _) _ _ _) _ _ _); refine Dl.d_b_all ?frA ?frB ?_; (case frA => walk_at "fr"); (case frB => rfl))
  | ((with_reducible show Dl.dE _ _ (Expr.Call (Expr.Name "any" _) _ _ _) _ _ _); refine Dl.d_b_any ?frA ?frB ?_; (case frA => walk_at "fr"); (case frB => rfl))
  | ((with_reducible show Dl.dE _ _ (Expr.Call (Expr.Name "abs" _) _ _ _) _ _ _); refine Dl.d_b_abs ?frA ?frB ?_; (case frA => walk_at "fr"); (case frB => rfl))
  | ((with_reducible show Dl.dE _ _ (Expr.Call (Expr.Name "sum" _) _ _ _) _ _ _); refine Dl.d_b_sum ?frA ?frB ?_; (case frA => walk_at "fr"); (case frB => rfl))
  | ((with_reducible show Dl.dE _ _ (Expr.Call (Expr.Name "min" _) _ _ _) _ _ _); refine Dl.d_b_min ?frA ?frB ?_; (case frA => walk_at "fr"); (case frB => rfl))
  | ((with_reducible show Dl.dE _ _ (Expr.Call (Expr.Name "max" _) _ _ _) _ _ _); refine Dl.d_b_max ?frA ?frB ?_; (case frA => walk_at "fr"); (case frB => rfl))
  | ((with_reducible show Dl.dE _ _ (Expr.Call (Expr.Name "sorted" _) _ _ _) _ _ _); refine Dl.d_b_sorted ?frA ?frB ?_; (case frA => walk_at "fr"); (case frB => rfl))
  | ((with_reducible show Dl.dE _ _ (Expr.Call (Expr.Name "int" _) _ _ _) _ _ _); refine Dl.d_c_int ?frA ?frB ?_; (case frA => walk_at "fr"); (case frB => rfl))
  | ((with_reducible show Dl.dE _ _ (Expr.Call (Expr.Name "tuple" _) _ _ _) _ _ _); refine Dl.d_c_tuple ?frA ?frB ?_; (case frA => walk_at "fr"); (case frB => rfl))
  | ((with_reducible show Dl.dE _ _ (Expr.Call (Expr.Name "list" _) _ _ _) _ _ _); refine Dl.d_c_list ?frA ?frB ?_; (case frA => walk_at "fr"); (case frB => rfl))
  | ((with_reducible show Dl.dE _ _ (Expr.Call (Expr.Name "str" _) _ _ _) _ _ _); refine Dl.d_c_str ?frA ?frB ?_; (case frA => walk_at "fr"); (case frB => rfl))
  | ((with_reducible show Dl.dE _ _ (Expr.Call (Expr.Name "bool" _) _ _ _) _ _ _); refine Dl.d_c_bool ?frA ?frB ?_; (case frA => walk_at "fr"); (case frB => rfl))
  | ((with_reducible show Dl.dE _ _ (Expr.Call (Expr.Name "set" _) _ _ _) _ _ _); refine Dl.d_c_set ?frA ?frB ?_; (case frA => walk_at "fr"); (case frB => rfl))
  | (refine Dl.d_fn (j := ?fnJ) (S := ?fnS) ?fnA ?fnB ?fnC ?_; (case fnA => assumption); (case fnB => exact Nat.le_of_ble_eq_true rfl); (case fnC => rfl)))
local macro_rules | `(tactic| walk_at "ed") => `(tactic| ((with_reducible show Dl.dE _ _ _ _ _ _); first
  | ((with_reducible show Dl.dE _ _ (Expr.Name _ _) _ _ _); walk_at "name")
  | ((with_reducible show Dl.dE _ _ (Expr.Constant (Const.int _) _ _) _ _ _); refine Dl.d_int ?_)
  | ((with_reducible show Dl.dE _ _ (Expr.Constant (Const.str _) _ _) _ _ _); refine Dl.d_str ?_)
  | ((with_reducible show Dl.dE _ _ (Expr.Constant (Const.bool _) _ _) _ _ _); refine Dl.d_bool ?_)
  | ((with_reducible show Dl.dE _ _ (Expr.Constant Const.none _ _) _ _ _); refine Dl.d_none ?_)
  | ((with_reducible show Dl.dE _ _ (Expr.Call (Expr.Name _ _) [_, Expr.Tuple [Expr.Name _ _, Expr.Name _ _] _ _] _ _) _ _ _); (refine Dl.d_isi2 ?frA ?frB ?frC ?frD ?frE ?frF ?_; (case frA => walk_at "fr"); (case frB => walk_at "fr"); (case frC => walk_at "fr"); (case frD => rfl); (case frE => rfl); (case frF => rfl)))
  | ((with_reducible show Dl.dE _ _ (Expr.Call (Expr.Name _ _) _ _ _) _ _ _); walk_at "call")
  | ((with_reducible show Dl.dE _ _ (Expr.BoolOp _ [_] _) _ _ _); refine Dl.d_one ?_)
  | ((with_reducible show Dl.dE _ _ (Expr.BoolOp BoolOp.And _ _) _ _ _); refine Dl.d_and ?_)
  | ((with_reducible show Dl.dE _ _ (Expr.BoolOp BoolOp.Or _ _) _ _ _); refine Dl.d_or ?_)
  | ((with_reducible show Dl.dE _ _ (Expr.UnaryOp UnaryOp.Not _ _) _ _ _); refine Dl.d_not ?_)
  | ((with_reducible show Dl.dE _ _ (Expr.UnaryOp UnaryOp.USub _ _) _ _ _); refine Dl.d_neg ?_)
  | ((with_reducible show Dl.dE _ _ (Expr.BinOp _ _ _ _) _ _ _); refine Dl.d_bin ?_)
  | ((with_reducible show Dl.dE _ _ (Expr.Compare _ [_] _ _) _ _ _); refine Dl.d_cmp ?_)
  | ((with_reducible show Dl.dE _ _ (Expr.Compare _ [_, _] _ _) _ _ _); refine Dl.d_chain ?_)
  | ((with_reducible show Dl.dE _ _ (Expr.IfExp _ _ _ _) _ _ _); refine Dl.d_if ?_)
  | ((with_reducible show Dl.dE _ _ (Expr.Tuple _ _ _) _ _ _); refine Dl.d_tup ?_)
  | ((with_reducible show Dl.dE _ _ (Expr.List _ _) _ _ _); refine Dl.d_lst ?_)
  | ((with_reducible show Dl.dE _ _ (Expr.Subscript _ (Expr.Slice _ _ _ _) _) _ _ _); refine Dl.d_slice ?_)
  | ((with_reducible show Dl.dE _ _ (Expr.Subscript _ _ _) _ _ _); refine Dl.d_ix ?_)))
local macro_rules | `(tactic| walk_at "ad") => `(tactic| ((with_reducible show Dl.dA _ _ _ _ _ _); first | refine Dl.a_nil ?_ | refine Dl.a_cons ?_))
local macro_rules | `(tactic| walk_at "td") => `(tactic| first
  | ((with_reducible show Dl.dT _ _ (Expr.UnaryOp UnaryOp.Not _ _) _ _ _); refine Dl.t_not ?_)
  | ((with_reducible show Dl.dT _ _ (Expr.BoolOp _ _ _) _ _ _); refine Dl.t_bool ?_)
  | ((with_reducible show Dl.dT _ _ (Expr.Compare _ [_] _ _) _ _ _); refine Dl.t_cmp ?_)
  | ((with_reducible show Dl.dT _ _ (Expr.Compare _ [_, _] _ _) _ _ _); refine Dl.t_chain ?_)
  | ((with_reducible show Dl.dT _ _ (_) _ _ _); refine Dl.t_val ?_)
  | ((with_reducible show Dl.dW _ _ (Expr.BoolOp BoolOp.And [_] _) _ _ _); refine Dl.w_and1 ?_)
  | ((with_reducible show Dl.dW _ _ (Expr.BoolOp BoolOp.Or [_] _) _ _ _); refine Dl.w_or1 ?_)
  | ((with_reducible show Dl.dW _ _ (Expr.BoolOp BoolOp.And _ _) _ _ _); refine Dl.w_and ?_)
  | ((with_reducible show Dl.dW _ _ (Expr.BoolOp BoolOp.Or _ _) _ _ _); refine Dl.w_or ?_))
local macro_rules | `(tactic| walk_at "od") => `(tactic| ((with_reducible show Dl.OpD _ _ _ _ _ _); first
  | refine Dl.o_add ?_ | refine Dl.o_sub ?_ | refine Dl.o_lt ?_ | refine Dl.o_le ?_ | refine Dl.o_gt ?_ | refine Dl.o_ge ?_ | refine Dl.o_eq ?_ | refine Dl.o_ne ?_ | refine Dl.o_eqS ?_ | refine Dl.o_mul ?_ ?_ | refine Dl.o_mod ?_ ?_ | refine Dl.o_fdivW ?_ ?_ | refine Dl.o_inS ?_ | refine Dl.o_notInS ?_
  | refine Dl.o_isN ?_ | refine Dl.o_notN ?_))
local macro_rules | `(tactic| walk_at "cd") => `(tactic| ((with_reducible show Dl.CallD _ _ _ _ _); first
  | refine Dl.c_lenT ?_ | refine Dl.c_lenL ?_ | refine Dl.c_lenO ?_ | refine Dl.c_abs ?_ | refine Dl.c_int ?_ | refine Dl.c_lenS ?_ ?_ | refine Dl.c_allT ?_
  | refine Dl.c_isInt ?_ | refine Dl.c_isBool ?_ | refine Dl.c_isStr ?_ | refine Dl.c_isTuple ?_ | refine Dl.c_isList ?_
  | refine Dl.c_allF ?_ | refine Dl.c_tupL ?_ | refine Dl.c_tupT ?_))
local macro_rules | `(tactic| walk_at "sd") => `(tactic| first
  | ((with_reducible show Dl.dS _ _ _ (Stmt.Return (some _) _) _ _ _ _); refine Dl.s_ret ?_)
  | ((with_reducible show Dl.dS _ _ _ (Stmt.Assign [Expr.Tuple [Expr.Name _ _, Expr.Name _ _] _ _] (Expr.Tuple [_, _] _ _) _) _ _ _ _); (refine Dl.s_pr (i := ?stI) (j := ?stJ) ?stA ?stB ?stC ?stD ?stE ?_; (case stA => rfl); (case stB => rfl); (case stC => rfl); (case stD => rfl); (case stE => rfl)))
  | ((with_reducible show Dl.dS _ _ _ (Stmt.If _ _ _ _) _ _ _ _); refine Dl.s_if ?_)
  | ((with_reducible show Dl.dS _ _ _ (Stmt.Assign [Expr.Name _ _] _ _) _ _ _ _); (refine Dl.s_st (i := ?stI) ?stA ?stB ?stC ?_; (case stA => rfl); (case stB => rfl); (case stC => rfl)))
  | ((with_reducible show Dl.dS _ _ _ (Stmt.Expr _ _) _ _ _ _); refine Dl.s_expr ?_)
  | ((with_reducible show Dl.dSs _ _ _ _ _ _ _ _); first | refine Dl.s_cons ?_ | refine Dl.s_nil ?_))
local macro_rules | `(tactic| walk_at "xd") => `(tactic| ((with_reducible show Dl.IxD _ _ _ _ _); first | (refine Dl.x_T (d := ?ixD) ?ixE ?_; (case ixE => rfl)) | (refine Dl.x_L (d := ?ixD) ?ixE ?_; (case ixE => rfl)) | (refine Dl.x_O (d := ?ixD) ?ixE ?_; (case ixE => rfl))))
local macro_rules | `(tactic| walk_at "ds") => `(tactic| (refine Dl.ex_dats (ds := ?dsW) ?dsA ?dsB ?_; (case dsA => rfl); (case dsB => rfl)))
local macro_rules | `(tactic| walk_at "dl") => `(tactic| first
  | walk_at "ds"
  | walk_at "ed"
  | walk_at "ad"
  | walk_at "td"
  | walk_at "od"
  | walk_at "cd"
  | walk_at "sd"
  | walk_at "xd"
  | ((with_reducible refine ⟨_, rfl, fun hc => ?_, fun hc => ?_⟩) <;> (first | contradiction | (exfalso; revert hc; simp [Dl.isTy, Dl.tyD]; done) | skip))
  | ((with_reducible refine ⟨fun hc => ?_, fun hc => ?_⟩) <;> (first | contradiction | (exfalso; revert hc; simp [Dl.isTy, Dl.tyD]; done) | skip))
  | (refine ⟨_, _, rfl, rfl, ?_⟩)
  | (refine ⟨rfl, ?_⟩)
  | (with_reducible refine ⟨_, rfl, ?_⟩)
  | (refine ⟨(_, _), rfl, ?_⟩)
  | (refine ⟨(_, _, _), rfl, ?_⟩)
  | (refine ⟨True.intro, fun _ hs => ?_, fun _ hx => False.elim hx⟩; replace hs : _ = Dl.Sl.dat _ := hs; subst hs)
  | (refine ⟨by assumption, fun _ hs => ?_, fun _ hx => False.elim hx⟩; replace hs : _ = Dl.Sl.dat _ := hs; subst hs)
  | fail)
/-! ### the bag, ahead of all -/
/-- a bag is made: b of three numbers and the cells' list -/
def spBag (K : PySem.W.Frag) : Sp := fun vs H Q _ => ∃ (a : Addr) (ns : List Int), vs = [V.ref a] ∧ SqL K H a (ns.map V.int) ∧ ns.length ≤ 63 ∧
  ∀ (H' : Hp) (b q : Addr) (cells : List Int), (∀ x o, H x = some o → H' x = some o) → H b = none → H q = none → q ≠ b → H' q = some (.lst (cells.map V.int)) → H' b = some (.lst [.int 0, .int 1234567891, .int 0, .ref q]) → (∀ c ∈ cells, 0 ≤ c) → cells.length ≤ 63 → Q (.ref b) H'
theorem blk_bag : blkC N__law_bag (defScope s__law_bag) (match defBody s__law_bag with
  | [.Return (some (.List [_, _, _, .ListComp _ _ sc _] _)) _] => sc
  | _ => defScope s__law_bag) [("cell", 1)] = true := by kernel_rfl
section
variable {P : Program} {w : World} {K : PySem.W.Frag} {mg : Str → Option Value} {base : Heap} {f : Addr} {fd : FuncData}
theorem bag_step {K : PySem.W.Frag} {σ : L2.St} {H : Hp} {ns : List Int} {p : Addr} {Q : VK} (hl : ns.length ≤ 63) (hlen : σ.length = 2) (hp : H p = some (.lst (ns.map V.int)))
    (h : ∀ D H', H D = none → (∀ x o, H x = some o → H' x = some o) → H' D = some (.lst (ns.map fun n => V.int (if n < 0 then -n else n))) → Q (.ref D) H') :
    ∀ D, H D = none → ∃ W : Nat → Nat → Hp → Prop, (∃ m, W 0 m (upd H D (.lst []))) ∧ ∀ i m H2, W i m H2 → ((Itl K p).stop i H2 ∧ Q (.ref D) H2) ∨ ((Itl K p).go i H2 ∧ ∃ Nx : Hp → Prop, (∀ H', Nx H' → ∃ m', m' < m ∧ W (i + 1) m' H') ∧ ∀ x H', (Itl K p).yld i H2 x H' → gName 1 x (wipe σ [1]) H' fun σ2 H2 => wipe σ2 [1] = wipe σ [1] ∧ tYes σ2 H2 fun b H3 =>
      if b = true then tCB (fun xs H Q => ∃ i : Int, xs = [V.int i] ∧ Q (V.int (if i < 0 then -i else i)) H) (tCons (tVar 1) tNil) σ2 H3 fun y H4 => ∃ acc, H4 D = some (.lst acc) ∧ acc.length < sizeLine ∧ Nx (upd H4 D (.lst (acc ++ [y]))) else Nx H3) := by
  intro D hD
  have nDp : p ≠ D := fun z => by rw [z, hD] at hp; cases hp
  have ab : ∀ i, (ns.take i).map (fun n => V.int (if n < 0 then -n else n)) = ((ns.map fun n => V.int (if n < 0 then -n else n)).take i) := fun i => by rw [List.map_take]
  have Wk := walk_list (K := K) (a := p) (xs := ns.map V.int)
  rw [List.length_map] at Wk
  refine lc_it (Qd := fun H => Q (.ref D) H) (g := gName 1) (te := tCB (fun xs H Q => ∃ i : Int, xs = [V.int i] ∧ Q (V.int (if i < 0 then -i else i)) H) (tCons (tVar 1) tNil)) (tt := tYes) (vs := [1]) (σ := σ) (D := D) (H1 := H) Wk
    (fun i H' => H' = upd H D (.lst ((ns.take i).map fun n => V.int (if n < 0 then -n else n)))) rfl (fun i H' _ q => ?_) (fun i x H2 H3 hi q y => ?_) (fun H2 q => ?_)
  · subst q
    exact .of (by rw [upd_ne nDp]; exact hp)
  · subst q
    obtain ⟨rfl, hx⟩ := y
    rw [List.getElem?_map] at hx
    cases hn : ns[i]? with
    | none => rw [hn] at hx; cases hx
    | some n =>
      rw [hn] at hx
      cases hx
      refine ⟨(Dl.wipe_set (by simp)).trans (Dl.wipe_wipe _ fun _ z => z), ?_⟩
      simp only [tYes, if_true]
      refine ⟨V.int n, by show ((wipe σ [1]).set 1 (some (V.int n)))[1]? = _; rw [List.getElem?_set_self (by rw [wipe_length, hlen]; decide)], n, rfl, _, upd_same, by rw [List.length_map, List.length_take, sizeLine_eq]; omega, ?_⟩
      rw [List.take_add_one, hn, List.map_append]
      funext z
      by_cases hz : z = D
      · subst hz
        rw [upd_same, upd_same]
        rfl
      · rw [upd_ne hz, upd_ne hz, upd_ne hz]
  · subst q
    refine h D _ hD (fun x o e => by rw [upd_ne (fun z => by rw [z, hD] at e; cases e)]; exact e) ?_
    rw [upd_same, List.take_length]
theorem ok_bag (F : FunD K "_law_bag" "_law_bag" (defArgs s__law_bag) (defBody s__law_bag) (defScope s__law_bag) [] [] f fd) (ga : mg "abs" = none) : FnOk P w K mg base (L2.CX P w) 1 f fd ["script"] (spBag K) := by
  obtain ⟨oc, od, dV, kV, doc, pm, an, cdv, ct, osl, rfl, lk, hcd, _, _⟩ := F.ex
  refine fn_of lk hcd sc__law_bag (fun vs H Q E hs => ?_) (fun A outer s H vs Q E hr hs => ?_)
  · obtain ⟨a, ns, rfl, _⟩ := hs
    rfl
  obtain ⟨a, ns, rfl, hS, hl, hq⟩ := hs
  refine ⟨_, pss_one (ps_ret (pe_lst (pa_cons pe_int (pa_cons pe_int (pa_cons pe_int (pa_cons (pe_lc (own := [("cell", 1)]) rfl sc__law_bag.nd (pi_list (pe_slice sl_list (pe_var (i := 0) rfl (by first | exact .inl rfl | exact .inr (.inl rfl)) (by decide) (by decide)) po_none (po_some pe_int))) (blkOk_by blk_bag) (fun s0 H0 C cl fp => pg_name (i := 1) sc__law_bag.nd rfl (.inl rfl) (.inr rfl)) (fun _ _ _ _ _ => pts_nil) (fun s0 H0 C cl fp => pe_callB call_abs rfl ga (by decide +kernel) (pa_cons (pe_var (i := 1) rfl (.inl rfl) (by decide) (by decide)) pa_nil))) pa_nil)))))), ?_⟩
  have hcut : cutV (ns.map V.int) none (some 63) = ns.map V.int := by
    unfold cutV
    rw [show (63 : Int) = ((63 : Nat) : Int) from rfl, HT.sIx_nat, show HT.sIx (ns.map V.int).length 0 none = 0 from rfl, List.drop_zero, List.take_of_length_le]
    rw [List.length_map]
    omega
  refine ⟨_, rfl, 63, rfl, a, ns.map V.int, rfl, hS, fun p hp => ⟨p, rfl, ⟨_, .of upd_same⟩, ?_⟩⟩
  rw [hcut]
  refine bag_step (σ := L2.start N__law_bag [V.ref a]) (Q := fun y H' => [V.int 0, V.int 1234567891, V.int 0, y].length ≤ sizeLine ∧ ∀ b, H' b = none → Q (.ref b) (upd H' b (.lst [V.int 0, V.int 1234567891, V.int 0, y]))) (ns := ns) hl rfl upd_same fun D H' hD keep hH => ⟨by show 4 ≤ sizeLine; rw [sizeLine_eq]; decide, fun b hb => ?_⟩
  have hDH : H D = none := by
    by_cases z : D = p
    · rw [z]; exact hp
    · rw [upd_ne z] at hD; exact hD
  have k1 : ∀ x o, H x = some o → upd H p (.lst (ns.map V.int)) x = some o := fun x o e => by
    rw [upd_ne (fun z => by rw [z, hp] at e; cases e)]
    exact e
  have nDb : D ≠ b := fun z => by rw [← z, hH] at hb; cases hb
  refine hq _ b D (ns.map fun n => if n < 0 then -n else n) (fun x o e => ?_) ?_ hDH nDb ?_ upd_same (fun c hc => ?_) (by rw [List.length_map]; exact hl)
  · have := keep x o (k1 x o e)
    rw [upd_ne (fun z => by rw [z, hb] at this; cases this)]
    exact this
  · cases e : H b with
    | none => rfl
    | some o =>
      have := keep b o (k1 b o e)
      rw [hb] at this
      cases this
  · rw [upd_ne nDb, hH, List.map_map]
    rfl
  · obtain ⟨n, hn, rfl⟩ := List.mem_map.mp hc
    split <;> omega
end
end K76
set_option Elab.async false
set_option linter.all false
set_option maxRecDepth 100000
set_option maxHeartbeats 4000000
set_option autoImplicit false
namespace K76
open PySem PySem.Spec PyProof.Rows L2
local macro_rules | `(tactic| walk_at "nm") => `(tactic| (refine Dl.d_nm (s := ?nmS) ?nmA ?nmB ?_; (case nmA => rfl); (case nmB => rfl)))
local macro_rules | `(tactic| walk_at "fr") => `(tactic| first | assumption)
local macro_rules | `(tactic| walk_at "name") => `(tactic| first
  | walk_at "nm"
  | ((with_reducible show Dl.dE _ _ (Expr.Name "int" _) _ _ _); refine Dl.d_t_int ?frA ?frB ?_; (case frA => walk_at "fr"); (case frB => rfl))
  | ((with_reducible show Dl.dE _ _ (Expr.Name "tuple" _) _ _ _); refine Dl.d_t_tuple ?frA ?frB ?_; (case frA => walk_at "fr"); (case frB => rfl))
  | ((with_reducible show Dl.dE _ _ (Expr.Name "list" _) _ _ _); refine Dl.d_t_list ?frA ?frB ?_; (case frA => walk_at "fr"); (case frB => rfl))
  | ((with_reducible show Dl.dE _ _ (Expr.Name "str" _) _ _ _); refine Dl.d_t_str ?frA ?frB ?_; (case frA => walk_at "fr"); (case frB => rfl))
  | ((with_reducible show Dl.dE _ _ (Expr.Name "bool" _) _ _ _); refine Dl.d_t_bool ?frA ?frB ?_; (case frA => walk_at "fr"); (case frB => rfl))
  | ((with_reducible show Dl.dE _ _ (Expr.Name "set" _) _ _ _); refine Dl.d_t_set ?frA ?frB ?_; (case frA => walk_at "fr"); (case frB => rfl))
  | walk_at "glob")
local macro_rules | `(tactic| walk_at "glob") => `(tactic| first
  | (refine Dl.d_globInt (i := ?gI) ?gA ?gB ?_; (case gA => rfl); (case gB => assumption))
  | (refine Dl.d_globStr (i := ?gI) ?gA ?gB ?_; (case gA => rfl); (case gB => assumption)))
local macro_rules | `(tactic| walk_at "call") => `(tactic| first
  | ((with_reducible show Dl.dE _ _ (Expr.Call (Expr.Name "isinstance" _) _ _ _) _ _ _); refine Dl.d_b_isinstance ?frA ?frB ?_; (case frA => walk_at "fr"); (case frB => rfl))
  | ((with_reducible show Dl.dE _ _ (Expr.Call (Expr.Name "len" _) _ _ _) _ _ _); refine Dl.d_b_len ?frA ?frB ?_; (case frA => walk_at "fr"); (case frB => rfl))
  | ((with_reducible show Dl.dE _ _ (Expr.Call (Expr.Name "all" _) _ _ _) _ _ _); refine Dl.d_b_all ?frA ?frB ?_; (case frA => walk_at "fr"); (case frB => rfl))
  | ((with_reducible show Dl.dE _ _ (Expr.Call (Expr.Name "any" _) _ _ _) _ _ _); refine Dl.d_b_any ?frA ?frB ?_; (case frA => walk_at "fr"); (case frB => rfl))
  | ((with_reducible show Dl.dE _ _ (Expr.Call (Expr.Name "abs" _) _ _ _) _ _ _); refine Dl.d_b_abs ?frA ?frB ?_; (case frA => walk_at "fr"); (case frB => rfl))
  | ((with_reducible show Dl.dE _ _ (Expr.Call (Expr.Name "sum" _) _ _ _) _ _ _); refine Dl.d_b_sum ?frA ?frB ?_; (case frA => walk_at "fr"); (case frB => rfl))
  | ((with_reducible show Dl.dE _ _ (Expr.Call (Expr.Name "min" _) _ _ _) _ _ _); refine Dl.d_b_min ?frA ?frB ?_; (case frA => walk_at "fr"); (case frB => rfl))
  | ((with_reducible show Dl.dE _ _ (Expr.Call (Expr.Name "max" _) _ _ _) _ _ _); refine Dl.d_b_max ?frA ?frB ?_; (case frA => walk_at "fr"); (case frB => rfl))
  | ((with_reducible show Dl.dE _ _ (Expr.Call (Expr.Name "sorted" _) _ _ _) _ _ _); refine Dl.d_b_sorted ?frA ?frB ?_; (case frA => walk_at "fr"); (case frB => rfl))
  | ((with_reducible show Dl.dE _ _ (Expr.Call (Expr.Name "int" _) _ _ _) _ _ _); refine Dl.d_c_int ?frA ?frB ?_; (case frA => walk_at "fr"); (case frB => rfl))
  | ((with_reducible show Dl.dE _ _ (Expr.Call (Expr.Name "tuple" _) _ _ _) _ _ _); refine Dl.d_c_tuple ?frA ?frB ?_; (case frA => walk_at "fr"); (case frB => rfl))
  | ((with_reducible show Dl.dE _ _ (Expr.Call (Expr.Name "list" _) _ _ _) _ _ _); refine Dl.d_c_list ?frA ?frB ?_; (case frA => walk_at "fr"); (case frB => rfl))
  | ((with_reducible show Dl.dE _ _ (Expr.Call (Expr.Name "str" _) _ _ _) _ _ _); refine Dl.d_c_str ?frA ?frB ?_; (case frA => walk_at "fr"); (case frB => rfl))
  | ((with_reducible show Dl.dE _ _ (Expr.Call (Expr.Name "bool" _) _ _ _) _ _ _); refine Dl.d_c_bool ?frA ?frB ?_; (case frA => walk_at "fr"); (case frB => rfl))
  | ((with_reducible show Dl.dE _ _ (Expr.Call (Expr.Name "set" _) _ _ _) _ _ _); refine Dl.d_c_set ?frA ?frB ?_; (case frA => walk_at "fr"); (case frB => rfl))
  | (refine Dl.d_fn (j := ?fnJ) (S := ?fnS) ?fnA ?fnB ?fnC ?_; (case fnA => assumption); (case fnB => exact Nat.le_of_ble_eq_true rfl); (case fnC => rfl)))
local macro_rules | `(tactic| walk_at "ed") => `(tactic| ((with_reducible show Dl.dE _ _ _ _ _ _); first
  | ((with_reducible show Dl.dE _ _ (Expr.Name _ _) _ _ _); walk_at "name")
  | ((with_reducible show Dl.dE _ _ (Expr.Constant (Const.int _) _ _) _ _ _); refine Dl.d_int ?_)
  | ((with_reducible show Dl.dE _ _ (Expr.Constant (Const.str _) _ _) _ _ _); refine Dl.d_str ?_)
  | ((with_reducible show Dl.dE _ _ (Expr.Constant (Const.bool _) _ _) _ _ _); refine Dl.d_bool ?_)
  | ((with_reducible show Dl.dE _ _ (Expr.Constant Const.none _ _) _ _ _); refine Dl.d_none ?_)
  | ((with_reducible show Dl.dE _ _ (Expr.Call (Expr.Name _ _) [_, Expr.Tuple [Expr.Name _ _, Expr.Name _ _] _ _] _ _) _ _ _); (refine Dl.d_isi2 ?frA ?frB ?frC ?frD ?frE ?frF ?_; (case frA => walk_at "fr"); (case frB => walk_at "fr"); (case frC => walk_at "fr"); (case frD => rfl); (case frE => rfl); (case frF => rfl)))
  | ((with_reducible show Dl.dE _ _ (Expr.Call (Expr.Name _ _) _ _ _) _ _ _); walk_at "call")
  | ((with_reducible show Dl.dE _ _ (Expr.BoolOp _ [_] _) _ _ _); refine Dl.d_one ?_)
  | ((with_reducible show Dl.dE _ _ (Expr.BoolOp BoolOp.And _ _) _ _ _); refine Dl.d_and ?_)
  | ((with_reducible show Dl.dE _ _ (Expr.BoolOp BoolOp.Or _ _) _ _ _); refine Dl.d_or ?_)
  | ((with_reducible show Dl.dE _ _ (Expr.UnaryOp UnaryOp.Not _ _) _ _ _); refine Dl.d_not ?_)
  | ((with_reducible show Dl.dE _ _ (Expr.UnaryOp UnaryOp.USub _ _) _ _ _); refine Dl.d_neg ?_)
  | ((with_reducible show Dl.dE _ _ (Expr.BinOp _ _ _ _) _ _ _); refine Dl.d_bin ?_)
  | ((with_reducible show Dl.dE _ _ (Expr.Compare _ [_] _ _) _ _ _); refine Dl.d_cmp ?_)
  | ((with_reducible show Dl.dE _ _ (Expr.Compare _ [_, _] _ _) _ _ _); refine Dl.d_chain ?_)
  | ((with_reducible show Dl.dE _ _ (Expr.IfExp _ _ _ _) _ _ _); refine Dl.d_if ?_)
  | ((with_reducible show Dl.dE _ _ (Expr.Tuple _ _ _) _ _ _); refine Dl.d_tup ?_)
  | ((with_reducible show Dl.dE _ _ (Expr.List _ _) _ _ _); refine Dl.d_lst ?_)
  | ((with_reducible show Dl.dE _ _ (Expr.Subscript _ (Expr.Slice _ _ _ _) _) _ _ _); refine Dl.d_slice ?_)
  | ((with_reducible show Dl.dE _ _ (Expr.Subscript _ _ _) _ _ _); refine Dl.d_ix ?_)))
local macro_rules | `(tactic| walk_at "ad") => `(tactic| ((with_reducible show Dl.dA _ _ _ _ _ _); first | refine Dl.a_nil ?_ | refine Dl.a_cons ?_))
local macro_rules | `(tactic| walk_at "td") => `(tactic| first
  | ((with_reducible show Dl.dT _ _ (Expr.UnaryOp UnaryOp.Not _ _) _ _ _); refine Dl.t_not ?_)
  | ((with_reducible show Dl.dT _ _ (Expr.BoolOp _ _ _) _ _ _); refine Dl.t_bool ?_)
  | ((with_reducible show Dl.dT _ _ (Expr.Compare _ [_] _ _) _ _ _); refine Dl.t_cmp ?_)
  | ((with_reducible show Dl.dT _ _ (Expr.Compare _ [_, _] _ _) _ _ _); refine Dl.t_chain ?_)
  | ((with_reducible show Dl.dT _ _ (_) _ _ _); refine Dl.t_val ?_)
  | ((with_reducible show Dl.dW _ _ (Expr.BoolOp BoolOp.And [_] _) _ _ _); refine Dl.w_and1 ?_)
  | ((with_reducible show Dl.dW _ _ (Expr.BoolOp BoolOp.Or [_] _) _ _ _); refine Dl.w_or1 ?_)
  | ((with_reducible show Dl.dW _ _ (Expr.BoolOp BoolOp.And _ _) _ _ _); refine Dl.w_and ?_)
  | ((with_reducible show Dl.dW _ _ (Expr.BoolOp BoolOp.Or _ _) _ _ _); refine Dl.w_or ?_))
local macro_rules | `(tactic| walk_at "od") => `(tactic| ((with_reducible show Dl.OpD _ _ _ _ _ _); first
  | refine Dl.o_add ?_ | refine Dl.o_sub ?_ | refine Dl.o_lt ?_ | refine Dl.o_le ?_ | refine Dl.o_gt ?_ | refine Dl.o_ge ?_ | refine Dl.o_eq ?_ | refine Dl.o_ne ?_ | refine Dl.o_eqS ?_ | refine Dl.o_mul ?_ ?_ | refine Dl.o_mod ?_ ?_ | refine Dl.o_fdivW ?_ ?_ | refine Dl.o_inS ?_ | refine Dl.o_notInS ?_
  | refine Dl.o_isN ?_ | refine Dl.o_notN ?_))
local macro_rules | `(tactic| walk_at "cd") => `(tactic| ((with_reducible show Dl.CallD _ _ _ _ _); first
  | refine Dl.c_lenT ?_ | refine Dl.c_lenL ?_ | refine Dl.c_lenO ?_ | refine Dl.c_abs ?_ | refine Dl.c_int ?_ | refine Dl.c_lenS ?_ ?_ | refine Dl.c_allT ?_
  | refine Dl.c_isInt ?_ | refine Dl.c_isBool ?_ | refine Dl.c_isStr ?_ | refine Dl.c_isTuple ?_ | refine Dl.c_isList ?_
  | refine Dl.c_allF ?_ | refine Dl.c_tupL ?_ | refine Dl.c_tupT ?_))
local macro_rules | `(tactic| walk_at "sd") => `(tactic| first
  | ((with_reducible show Dl.dS _ _ _ (Stmt.Return (some _) _) _ _ _ _); refine Dl.s_ret ?_)
  | ((with_reducible show Dl.dS _ _ _ (Stmt.Assign [Expr.Tuple [Expr.Name _ _, Expr.Name _ _] _ _] (Expr.Tuple [_, _] _ _) _) _ _ _ _); (refine Dl.s_pr (i := ?stI) (j := ?stJ) ?stA ?stB ?stC ?stD ?stE ?_; (case stA => rfl); (case stB => rfl); (case stC => rfl); (case stD => rfl); (case stE => rfl)))
  | ((with_reducible show Dl.dS _ _ _ (Stmt.If _ _ _ _) _ _ _ _); refine Dl.s_if ?_)
  | ((with_reducible show Dl.dS _ _ _ (Stmt.Assign [Expr.Name _ _] _ _) _ _ _ _); (refine Dl.s_st (i := ?stI) ?stA ?stB ?stC ?_; (case stA => rfl); (case stB => rfl); (case stC => rfl)))
  | ((with_reducible show Dl.dS _ _ _ (Stmt.Expr _ _) _ _ _ _); refine Dl.s_expr ?_)
  | ((with_reducible show Dl.dSs _ _ _ _ _ _ _ _); first | refine Dl.s_cons ?_ | refine Dl.s_nil ?_))
local macro_rules | `(tactic| walk_at "xd") => `(tactic| ((with_reducible show Dl.IxD _ _ _ _ _); first | (refine Dl.x_T (d := ?ixD) ?ixE ?_; (case ixE => rfl)) | (refine Dl.x_L (d := ?ixD) ?ixE ?_; (case ixE => rfl)) | (refine Dl.x_O (d := ?ixD) ?ixE ?_; (case ixE => rfl))))
local macro_rules | `(tactic| walk_at "ds") => `(tactic| (refine Dl.ex_dats (ds := ?dsW) ?dsA ?dsB ?_; (case dsA => rfl); (case dsB => rfl)))
local macro_rules | `(tactic| walk_at "dl") => `(tactic| first
  | walk_at "ds"
  | walk_at "ed"
  | walk_at "ad"
  | walk_at "td"
  | walk_at "od"
  | walk_at "cd"
  | walk_at "sd"
  | walk_at "xd"
  | ((with_reducible refine ⟨_, rfl, fun hc => ?_, fun hc => ?_⟩) <;> (first | contradiction | (exfalso; revert hc; simp [Dl.isTy, Dl.tyD]; done) | skip))
  | ((with_reducible refine ⟨fun hc => ?_, fun hc => ?_⟩) <;> (first | contradiction | (exfalso; revert hc; simp [Dl.isTy, Dl.tyD]; done) | skip))
  | (refine ⟨_, _, rfl, rfl, ?_⟩)
  | (refine ⟨rfl, ?_⟩)
  | (with_reducible refine ⟨_, rfl, ?_⟩)
  | (refine ⟨(_, _), rfl, ?_⟩)
  | (refine ⟨(_, _, _), rfl, ?_⟩)
  | (refine ⟨True.intro, fun _ hs => ?_, fun _ hx => False.elim hx⟩; replace hs : _ = Dl.Sl.dat _ := hs; subst hs)
  | (refine ⟨by assumption, fun _ hs => ?_, fun _ hx => False.elim hx⟩; replace hs : _ = Dl.Sl.dat _ := hs; subst hs)
  | fail)
/-! ### webs, their form -/
structure Web where
  cols : List Int
  items : List Itm
def eWb (w : Web) : PyData := .tuple [.tuple (w.cols.map .int), .tuple (w.items.map eI)]
section
variable {G : Dl.Gd}
def IdxD (d : PyData) : Prop := ∃ i : Int, d = .int i ∧ 0 ≤ i
theorem ok_is_index (T : Top G) : Dl.Fn G 2 "is_index" (okSpec IdxD) := by
  have h1 := ok_is_number T
  refine mk_is_index T (fun _ => rfl) fun cdv M0 d hp => ?_
  obtain ⟨i, rfl, h2⟩ := hp
  repeat' walk_at "dl"
  show _ = _
  rw [decide_eq_true h2]
/-- no tuple -/
def sizedNSpec : Dl.Spec where
  α := Int
  arg n := [.dat .none, .dat (.int n)]
  pre _ := True
  post _ s := s = .dat (.bool false)
theorem ok_is_sizedN (T : Top G) : Dl.Fn G 1 "is_sized" sizedNSpec := by
  have f1 := fr_isinstance T
  have f2 := fr_len T
  have f3 := fr_tuple T
  refine mk_is_sized T (fun _ => rfl) fun cdv M0 (n : Int) hp => ?_
  repeat' walk_at "dl"
  exact rfl
/-- a list, not a tuple -/
def tupleOfLSpec : Dl.Spec where
  α := List PyData × Addr
  arg a := [.dat (.list a.1), .fn a.2]
  pre a := True
  post _ s := s = .dat (.bool false)
theorem ok_is_tuple_ofL (T : Top G) : Dl.Fn G 1 "is_tuple_of" tupleOfLSpec := by
  have f1 := fr_isinstance T
  have f2 := fr_all T
  have f3 := fr_tuple T
  refine mk_is_tuple_of T (fun _ => rfl) fun cdv M0 ⟨ds, f⟩ hp => ?_
  repeat' walk_at "dl"
  exact rfl
/-- what is_web is asked of, and what it says -/
inductive WebP : PyData → Bool → Prop
  | good (c : List Int) (its : List Itm) : c.length ≤ 10 → (∀ z ∈ c, 0 ≤ z) → (∀ x ∈ its, ItmOk x) → WebP (.tuple [.tuple (c.map .int), .tuple (its.map eI)]) (!c.isEmpty && decide ((its.length : Int) = c.length * ((c.length : Int) - 1) / 2))
  | lst (c : List Int) (ds : List PyData) : c ≠ [] → (∀ z ∈ c, 0 ≤ z) → WebP (.tuple [.tuple (c.map .int), .list ds]) false
  | non : WebP .none false
  | sz (ds : List PyData) : ds.length ≠ 2 → WebP (.tuple ds) false
def isWebSpec : Dl.Spec where
  α := PyData × Bool
  arg a := [.dat a.1]
  pre a := WebP a.1 a.2
  post a s := s = .dat (.bool a.2)
theorem eqv_mt (c : List Int) : PyData.eqv (.tuple (c.map .int)) (.tuple []) = c.isEmpty := by
  cases c <;> rfl
theorem sh_ints (c : List Int) : Dl.ShN 1 (.tuple (c.map .int)) := Dl.shN_tup (n := 0) fun d hd => by
  obtain ⟨z, _, rfl⟩ := List.mem_map.mp hd
  exact Dl.shN_int 0 z
theorem ok_is_web (T : Top G) (X : Ext G) : Dl.Fn G 8 "is_web" isWebSpec := by
  have f1 := fr_len T
  have h1 := ok_is_index T
  have h2 := ok_is_item T X
  have h3 := ok_is_sizedN T
  have h4 := ok_is_sized T
  have h5 := ok_is_tuple_of T 6
  refine mk_is_web T (fun _ => rfl) fun cdv M0 ⟨d, b⟩ hp => ?_
  have hp : WebP d b := hp
  cases hp with
  | non =>
    clear h4
    repeat' walk_at "dl"
    all_goals first | exact rfl | trace_state
  | sz ds hne =>
    clear h3
    repeat' walk_at "dl"
    · exact rfl
    · rename_i hc
      exfalso
      have hc : decide ((ds.length : Int) = 2) = true := by simpa using hc
      exact hne (by have := of_decide_eq_true hc; omega)
  | lst c ds hne hc =>
    clear h3
    repeat' walk_at "dl"
    refine Dl.d_glob (f := He.ga G.W.K "is_index") rfl h1.glo ?_
    refine Dl.a_nil ⟨(c.map .int, _, IdxD), rfl, ⟨.fn (h1.has.mono (by decide)), fun d hd => ?_⟩, fun s hs => ?_, fun _ h => h.elim⟩
    · obtain ⟨z, hz, rfl⟩ := List.mem_map.mp hd
      exact ⟨z, rfl, hc z hz⟩
    replace hs : _ = Dl.Sl.dat _ := hs
    subst hs
    repeat' walk_at "dl"
    refine Dl.o_eqD (sh_ints c).sh (Dl.shN_tup (n := 1) fun d hd => by cases hd).sh ?_
    rw [eqv_mt, show c.isEmpty = false from by cases c with | nil => exact absurd rfl hne | cons _ _ => rfl]
    have h6 := ok_is_tuple_ofL T
    refine ⟨_, rfl, fun h => (by cases h), fun _ => ?_⟩
    repeat' walk_at "dl"
    refine Dl.d_glob (f := He.ga G.W.K "is_item") rfl h2.glo ?_
    refine Dl.a_nil ⟨(ds, He.ga G.W.K "is_item"), rfl, trivial, fun s hs => ?_, fun _ h => h.elim⟩
    replace hs : _ = Dl.Sl.dat _ := hs
    subst hs
    repeat' walk_at "dl"
    exact rfl
  | good c its h10 hc hi =>
    clear h3
    repeat' walk_at "dl"
    refine Dl.d_glob (f := He.ga G.W.K "is_index") rfl h1.glo ?_
    refine Dl.a_nil ⟨(c.map .int, _, IdxD), rfl, ⟨.fn (h1.has.mono (by decide)), fun d hd => ?_⟩, fun s hs => ?_, fun _ h => h.elim⟩
    · obtain ⟨z, hz, rfl⟩ := List.mem_map.mp hd
      exact ⟨z, rfl, hc z hz⟩
    replace hs : _ = Dl.Sl.dat _ := hs
    subst hs
    repeat' walk_at "dl"
    refine Dl.o_eqD (sh_ints c).sh (Dl.shN_tup (n := 1) fun d hd => by cases hd).sh ?_
    rw [eqv_mt]
    refine ⟨_, rfl, fun h => ?_, fun h => ?_⟩
    · repeat' walk_at "dl"
      show _ = _
      rw [h]
      rfl
    repeat' walk_at "dl"
    refine Dl.d_glob (f := He.ga G.W.K "is_item") rfl h2.glo ?_
    refine Dl.a_nil ⟨(its.map eI, _, ItmD), rfl, ⟨.fn (h2.has.mono (by decide)), fun d hd => ?_⟩, fun s hs => ?_, fun _ h => h.elim⟩
    · obtain ⟨z, hz, rfl⟩ := List.mem_map.mp hd
      exact ⟨z, rfl, hi z hz⟩
    replace hs : _ = Dl.Sl.dat _ := hs
    subst hs
    repeat' walk_at "dl"
    · refine .inl ⟨?_, ?_⟩ <;> (show _ < _; rw [List.length_map]; omega)
    · exact ⟨by decide, by decide +kernel⟩
    · show _ = _
      rw [h, List.length_map, List.length_map]
      rfl
end
end K76
set_option Elab.async false
set_option linter.all false
set_option maxRecDepth 100000
set_option maxHeartbeats 4000000
set_option autoImplicit false
namespace K76
open PySem PySem.Spec PyProof.Rows L2
local macro_rules | `(tactic| walk_at "nm") => `(tactic| (refine Dl.d_nm (s := ?nmS) ?nmA ?nmB ?_; (case nmA => rfl); (case nmB => rfl)))
local macro_rules | `(tactic| walk_at "fr") => `(tactic| first | assumption)
local macro_rules | `(tactic| walk_at "name") => `(tactic| first
  | walk_at "nm"
  | ((with_reducible show Dl.dE _ _ (Expr.Name "int" _) _ _ _); refine Dl.d_t_int ?frA ?frB ?_; (case frA => walk_at "fr"); (case frB => rfl))
  | ((with_reducible show Dl.dE _ _ (Expr.Name "tuple" _) _ _ _); refine Dl.d_t_tuple ?frA ?frB ?_; (case frA => walk_at "fr"); (case frB => rfl))
  | ((with_reducible show Dl.dE _ _ (Expr.Name "list" _) _ _ _); refine Dl.d_t_list ?frA ?frB ?_; (case frA => walk_at "fr"); (case frB => rfl))
  | ((with_reducible show Dl.dE _ _ (Expr.Name "str" _) _ _ _); refine Dl.d_t_str ?frA ?frB ?_; (case frA => walk_at "fr"); (case frB => rfl))
  | ((with_reducible show Dl.dE _ _ (Expr.Name "bool" _) _ _ _); refine Dl.d_t_bool ?frA ?frB ?_; (case frA => walk_at "fr"); (case frB => rfl))
  | ((with_reducible show Dl.dE _ _ (Expr.Name "set" _) _ _ _); refine Dl.d_t_set ?frA ?frB ?_; (case frA => walk_at "fr"); (case frB => rfl))
  | walk_at "glob")
local macro_rules | `(tactic| walk_at "glob") => `(tactic| first
  | (refine Dl.d_globInt (i := ?gI) ?gA ?gB ?_; (case gA => rfl); (case gB => assumption))
  | (refine Dl.d_globStr (i := ?gI) ?gA ?gB ?_; (case gA => rfl); (case gB => assumption)))
local macro_rules | `(tactic| walk_at "call") => `(tactic| first
  | ((with_reducible show Dl.dE _ _ (Expr.Call (Expr.Name "isinstance" _) _ _ _) _ _ _); refine Dl.d_b_isinstance ?frA ?frB ?_; (case frA => walk_at "fr"); (case frB => rfl))
  | ((with_reducible show Dl.dE _ _ (Expr.Call (Expr.Name "len" _) _ _ _) _ _ _); refine Dl.d_b_len ?frA ?frB ?_; (case frA => walk_at "fr"); (case frB => rfl))
  | ((with_reducible show Dl.dE _ _ (Expr.Call (Expr.Name "all" _) _ _ _) _ _ _); refine Dl.d_b_all ?frA ?frB ?_; (case frA => walk_at "fr"); (case frB => rfl))
  | ((with_reducible show Dl.dE _ _ (Expr.Call (Expr.Name "any" _) _ _ _) _ _ _); refine Dl.d_b_any ?frA ?frB ?_; (case frA => walk_at "fr"); (case frB => rfl))
  | ((with_reducible show Dl.dE _ _ (Expr.Call (Expr.Name "abs" _) _ _ _) _ _ _); refine Dl.d_b_abs ?frA ?frB ?_; (case frA => walk_at "fr"); (case frB => rfl))
  | ((with_reducible show Dl.dE _ _ (Expr.Call (Expr.Name "sum" _) _ _ _) _ _ _); refine Dl.d_b_sum ?frA ?frB ?_; (case frA => walk_at "fr"); (case frB => rfl))
  | ((with_reducible show Dl.dE _ _ (Expr.Call (Expr.Name "min" _) _ _ _) _ _ _); refine Dl.d_b_min ?frA ?frB ?_; (case frA => walk_at "fr"); (case frB => rfl))
  | ((with_reducible show Dl.dE _ _ (Expr.Call (Expr.Name "max" _) _ _ _) _ _ _); refine Dl.d_b_max ?frA ?frB ?_; (case frA => walk_at "fr"); (case frB => rfl))
  | ((with_reducible show Dl.dE _ _ (Expr.Call (Expr.Name "sorted" _) _ _ _) _ _ _); refine Dl.d_b_sorted ?frA ?frB ?_; (case frA => walk_at "fr"); (case frB => rfl))
  | ((with_reducible show Dl.dE _ _ (Expr.Call (Expr.Name "int" _) _ _ _) _ _ _); refine Dl.d_c_int ?frA ?frB ?_; (case frA => walk_at "fr"); (case frB => rfl))
  | ((with_reducible show Dl.dE _ _ (Expr.Call (Expr.Name "tuple" _) _ _ _) _ _ _); refine Dl.d_c_tuple ?frA ?frB ?_; (case frA => walk_at "fr"); (case frB => rfl))
  | ((with_reducible show Dl.dE _ _ (Expr.Call (Expr.Name "list" _) _ _ _) _ _ _); refine Dl.d_c_list ?frA ?frB ?_; (case frA => walk_at "fr"); (case frB => rfl))
  | ((with_reducible show Dl.dE _ _ (Expr.Call (Expr.Name "str" _) _ _ _) _ _ _); refine Dl.d_c_str ?frA ?frB ?_; (case frA => walk_at "fr"); (case frB => rfl))
  | ((with_reducible show Dl.dE _ _ (Expr.Call (Expr.Name "bool" _) _ _ _) _ _ _); refine Dl.d_c_bool ?frA ?frB ?_; (case frA => walk_at "fr"); (case frB => rfl))
  | ((with_reducible show Dl.dE _ _ (Expr.Call (Expr.Name "set" _) _ _ _) _ _ _); refine Dl.d_c_set ?frA ?frB ?_; (case frA => walk_at "fr"); (case frB => rfl))
  | (refine Dl.d_fn (j := ?fnJ) (S := ?fnS) ?fnA ?fnB ?fnC ?_; (case fnA => assumption); (case fnB => exact Nat.le_of_ble_eq_true rfl); (case fnC => rfl)))
local macro_rules | `(tactic| walk_at "ed") => `(tactic| ((with_reducible show Dl.dE _ _ _ _ _ _); first
  | ((with_reducible show Dl.dE _ _ (Expr.Name _ _) _ _ _); walk_at "name")
  | ((with_reducible show Dl.dE _ _ (Expr.Constant (Const.int _) _ _) _ _ _); refine Dl.d_int ?_)
  | ((with_reducible show Dl.dE _ _ (Expr.Constant (Const.str _) _ _) _ _ _); refine Dl.d_str ?_)
  | ((with_reducible show Dl.dE _ _ (Expr.Constant (Const.bool _) _ _) _ _ _); refine Dl.d_bool ?_)
  | ((with_reducible show Dl.dE _ _ (Expr.Constant Const.none _ _) _ _ _); refine Dl.d_none ?_)
  | ((with_reducible show Dl.dE _ _ (Expr.Call (Expr.Name _ _) [_, Expr.Tuple [Expr.Name _ _, Expr.Name _ _] _ _] _ _) _ _ _); (refine Dl.d_isi2 ?frA ?frB ?frC ?frD ?frE ?frF ?_; (case frA => walk_at "fr"); (case frB => walk_at "fr"); (case frC => walk_at "fr"); (case frD => rfl); (case frE => rfl); (case frF => rfl)))
  | ((with_reducible show Dl.dE _ _ (Expr.Call (Expr.Name _ _) _ _ _) _ _ _); walk_at "call")
  | ((with_reducible show Dl.dE _ _ (Expr.BoolOp _ [_] _) _ _ _); refine Dl.d_one ?_)
  | ((with_reducible show Dl.dE _ _ (Expr.BoolOp BoolOp.And _ _) _ _ _); refine Dl.d_and ?_)
  | ((with_reducible show Dl.dE _ _ (Expr.BoolOp BoolOp.Or _ _) _ _ _); refine Dl.d_or ?_)
  | ((with_reducible show Dl.dE _ _ (Expr.UnaryOp UnaryOp.Not _ _) _ _ _); refine Dl.d_not ?_)
  | ((with_reducible show Dl.dE _ _ (Expr.UnaryOp UnaryOp.USub _ _) _ _ _); refine Dl.d_neg ?_)
  | ((with_reducible show Dl.dE _ _ (Expr.BinOp _ _ _ _) _ _ _); refine Dl.d_bin ?_)
  | ((with_reducible show Dl.dE _ _ (Expr.Compare _ [_] _ _) _ _ _); refine Dl.d_cmp ?_)
  | ((with_reducible show Dl.dE _ _ (Expr.Compare _ [_, _] _ _) _ _ _); refine Dl.d_chain ?_)
  | ((with_reducible show Dl.dE _ _ (Expr.IfExp _ _ _ _) _ _ _); refine Dl.d_if ?_)
  | ((with_reducible show Dl.dE _ _ (Expr.Tuple _ _ _) _ _ _); refine Dl.d_tup ?_)
  | ((with_reducible show Dl.dE _ _ (Expr.List _ _) _ _ _); refine Dl.d_lst ?_)
  | ((with_reducible show Dl.dE _ _ (Expr.Subscript _ (Expr.Slice _ _ _ _) _) _ _ _); refine Dl.d_slice ?_)
  | ((with_reducible show Dl.dE _ _ (Expr.Subscript _ _ _) _ _ _); refine Dl.d_ix ?_)))
local macro_rules | `(tactic| walk_at "ad") => `(tactic| ((with_reducible show Dl.dA _ _ _ _ _ _); first | refine Dl.a_nil ?_ | refine Dl.a_cons ?_))
local macro_rules | `(tactic| walk_at "td") => `(tactic| first
  | ((with_reducible show Dl.dT _ _ (Expr.UnaryOp UnaryOp.Not _ _) _ _ _); refine Dl.t_not ?_)
  | ((with_reducible show Dl.dT _ _ (Expr.BoolOp _ _ _) _ _ _); refine Dl.t_bool ?_)
  | ((with_reducible show Dl.dT _ _ (Expr.Compare _ [_] _ _) _ _ _); refine Dl.t_cmp ?_)
  | ((with_reducible show Dl.dT _ _ (Expr.Compare _ [_, _] _ _) _ _ _); refine Dl.t_chain ?_)
  | ((with_reducible show Dl.dT _ _ (_) _ _ _); refine Dl.t_val ?_)
  | ((with_reducible show Dl.dW _ _ (Expr.BoolOp BoolOp.And [_] _) _ _ _); refine Dl.w_and1 ?_)
  | ((with_reducible show Dl.dW _ _ (Expr.BoolOp BoolOp.Or [_] _) _ _ _); refine Dl.w_or1 ?_)
  | ((with_reducible show Dl.dW _ _ (Expr.BoolOp BoolOp.And _ _) _ _ _); refine Dl.w_and ?_)
  | ((with_reducible show Dl.dW _ _ (Expr.BoolOp BoolOp.Or _ _) _ _ _); refine Dl.w_or ?_))
local macro_rules | `(tactic| walk_at "od") => `(tactic| ((with_reducible show Dl.OpD _ _ _ _ _ _); first
  | refine Dl.o_add ?_ | refine Dl.o_sub ?_ | refine Dl.o_lt ?_ | refine Dl.o_le ?_ | refine Dl.o_gt ?_ | refine Dl.o_ge ?_ | refine Dl.o_eq ?_ | refine Dl.o_ne ?_ | refine Dl.o_eqS ?_ | refine Dl.o_mul ?_ ?_ | refine Dl.o_mod ?_ ?_ | refine Dl.o_fdivW ?_ ?_ | refine Dl.o_inS ?_ | refine Dl.o_notInS ?_
  | refine Dl.o_isN ?_ | refine Dl.o_notN ?_))
local macro_rules | `(tactic| walk_at "cd") => `(tactic| ((with_reducible show Dl.CallD _ _ _ _ _); first
  | refine Dl.c_lenT ?_ | refine Dl.c_lenL ?_ | refine Dl.c_lenO ?_ | refine Dl.c_abs ?_ | refine Dl.c_int ?_ | refine Dl.c_lenS ?_ ?_ | refine Dl.c_allT ?_
  | refine Dl.c_isInt ?_ | refine Dl.c_isBool ?_ | refine Dl.c_isStr ?_ | refine Dl.c_isTuple ?_ | refine Dl.c_isList ?_
  | refine Dl.c_allF ?_ | refine Dl.c_tupL ?_ | refine Dl.c_tupT ?_))
local macro_rules | `(tactic| walk_at "sd") => `(tactic| first
  | ((with_reducible show Dl.dS _ _ _ (Stmt.Return (some _) _) _ _ _ _); refine Dl.s_ret ?_)
  | ((with_reducible show Dl.dS _ _ _ (Stmt.Assign [Expr.Tuple [Expr.Name _ _, Expr.Name _ _] _ _] (Expr.Tuple [_, _] _ _) _) _ _ _ _); (refine Dl.s_pr (i := ?stI) (j := ?stJ) ?stA ?stB ?stC ?stD ?stE ?_; (case stA => rfl); (case stB => rfl); (case stC => rfl); (case stD => rfl); (case stE => rfl)))
  | ((with_reducible show Dl.dS _ _ _ (Stmt.If _ _ _ _) _ _ _ _); refine Dl.s_if ?_)
  | ((with_reducible show Dl.dS _ _ _ (Stmt.Assign [Expr.Name _ _] _ _) _ _ _ _); (refine Dl.s_st (i := ?stI) ?stA ?stB ?stC ?_; (case stA => rfl); (case stB => rfl); (case stC => rfl)))
  | ((with_reducible show Dl.dS _ _ _ (Stmt.Expr _ _) _ _ _ _); refine Dl.s_expr ?_)
  | ((with_reducible show Dl.dSs _ _ _ _ _ _ _ _); first | refine Dl.s_cons ?_ | refine Dl.s_nil ?_))
local macro_rules | `(tactic| walk_at "xd") => `(tactic| ((with_reducible show Dl.IxD _ _ _ _ _); first | (refine Dl.x_T (d := ?ixD) ?ixE ?_; (case ixE => rfl)) | (refine Dl.x_L (d := ?ixD) ?ixE ?_; (case ixE => rfl)) | (refine Dl.x_O (d := ?ixD) ?ixE ?_; (case ixE => rfl))))
local macro_rules | `(tactic| walk_at "ds") => `(tactic| (refine Dl.ex_dats (ds := ?dsW) ?dsA ?dsB ?_; (case dsA => rfl); (case dsB => rfl)))
local macro_rules | `(tactic| walk_at "dl") => `(tactic| first
  | walk_at "ds"
  | walk_at "ed"
  | walk_at "ad"
  | walk_at "td"
  | walk_at "od"
  | walk_at "cd"
  | walk_at "sd"
  | walk_at "xd"
  | ((with_reducible refine ⟨_, rfl, fun hc => ?_, fun hc => ?_⟩) <;> (first | contradiction | (exfalso; revert hc; simp [Dl.isTy, Dl.tyD]; done) | skip))
  | ((with_reducible refine ⟨fun hc => ?_, fun hc => ?_⟩) <;> (first | contradiction | (exfalso; revert hc; simp [Dl.isTy, Dl.tyD]; done) | skip))
  | (refine ⟨_, _, rfl, rfl, ?_⟩)
  | (refine ⟨rfl, ?_⟩)
  | (with_reducible refine ⟨_, rfl, ?_⟩)
  | (refine ⟨(_, _), rfl, ?_⟩)
  | (refine ⟨(_, _, _), rfl, ?_⟩)
  | (refine ⟨True.intro, fun _ hs => ?_, fun _ hx => False.elim hx⟩; replace hs : _ = Dl.Sl.dat _ := hs; subst hs)
  | (refine ⟨by assumption, fun _ hs => ?_, fun _ hx => False.elim hx⟩; replace hs : _ = Dl.Sl.dat _ := hs; subst hs)
  | fail)
/-! ### the menu between two colours -/
theorem perm_mapE {α β : Type} {f : α → β} : ∀ {es ds : List β}, es.Perm ds → ∀ l : List α, ds = l.map f → ∃ l' : List α, l'.Perm l ∧ es = l'.map f := by
  intro es ds pm
  induction pm with
  | nil => intro l e; exact ⟨l, .refl _, e⟩
  | cons x _ ih =>
    intro l e
    cases l with
    | nil => cases e
    | cons z l =>
      injection e with e1 e2
      obtain ⟨l2, p2, q2⟩ := ih l e2
      exact ⟨z :: l2, p2.cons z, by rw [List.map_cons, ← q2, e1]⟩
  | swap x y l0 =>
    intro l e
    cases l with
    | nil => cases e
    | cons z l =>
      cases l with
      | nil => cases e
      | cons w l =>
        injection e with e1 e2
        injection e2 with e2 e3
        exact ⟨w :: z :: l, .swap .., by rw [List.map_cons, List.map_cons, e1, e2, e3]⟩
  | trans _ _ ih1 ih2 =>
    intro l e
    obtain ⟨k2, p2, q2⟩ := ih2 l e
    obtain ⟨k3, p3, q3⟩ := ih1 k2 q2
    exact ⟨k3, p3.trans p2, q3⟩
def cix (m a b : Nat) : Nat := (couplesI m).idxOf (a, b)
theorem coup_all : ∀ m ∈ [1, 2, 3], ∀ b ∈ List.range m, ∀ a ∈ List.range (b + 1), (couplesI m)[cix m a b]? = some (a, b) ∧ ∀ i ∈ List.range (cix m a b), (couplesI m)[i]? ≠ some (a, b) := by decide
theorem coup_pos {m a b : Nat} (m1 : 1 ≤ m) (m3 : m ≤ 3) (ab : a ≤ b) (bm : b < m) : (couplesI m)[cix m a b]? = some (a, b) ∧ ∀ i, i < cix m a b → (couplesI m)[i]? ≠ some (a, b) := by
  have h := coup_all m (by simp; omega) b (List.mem_range.mpr bm) a (List.mem_range.mpr (by omega))
  exact ⟨h.1, fun i hi => h.2 i (List.mem_range.mpr hi)⟩
theorem nb_c (c : Nat × Nat) : Dl.Nb (eC c) := .tuple fun d hd => by
  rcases List.mem_cons.mp hd with rfl | hd
  · exact .int _
  · rw [List.mem_singleton.mp hd]; exact .int _
theorem sh_c (c : Nat × Nat) : Dl.ShN 1 (eC c) := Dl.shN_tup (n := 0) fun d hd => by
  rcases List.mem_cons.mp hd with rfl | hd
  · exact Dl.shN_int 0 _
  · rw [List.mem_singleton.mp hd]; exact Dl.shN_int 0 _
theorem eC_inj {p q : Nat × Nat} (h : eC p = eC q) : p = q := by
  unfold eC at h
  injection h with h
  injection h with h1 h2
  injection h2 with h2 _
  injection h1 with h1
  injection h2 with h2
  exact Prod.ext (by omega) (by omega)
theorem eqv_cne {p q : Nat × Nat} (h : p ≠ q) : PyData.eqv (eC p) (eC q) = false := by
  cases e : PyData.eqv (eC p) (eC q) with
  | false => rfl
  | true => exact absurd (eC_inj ((Dl.eqv_iff _ _ (nb_c p) (nb_c q)).mp e)) h
theorem sh_cs (l : List (Nat × Nat)) : Dl.ShN 2 (.list (l.map eC)) := Dl.shN_lst (n := 1) fun d hd => by
  obtain ⟨c, _, rfl⟩ := List.mem_map.mp hd
  exact sh_c c
def menuAt (k : Kd) (a b : Nat) : Menu := k.menus.getD (cix k.cols.length a b) []
def letL (k : Kd) (a b : Nat) : List Itm := if a ≤ b then (menuAt k a b).map (·.1) else (menuAt k b a).map fun r => mirrorI k.ties r.1
theorem menu_at {k : Kd} (h : KindOk k) {a b : Nat} (ab : a ≤ b) (bm : b < k.cols.length) : k.menus[cix k.cols.length a b]? = some (menuAt k a b) ∧ menuAt k a b ∈ k.menus ∧ cix k.cols.length a b < k.menus.length ∧ k.menus.length ≤ 6 := by
  obtain ⟨_, b2, _, _, _, _, b7⟩ := h
  have h1 := (coup_pos b2.1 b2.2 ab bm).1
  have hl := (List.getElem?_eq_some_iff.mp h1).1
  have hlen : (couplesI k.cols.length).length = k.menus.length := by
    rw [b7]
    have : k.cols.length = 1 ∨ k.cols.length = 2 ∨ k.cols.length = 3 := by omega
    rcases this with e | e | e <;> rw [e] <;> rfl
  have h6 : k.menus.length ≤ 6 := by
    rw [b7]
    have : k.cols.length = 1 ∨ k.cols.length = 2 ∨ k.cols.length = 3 := by omega
    rcases this with e | e | e <;> rw [e] <;> decide
  rw [hlen] at hl
  have e : k.menus[cix k.cols.length a b]? = some (menuAt k a b) := by
    unfold menuAt
    rw [List.getD_eq_getElem?_getD, List.getElem?_eq_getElem hl]
    rfl
  exact ⟨e, List.mem_of_getElem? e, hl, h6⟩
theorem alike_row (r q : Row) : PySem.W.alike (eRow r) (eRow q) = true := by
  show (PySem.W.alikeAll (r.1.map PyData.int) (q.1.map .int) && (PySem.W.alikeAll [.int r.2.1, .int r.2.2] [.int q.2.1, .int q.2.2] && true)) = true
  rw [PySem.W.alike_ints]
  rfl
def pmSpec : Dl.Spec where
  α := Kd × Nat × Nat
  arg a := [.dat (eKd a.1), .dat (.int (a.2.1 : Nat)), .dat (.int (a.2.2 : Nat))]
  pre a := KindOk a.1 ∧ a.2.1 < a.1.cols.length ∧ a.2.2 < a.1.cols.length
  post a s := ∃ m : Menu, (m.map (·.1)).Perm (letL a.1 a.2.1 a.2.2) ∧ m.length ≤ 64 ∧ s = .dat (eMenu m)
section
variable {G : Dl.Gd}
theorem ok_plain_menu (T : Top G) : Dl.Fn G 2 "plain_menu" pmSpec := by
  have f1 := fr_len T
  have f2 := fr_tuple T
  have f3 := fr_sorted T
  have h1 := ok_couples_of T
  have h2 := ok_plain_mirror T
  refine mk_plain_menu T (fun _ => rfl) fun cdv M0 ⟨k, a, b⟩ hp => ?_
  obtain ⟨hk, ha, hb⟩ := hp
  dsimp only at hk ha hb
  have hk' := hk
  obtain ⟨b1, b2, b3, b4, b5, b6, b7⟩ := hk'
  repeat' walk_at "dl"
  · rename_i hc
    have ab : a ≤ b := by have := of_decide_eq_true hc; have : (a : Int) ≤ b := this; omega
    obtain ⟨p1, p2⟩ := coup_pos b2.1 b2.2 ab hb
    obtain ⟨q1, q2, q3, q4⟩ := menu_at hk ab hb
    refine Dl.d_index ?_
    repeat' walk_at "dl"
    refine ⟨by show (k.cols.map eCol).length ≤ 3; rw [List.length_map]; exact b2.2, fun s hs => ?_, fun _ h => h.elim⟩
    replace hs : _ = Dl.Sl.dat _ := hs
    rw [List.length_map] at hs
    subst hs
    refine ⟨_, rfl, ?_⟩
    repeat' walk_at "dl"
    refine ⟨eC (a, b), cix k.cols.length a b, eC (a, b), rfl, (sh_cs _).sh, (sh_c _).sh, by rw [List.getElem?_map, p1]; rfl, (Dl.eqv_iff _ _ (nb_c _) (nb_c _)).mpr rfl, fun m z' hm hz => ?_, ?_⟩
    · rw [List.getElem?_map] at hz
      cases hy : (couplesI k.cols.length)[m]? with
      | none => rw [hy] at hz; cases hz
      | some y =>
        rw [hy] at hz
        cases hz
        exact eqv_cne fun e => p2 m hm (by rw [hy, e])
    refine Dl.x_T (d := eMenu (menuAt k a b)) (Dl.atD (by rw [List.getElem?_map, q1]; rfl)) ?_
    repeat' walk_at "dl"
    refine ⟨menuAt k a b, ?_, (b6 _ q2).1, rfl⟩
    show ((menuAt k a b).map (·.1)).Perm (letL k a b)
    unfold letL
    rw [if_pos ab]
  · rename_i hc
    have nab : ¬ a ≤ b := by have := of_decide_eq_false hc; have : ¬ (a : Int) ≤ b := this; omega
    have ab : b ≤ a := by omega
    obtain ⟨p1, p2⟩ := coup_pos b2.1 b2.2 ab ha
    obtain ⟨q1, q2, q3, q4⟩ := menu_at hk ab ha
    refine Dl.d_index ?_
    repeat' walk_at "dl"
    refine ⟨by show (k.cols.map eCol).length ≤ 3; rw [List.length_map]; exact b2.2, fun s hs => ?_, fun _ h => h.elim⟩
    replace hs : _ = Dl.Sl.dat _ := hs
    rw [List.length_map] at hs
    subst hs
    refine ⟨_, rfl, ?_⟩
    repeat' walk_at "dl"
    refine ⟨eC (b, a), cix k.cols.length b a, eC (b, a), rfl, (sh_cs _).sh, (sh_c _).sh, by rw [List.getElem?_map, p1]; rfl, (Dl.eqv_iff _ _ (nb_c _) (nb_c _)).mpr rfl, fun m z' hm hz => ?_, ?_⟩
    · rw [List.getElem?_map] at hz
      cases hy : (couplesI k.cols.length)[m]? with
      | none => rw [hy] at hz; cases hz
      | some y =>
        rw [hy] at hz
        cases hz
        exact eqv_cne fun e => p2 m hm (by rw [hy, e])
    refine Dl.x_T (d := eMenu (menuAt k b a)) (Dl.atD (by rw [List.getElem?_map, q1]; rfl)) ⟨rfl, ?_⟩
    have q5 : ∀ e, e ∈ menuAt k b a → ItmOk e.1 := fun e he => ((b6 _ q2).2 e he).1
    have q6 : (menuAt k b a).length ≤ 64 := (b6 _ q2).1
    have q7 : ((menuAt k b a).map fun r : Row => mirrorI k.ties r.1) = letL k a b := by unfold letL; rw [if_neg nab]
    generalize menuAt k b a = mm at q5 q6 q7
    repeat' walk_at "dl"
    refine Dl.d_ofLc (Dl.l_T (QL := fun zs => zs = (mm.map fun r : Row => (mirrorI k.ties r.1, r.2)).map eRow) eRow (fun r : Row => eRow (mirrorI k.ties r.1, r.2)) (own := [("item", 4), ("share", 5)]) (is := [4, 5]) (by kernel_rfl) (by decide) ?_) (fun zs hz => ?_)
    · refine Dl.i_tupL ?_
      repeat' walk_at "dl"
      refine fun hl => ⟨mm, rfl, hl, fun D r hr => ?_, by rw [List.map_map]; rfl⟩
      obtain ⟨x, sh⟩ := r
      have hx := q5 _ hr
      refine Dl.g_tup (ds := [eI x, eSh sh]) (is := [4, 5]) rfl (Dl.gs_cons (is := [4]) (js := [5]) (Dl.g_nm (i := 4) rfl rfl (Dl.gs_cons (is := [5]) (js := []) (Dl.g_nm (i := 5) rfl rfl (Dl.gs_nil ?_)))))
      repeat' walk_at "dl"
      refine ⟨⟨b4, hx⟩, fun s hs => ?_, fun _ h => h.elim⟩
      replace hs : _ = Dl.Sl.dat _ := hs
      subst hs
      repeat' walk_at "dl"
      rfl
    subst hz
    repeat' walk_at "dl"
    refine Dl.c_sortD (fun d hd d' hd' => ?_) (.inl fun d hd => ?_) (fun d hd => ?_) fun out pm => ?_
    · obtain ⟨r, _, rfl⟩ := List.mem_map.mp hd
      obtain ⟨r', _, rfl⟩ := List.mem_map.mp hd'
      exact alike_row r r'
    · obtain ⟨r, _, rfl⟩ := List.mem_map.mp hd
      exact ⟨_, _, rfl⟩
    · obtain ⟨r, _, rfl⟩ := List.mem_map.mp hd
      exact Nat.le_trans (sh_row r).2 (by decide)
    obtain ⟨m', pm', rfl⟩ := perm_mapE pm _ rfl
    repeat' walk_at "dl"
    refine ⟨m', ?_, by rw [pm'.length_eq, List.length_map]; exact q6, rfl⟩
    show (m'.map (·.1)).Perm (letL k a b)
    rw [← q7]
    have := pm'.map (fun r : Row => r.1)
    rw [List.map_map] at this
    exact this
end
end K76
set_option Elab.async false
set_option linter.all false
set_option maxRecDepth 100000
set_option maxHeartbeats 4000000
set_option autoImplicit false
namespace K76
open PySem PySem.Spec PyProof.Rows L2
local macro_rules | `(tactic| walk_at "nm") => `(tactic| (refine Dl.d_nm (s := ?nmS) ?nmA ?nmB ?_; (case nmA => rfl); (case nmB => rfl)))
local macro_rules | `(tactic| walk_at "fr") => `(tactic| first | assumption)
local macro_rules | `(tactic| walk_at "name") => `(tactic| first
  | walk_at "nm"
  | ((with_reducible show Dl.dE _ _ (Expr.Name "int" _) _ _ _); refine Dl.d_t_int ?frA ?frB ?_; (case frA => walk_at "fr"); (case frB => rfl))
  | ((with_reducible show Dl.dE _ _ (Expr.Name "tuple" _) _ _ _); refine Dl.d_t_tuple ?frA ?frB ?_; (case frA => walk_at "fr"); (case frB => rfl))
  | ((with_reducible show Dl.dE _ _ (Expr.Name "list" _) _ _ _); refine Dl.d_t_list ?frA ?frB ?_; (case frA => walk_at "fr"); (case frB => rfl))
  | ((with_reducible show Dl.dE _ _ (Expr.Name "str" _) _ _ _); refine Dl.d_t_str ?frA ?frB ?_; (case frA => walk_at "fr"); (case frB => rfl))
  | ((with_reducible show Dl.dE _ _ (Expr.Name "bool" _) _ _ _); refine Dl.d_t_bool ?frA ?frB ?_; (case frA => walk_at "fr"); (case frB => rfl))
  | ((with_reducible show Dl.dE _ _ (Expr.Name "set" _) _ _ _); refine Dl.d_t_set ?frA ?frB ?_; (case frA => walk_at "fr"); (case frB => rfl))
  | walk_at "glob")
local macro_rules | `(tactic| walk_at "glob") => `(tactic| first
  | (refine Dl.d_globInt (i := ?gI) ?gA ?gB ?_; (case gA => rfl); (case gB => assumption))
  | (refine Dl.d_globStr (i := ?gI) ?gA ?gB ?_; (case gA => rfl); (case gB => assumption)))
local macro_rules | `(tactic| walk_at "call") => `(tactic| first
  | ((with_reducible show Dl.dE _ _ (Expr.Call (Expr.Name "isinstance" _) _ _ _) _ _ _); refine Dl.d_b_isinstance ?frA ?frB ?_; (case frA => walk_at "fr"); (case frB => rfl))
  | ((with_reducible show Dl.dE _ _ (Expr.Call (Expr.Name "len" _) _ _ _) _ _ _); refine Dl.d_b_len ?frA ?frB ?_; (case frA => walk_at "fr"); (case frB => rfl))
  | ((with_reducible show Dl.dE _ _ (Expr.Call (Expr.Name "all" _) _ _ _) _ _ _); refine Dl.d_b_all ?frA ?frB ?_; (case frA => walk_at "fr"); (case frB => rfl))
  | ((with_reducible show Dl.dE _ _ (Expr.Call (Expr.Name "any" _) _ _ _) _ _ _); refine Dl.d_b_any ?frA ?frB ?_; (case frA => walk_at "fr"); (case frB => rfl))
  | ((with_reducible show Dl.dE _ _ (Expr.Call (Expr.Name "abs" _) _ _ _) _ _ _); refine Dl.d_b_abs ?frA ?frB ?_; (case frA => walk_at "fr"); (case frB => rfl))
  | ((with_reducible show Dl.dE _ _ (Expr.Call (Expr.Name "sum" _) _ _ _) _ _ _); refine Dl.d_b_sum ?frA ?frB ?_; (case frA => walk_at "fr"); (case frB => rfl))
  | ((with_reducible show Dl.dE _ _ (Expr.Call (Expr.Name "min" _) _ _ _) _ _ _); refine Dl.d_b_min ?frA ?frB ?_; (case frA => walk_at "fr"); (case frB => rfl))
  | ((with_reducible show Dl.dE _ _ (Expr.Call (Expr.Name "max" _) _ _ _) _ _ _); refine Dl.d_b_max ?frA ?frB ?_; (case frA => walk_at "fr"); (case frB => rfl))
  | ((with_reducible show Dl.dE _ _ (Expr.Call (Expr.Name "sorted" _) _ _ _) _ _ _); refine Dl.d_b_sorted ?frA ?frB ?_; (case frA => walk_at "fr"); (case frB => rfl))
  | ((with_reducible show Dl.dE _ _ (Expr.Call (Expr.Name "int" _) _ _ _) _ _ _); refine Dl.d_c_int ?frA ?frB ?_; (case frA => walk_at "fr"); (case frB => rfl))
  | ((with_reducible show Dl.dE _ _ (Expr.Call (Expr.Name "tuple" _) _ _ _) _ _ _); refine Dl.d_c_tuple ?frA ?frB ?_; (case frA => walk_at "fr"); (case frB => rfl))
  | ((with_reducible show Dl.dE _ _ (Expr.Call (Expr.Name "list" _) _ _ _) _ _ _); refine Dl.d_c_list ?frA ?frB ?_; (case frA => walk_at "fr"); (case frB => rfl))
  | ((with_reducible show Dl.dE _ _ (Expr.Call (Expr.Name "str" _) _ _ _) _ _ _); refine Dl.d_c_str ?frA ?frB ?_; (case frA => walk_at "fr"); (case frB => rfl))
  | ((with_reducible show Dl.dE _ _ (Expr.Call (Expr.Name "bool" _) _ _ _) _ _ _); refine Dl.d_c_bool ?frA ?frB ?_; (case frA => walk_at "fr"); (case frB => rfl))
  | ((with_reducible show Dl.dE _ _ (Expr.Call (Expr.Name "set" _) _ _ _) _ _ _); refine Dl.d_c_set ?frA ?frB ?_; (case frA => walk_at "fr"); (case frB => rfl))
  | (refine Dl.d_fn (j := ?fnJ) (S := ?fnS) ?fnA ?fnB ?fnC ?_; (case fnA => assumption); (case fnB => exact Nat.le_of_ble_eq_true rfl); (case fnC => rfl)))
local macro_rules | `(tactic| walk_at "ed") => `(tactic| ((with_reducible show Dl.dE _ _ _ _ _ _); first
  | ((with_reducible show Dl.dE _ _ (Expr.Name _ _) _ _ _); walk_at "name")
  | ((with_reducible show Dl.dE _ _ (Expr.Constant (Const.int _) _ _) _ _ _); refine Dl.d_int ?_)
  | ((with_reducible show Dl.dE _ _ (Expr.Constant (Const.str _) _ _) _ _ _); refine Dl.d_str ?_)
  | ((with_reducible show Dl.dE _ _ (Expr.Constant (Const.bool _) _ _) _ _ _); refine Dl.d_bool ?_)
  | ((with_reducible show Dl.dE _ _ (Expr.Constant Const.none _ _) _ _ _); refine Dl.d_none ?_)
  | ((with_reducible show Dl.dE _ _ (Expr.Call (Expr.Name _ _) [_, Expr.Tuple [Expr.Name _ _, Expr.Name _ _] _ _] _ _) _ _ _); (refine Dl.d_isi2 ?frA ?frB ?frC ?frD ?frE ?frF ?_; (case frA => walk_at "fr"); (case frB => walk_at "fr"); (case frC => walk_at "fr"); (case frD => rfl); (case frE => rfl); (case frF => rfl)))
  | ((with_reducible show Dl.dE _ _ (Expr.Call (Expr.Name _ _) _ _ _) _ _ _); walk_at "call")
  | ((with_reducible show Dl.dE _ _ (Expr.BoolOp _ [_] _) _ _ _); refine Dl.d_one ?_)
  | ((with_reducible show Dl.dE _ _ (Expr.BoolOp BoolOp.And _ _) _ _ _); refine Dl.d_and ?_)
  | ((with_reducible show Dl.dE _ _ (Expr.BoolOp BoolOp.Or _ _) _ _ _); refine Dl.d_or ?_)
  | ((with_reducible show Dl.dE _ _ (Expr.UnaryOp UnaryOp.Not _ _) _ _ _); refine Dl.d_not ?_)
  | ((with_reducible show Dl.dE _ _ (Expr.UnaryOp UnaryOp.USub _ _) _ _ _); refine Dl.d_neg ?_)
  | ((with_reducible show Dl.dE _ _ (Expr.BinOp _ _ _ _) _ _ _); refine Dl.d_bin ?_)
  | ((with_reducible show Dl.dE _ _ (Expr.Compare _ [_] _ _) _ _ _); refine Dl.d_cmp ?_)
  | ((with_reducible show Dl.dE _ _ (Expr.Compare _ [_, _] _ _) _ _ _); refine Dl.d_chain ?_)
  | ((with_reducible show Dl.dE _ _ (Expr.IfExp _ _ _ _) _ _ _); refine Dl.d_if ?_)
  | ((with_reducible show Dl.dE _ _ (Expr.Tuple _ _ _) _ _ _); refine Dl.d_tup ?_)
  | ((with_reducible show Dl.dE _ _ (Expr.List _ _) _ _ _); refine Dl.d_lst ?_)
  | ((with_reducible show Dl.dE _ _ (Expr.Subscript _ (Expr.Slice _ _ _ _) _) _ _ _); refine Dl.d_slice ?_)
  | ((with_reducible show Dl.dE _ _ (Expr.Subscript _ _ _) _ _ _); refine Dl.d_ix ?_)))
local macro_rules | `(tactic| walk_at "ad") => `(tactic| ((with_reducible show Dl.dA _ _ _ _ _ _); first | refine Dl.a_nil ?_ | refine Dl.a_cons ?_))
local macro_rules | `(tactic| walk_at "td") => `(tactic| first
  | ((with_reducible show Dl.dT _ _ (Expr.UnaryOp UnaryOp.Not _ _) _ _ _); refine Dl.t_not ?_)
  | ((with_reducible show Dl.dT _ _ (Expr.BoolOp _ _ _) _ _ _); refine Dl.t_bool ?_)
  | ((with_reducible show Dl.dT _ _ (Expr.Compare _ [_] _ _) _ _ _); refine Dl.t_cmp ?_)
  | ((with_reducible show Dl.dT _ _ (Expr.Compare _ [_, _] _ _) _ _ _); refine Dl.t_chain ?_)
  | ((with_reducible show Dl.dT _ _ (_) _ _ _); refine Dl.t_val ?_)
  | ((with_reducible show Dl.dW _ _ (Expr.BoolOp BoolOp.And [_] _) _ _ _); refine Dl.w_and1 ?_)
  | ((with_reducible show Dl.dW _ _ (Expr.BoolOp BoolOp.Or [_] _) _ _ _); refine Dl.w_or1 ?_)
  | ((with_reducible show Dl.dW _ _ (Expr.BoolOp BoolOp.And _ _) _ _ _); refine Dl.w_and ?_)
  | ((with_reducible show Dl.dW _ _ (Expr.BoolOp BoolOp.Or _ _) _ _ _); refine Dl.w_or ?_))
local macro_rules | `(tactic| walk_at "od") => `(tactic| ((with_reducible show Dl.OpD _ _ _ _ _ _); first
  | refine Dl.o_add ?_ | refine Dl.o_sub ?_ | refine Dl.o_lt ?_ | refine Dl.o_le ?_ | refine Dl.o_gt ?_ | refine Dl.o_ge ?_ | refine Dl.o_eq ?_ | refine Dl.o_ne ?_ | refine Dl.o_eqS ?_ | refine Dl.o_mul ?_ ?_ | refine Dl.o_mod ?_ ?_ | refine Dl.o_fdivW ?_ ?_ | refine Dl.o_inS ?_ | refine Dl.o_notInS ?_
  | refine Dl.o_isN ?_ | refine Dl.o_notN ?_))
local macro_rules | `(tactic| walk_at "cd") => `(tactic| ((with_reducible show Dl.CallD _ _ _ _ _); first
  | refine Dl.c_lenT ?_ | refine Dl.c_lenL ?_ | refine Dl.c_lenO ?_ | refine Dl.c_abs ?_ | refine Dl.c_int ?_ | refine Dl.c_lenS ?_ ?_ | refine Dl.c_allT ?_
  | refine Dl.c_isInt ?_ | refine Dl.c_isBool ?_ | refine Dl.c_isStr ?_ | refine Dl.c_isTuple ?_ | refine Dl.c_isList ?_
  | refine Dl.c_allF ?_ | refine Dl.c_tupL ?_ | refine Dl.c_tupT ?_))
local macro_rules | `(tactic| walk_at "sd") => `(tactic| first
  | ((with_reducible show Dl.dS _ _ _ (Stmt.Return (some _) _) _ _ _ _); refine Dl.s_ret ?_)
  | ((with_reducible show Dl.dS _ _ _ (Stmt.Assign [Expr.Tuple [Expr.Name _ _, Expr.Name _ _] _ _] (Expr.Tuple [_, _] _ _) _) _ _ _ _); (refine Dl.s_pr (i := ?stI) (j := ?stJ) ?stA ?stB ?stC ?stD ?stE ?_; (case stA => rfl); (case stB => rfl); (case stC => rfl); (case stD => rfl); (case stE => rfl)))
  | ((with_reducible show Dl.dS _ _ _ (Stmt.If _ _ _ _) _ _ _ _); refine Dl.s_if ?_)
  | ((with_reducible show Dl.dS _ _ _ (Stmt.Assign [Expr.Name _ _] _ _) _ _ _ _); (refine Dl.s_st (i := ?stI) ?stA ?stB ?stC ?_; (case stA => rfl); (case stB => rfl); (case stC => rfl)))
  | ((with_reducible show Dl.dS _ _ _ (Stmt.Expr _ _) _ _ _ _); refine Dl.s_expr ?_)
  | ((with_reducible show Dl.dSs _ _ _ _ _ _ _ _); first | refine Dl.s_cons ?_ | refine Dl.s_nil ?_))
local macro_rules | `(tactic| walk_at "xd") => `(tactic| ((with_reducible show Dl.IxD _ _ _ _ _); first | (refine Dl.x_T (d := ?ixD) ?ixE ?_; (case ixE => rfl)) | (refine Dl.x_L (d := ?ixD) ?ixE ?_; (case ixE => rfl)) | (refine Dl.x_O (d := ?ixD) ?ixE ?_; (case ixE => rfl))))
local macro_rules | `(tactic| walk_at "ds") => `(tactic| (refine Dl.ex_dats (ds := ?dsW) ?dsA ?dsB ?_; (case dsA => rfl); (case dsB => rfl)))
local macro_rules | `(tactic| walk_at "dl") => `(tactic| first
  | walk_at "ds"
  | walk_at "ed"
  | walk_at "ad"
  | walk_at "td"
  | walk_at "od"
  | walk_at "cd"
  | walk_at "sd"
  | walk_at "xd"
  | ((with_reducible refine ⟨_, rfl, fun hc => ?_, fun hc => ?_⟩) <;> (first | contradiction | (exfalso; revert hc; simp [Dl.isTy, Dl.tyD]; done) | skip))
  | ((with_reducible refine ⟨fun hc => ?_, fun hc => ?_⟩) <;> (first | contradiction | (exfalso; revert hc; simp [Dl.isTy, Dl.tyD]; done) | skip))
  | (refine ⟨_, _, rfl, rfl, ?_⟩)
  | (refine ⟨rfl, ?_⟩)
  | (with_reducible refine ⟨_, rfl, ?_⟩)
  | (refine ⟨(_, _), rfl, ?_⟩)
  | (refine ⟨(_, _, _), rfl, ?_⟩)
  | (refine ⟨True.intro, fun _ hs => ?_, fun _ hx => False.elim hx⟩; replace hs : _ = Dl.Sl.dat _ := hs; subst hs)
  | (refine ⟨by assumption, fun _ hs => ?_, fun _ hx => False.elim hx⟩; replace hs : _ = Dl.Sl.dat _ := hs; subst hs)
  | fail)
/-! ### pairs of places -/
def pairsI (n : Nat) : List (Nat × Nat) := (List.range n).flatMap fun o => (List.range (n - o - 1)).map fun j => (o, o + 1 + j)
def pix (n o u : Nat) : Nat := (pairsI n).idxOf (o, u)
theorem pair_all : ∀ n ∈ List.range 7, ∀ u ∈ List.range n, ∀ o ∈ List.range u, ((o : Int) * n - (o : Int) * (o + 1) / 2 + u - o - 1 = (pix n o u : Nat)) ∧ (pairsI n)[pix n o u]? = some (o, u) ∧ pix n o u < (pairsI n).length := by decide
theorem pair_len : ∀ n ∈ List.range 7, (pairsI n).length = n * (n - 1) / 2 ∧ (pairsI n).length ≤ 15 := by decide
theorem pair_in : ∀ n ∈ List.range 7, ∀ p ∈ pairsI n, p.1 < p.2 ∧ p.2 < n := by decide
theorem pair_ix : ∀ n ∈ List.range 7, ∀ q ∈ List.range (pairsI n).length, ∀ p, (pairsI n)[q]? = some p → pix n p.1 p.2 = q := by
  intro n hn q hq p hp
  have key : ∀ n ∈ List.range 7, ∀ q ∈ List.range (pairsI n).length, ((pairsI n)[q]?.map fun p => pix n p.1 p.2) = some q := by decide
  have := key n hn q hq
  rw [hp] at this
  exact Option.some.inj this
theorem pair_ahead : ∀ n ∈ List.range 7, ∀ u ∈ List.range n, ∀ o ∈ List.range u, ∀ q ∈ List.range (pix n o u), ∀ p, (pairsI n)[q]? = some p → p.1 < o ∨ p.1 = o ∧ p.2 < u := by
  intro n hn u hu o ho q hq p hp
  have key : ∀ n ∈ List.range 7, ∀ u ∈ List.range n, ∀ o ∈ List.range u, ∀ q ∈ List.range (pix n o u), ((pairsI n)[q]?.all fun p => decide (p.1 < o ∨ p.1 = o ∧ p.2 < u)) = true := by decide
  have := key n hn u hu o ho q hq
  rw [hp] at this
  exact of_decide_eq_true this
structure WebOk (w : Web) : Prop where
  lo : 2 ≤ w.cols.length
  hi : w.cols.length ≤ 6
  pos : ∀ c ∈ w.cols, 0 ≤ c
  itm : ∀ x ∈ w.items, ItmOk x
  len : w.items.length = (pairsI w.cols.length).length
def itemAt (w : Web) (o u : Nat) : Itm := w.items.getD (pix w.cols.length o u) []
def colAt (w : Web) (i : Nat) : Int := w.cols.getD i 0
theorem WebOk.rng {w : Web} (h : WebOk w) : w.cols.length ∈ List.range 7 := by rw [List.mem_range]; have := h.hi; omega
theorem WebOk.at_ {w : Web} (h : WebOk w) {o u : Nat} (ou : o < u) (un : u < w.cols.length) : ((o : Int) * (w.cols.length : Nat) - (o : Int) * (o + 1) / 2 + u - o - 1 = (pix w.cols.length o u : Nat)) ∧ w.items[pix w.cols.length o u]? = some (itemAt w o u) ∧ ItmOk (itemAt w o u) := by
  obtain ⟨h1, h2, h3⟩ := pair_all _ h.rng u (List.mem_range.mpr un) o (List.mem_range.mpr ou)
  have hl : pix w.cols.length o u < w.items.length := by rw [h.len]; exact h3
  have e : w.items[pix w.cols.length o u]? = some (itemAt w o u) := by
    unfold itemAt
    rw [List.getD_eq_getElem?_getD, List.getElem?_eq_getElem hl]
    rfl
  exact ⟨h1, e, h.itm _ (List.mem_of_getElem? e)⟩
theorem WebOk.col {w : Web} (h : WebOk w) {i : Nat} (hi : i < w.cols.length) : w.cols[i]? = some (colAt w i) ∧ 0 ≤ colAt w i := by
  have e : w.cols[i]? = some (colAt w i) := by
    unfold colAt
    rw [List.getD_eq_getElem?_getD, List.getElem?_eq_getElem hi]
    rfl
  exact ⟨e, h.pos _ (List.mem_of_getElem? e)⟩
def pairSpec : Dl.Spec where
  α := Nat × Nat × Nat
  arg a := [.dat (.int (a.1 : Nat)), .dat (.int (a.2.1 : Nat)), .dat (.int (a.2.2 : Nat))]
  pre a := a.1 ≤ 10 ∧ a.2.1 ≤ 10
  post a s := s = .dat (.int ((a.2.1 : Int) * (a.1 : Nat) - (a.2.1 : Int) * ((a.2.1 : Int) + 1) / 2 + (a.2.2 : Nat) - (a.2.1 : Nat) - 1))
def itmSpec : Dl.Spec where
  α := Kd × Web × Nat × Nat
  arg a := [.dat (eKd a.1), .dat (eWb a.2.1), .dat (.int (a.2.2.1 : Nat)), .dat (.int (a.2.2.2 : Nat))]
  pre a := WebOk a.2.1 ∧ a.2.2.1 < a.2.2.2 ∧ a.2.2.2 < a.2.1.cols.length
  post a s := s = .dat (eI (itemAt a.2.1 a.2.2.1 a.2.2.2))
section
variable {G : Dl.Gd}
theorem ok_pair_at (T : Top G) : Dl.Fn G 1 "pair_at" pairSpec := by
  refine mk_pair_at T (fun _ => rfl) fun cdv M0 ⟨n, o, u⟩ hp => ?_
  obtain ⟨h1, h2⟩ := hp
  dsimp only at h1 h2
  repeat' walk_at "dl"
  · refine .inl ⟨?_, ?_⟩ <;> (show _ < _; dsimp only; omega)
  · refine .inl ⟨?_, ?_⟩ <;> (show _ < _; dsimp only; omega)
  · exact ⟨by decide, by decide +kernel⟩
  · exact rfl
theorem ok_plain_item (T : Top G) : Dl.Fn G 2 "plain_item" itmSpec := by
  have f1 := fr_len T
  have h1 := ok_pair_at T
  refine mk_plain_item T (fun _ => rfl) fun cdv M0 ⟨k, w, o, u⟩ hp => ?_
  obtain ⟨hw, ou, un⟩ := hp
  dsimp only at hw ou un
  obtain ⟨a1, a2, a3⟩ := hw.at_ ou un
  have h6 := hw.hi
  repeat' walk_at "dl"
  · refine ⟨⟨by show (w.cols.map PyData.int).length ≤ 10; rw [List.length_map]; omega, by show o ≤ 10; omega⟩, fun s hs => ?_, fun _ h => h.elim⟩
    replace hs : s = .dat (.int ((o : Int) * ((w.cols.map PyData.int).length : Nat) - (o : Int) * ((o : Int) + 1) / 2 + (u : Nat) - (o : Nat) - 1)) := hs
    rw [List.length_map, a1] at hs
    subst hs
    refine Dl.x_T (d := eI (itemAt w o u)) (Dl.atD (by rw [List.getElem?_map, a2]; rfl)) ⟨rfl, rfl⟩
  · rename_i hc
    exfalso
    have : ¬ (o : Int) < u := of_decide_eq_false hc
    omega
end
end K76
set_option Elab.async false
set_option linter.all false
set_option maxRecDepth 100000
set_option maxHeartbeats 4000000
set_option autoImplicit false
namespace K76
open PySem PySem.Spec PyProof.Rows L2
local macro_rules | `(tactic| walk_at "nm") => `(tactic| (refine Dl.d_nm (s := ?nmS) ?nmA ?nmB ?_; (case nmA => rfl); (case nmB => rfl)))
local macro_rules | `(tactic| walk_at "fr") => `(tactic| first | assumption)
local macro_rules | `(tactic| walk_at "name") => `(tactic| first
  | walk_at "nm"
  | ((with_reducible show Dl.dE _ _ (Expr.Name "int" _) _ _ _); refine Dl.d_t_int ?frA ?frB ?_; (case frA => walk_at "fr"); (case frB => rfl))
  | ((with_reducible show Dl.dE _ _ (Expr.Name "tuple" _) _ _ _); refine Dl.d_t_tuple ?frA ?frB ?_; (case frA => walk_at "fr"); (case frB => rfl))
  | ((with_reducible show Dl.dE _ _ (Expr.Name "list" _) _ _ _); refine Dl.d_t_list ?frA ?frB ?_; (case frA => walk_at "fr"); (case frB => rfl))
  | ((with_reducible show Dl.dE _ _ (Expr.Name "str" _) _ _ _); refine Dl.d_t_str ?frA ?frB ?_; (case frA => walk_at "fr"); (case frB => rfl))
  | ((with_reducible show Dl.dE _ _ (Expr.Name "bool" _) _ _ _); refine Dl.d_t_bool ?frA ?frB ?_; (case frA => walk_at "fr"); (case frB => rfl))
  | ((with_reducible show Dl.dE _ _ (Expr.Name "set" _) _ _ _); refine Dl.d_t_set ?frA ?frB ?_; (case frA => walk_at "fr"); (case frB => rfl))
  | walk_at "glob")
local macro_rules | `(tactic| walk_at "glob") => `(tactic| first
  | (refine Dl.d_globInt (i := ?gI) ?gA ?gB ?_; (case gA => rfl); (case gB => assumption))
  | (refine Dl.d_globStr (i := ?gI) ?gA ?gB ?_; (case gA => rfl); (case gB => assumption)))
local macro_rules | `(tactic| walk_at "call") => `(tactic| first
  | ((with_reducible show Dl.dE _ _ (Expr.Call (Expr.Name "isinstance" _) _ _ _) _ _ _); refine Dl.d_b_isinstance ?frA ?frB ?_; (case frA => walk_at "fr"); (case frB => rfl))
  | ((with_reducible show Dl.dE _ _ (Expr.Call (Expr.Name "len" _) _ _ _) _ _ _); refine Dl.d_b_len ?frA ?frB ?_; (case frA => walk_at "fr"); (case frB => rfl))
  | ((with_reducible show Dl.dE _ _ (Expr.Call (Expr.Name "all" _) _ _ _) _ _ _); refine Dl.d_b_all ?frA ?frB ?_; (case frA => walk_at "fr"); (case frB => rfl))
  | ((with_reducible show Dl.dE _ _ (Expr.Call (Expr.Name "any" _) _ _ _) _ _ _); refine Dl.d_b_any ?frA ?frB ?_; (case frA => walk_at "fr"); (case frB => rfl))
  | ((with_reducible show Dl.dE _ _ (Expr.Call (Expr.Name "abs" _) _ _ _) _ _ _); refine Dl.d_b_abs ?frA ?frB ?_; (case frA => walk_at "fr"); (case frB => rfl))
  | ((with_reducible show Dl.dE _ _ (Expr.Call (Expr.Name "sum" _) _ _ _) _ _ _); refine Dl.d_b_sum ?frA ?frB ?_; (case frA => walk_at "fr"); (case frB => rfl))
  | ((with_reducible show Dl.dE _ _ (Expr.Call (Expr.Name "min" _) _ _ _) _ _ _); refine Dl.d_b_min ?frA ?frB ?_; (case frA => walk_at "fr"); (case frB => rfl))
  | ((with_reducible show Dl.dE _ _ (Expr.Call (Expr.Name "max" _) _ _ _) _ _ _); refine Dl.d_b_max ?frA ?frB ?_; (case frA => walk_at "fr"); (case frB => rfl))
  | ((with_reducible show Dl.dE _ _ (Expr.Call (Expr.Name "sorted" _) _ _ _) _ _ _); refine Dl.d_b_sorted ?frA ?frB ?_; (case frA => walk_at "fr"); (case frB => rfl))
  | ((with_reducible show Dl.dE _ _ (Expr.Call (Expr.Name "int" _) _ _ _) _ _ _); refine Dl.d_c_int ?frA ?frB ?_; (case frA => walk_at "fr"); (case frB => rfl))
  | ((with_reducible show Dl.dE _ _ (Expr.Call (Expr.Name "tuple" _) _ _ _) _ _ _); refine Dl.d_c_tuple ?frA ?frB ?_; (case frA => walk_at "fr"); (case frB => rfl))
  | ((with_reducible show Dl.dE _ _ (Expr.Call (Expr.Name "list" _) _ _ _) _ _ _); refine Dl.d_c_list ?frA ?frB ?_; (case frA => walk_at "fr"); (case frB => rfl))
  | ((with_reducible show Dl.dE _ _ (Expr.Call (Expr.Name "str" _) _ _ _) _ _ _); refine Dl.d_c_str ?frA ?frB ?_; (case frA => walk_at "fr"); (case frB => rfl))
  | ((with_reducible show Dl.dE _ _ (Expr.Call (Expr.Name "bool" _) _ _ _) _ _ _); refine Dl.d_c_bool ?frA ?frB ?_; (case frA => walk_at "fr"); (case frB => rfl))
  | ((with_reducible show Dl.dE _ _ (Expr.Call (Expr.Name "set" _) _ _ _) _ _ _); refine Dl.d_c_set ?frA ?frB ?_; (case frA => walk_at "fr"); (case frB => rfl))
  | (refine Dl.d_fn (j := ?fnJ) (S := ?fnS) ?fnA ?fnB ?fnC ?_; (case fnA => assumption); (case fnB => exact Nat.le_of_ble_eq_true rfl); (case fnC => rfl)))
local macro_rules | `(tactic| walk_at "ed") => `(tactic| ((with_reducible show Dl.dE _ _ _ _ _ _); first
  | ((with_reducible show Dl.dE _ _ (Expr.Name _ _) _ _ _); walk_at "name")
  | ((with_reducible show Dl.dE _ _ (Expr.Constant (Const.int _) _ _) _ _ _); refine Dl.d_int ?_)
  | ((with_reducible show Dl.dE _ _ (Expr.Constant (Const.str _) _ _) _ _ _); refine Dl.d_str ?_)
  | ((with_reducible show Dl.dE _ _ (Expr.Constant (Const.bool _) _ _) _ _ _); refine Dl.d_bool ?_)
  | ((with_reducible show Dl.dE _ _ (Expr.Constant Const.none _ _) _ _ _); refine Dl.d_none ?_)
  | ((with_reducible show Dl.dE _ _ (Expr.Call (Expr.Name _ _) [_, Expr.Tuple [Expr.Name _ _, Expr.Name _ _] _ _] _ _) _ _ _); (refine Dl.d_isi2 ?frA ?frB ?frC ?frD ?frE ?frF ?_; (case frA => walk_at "fr"); (case frB => walk_at "fr"); (case frC => walk_at "fr"); (case frD => rfl); (case frE => rfl); (case frF => rfl)))
  | ((with_reducible show Dl.dE _ _ (Expr.Call (Expr.Name _ _) _ _ _) _ _ _); walk_at "call")
  | ((with_reducible show Dl.dE _ _ (Expr.BoolOp _ [_] _) _ _ _); refine Dl.d_one ?_)
  | ((with_reducible show Dl.dE _ _ (Expr.BoolOp BoolOp.And _ _) _ _ _); refine Dl.d_and ?_)
  | ((with_reducible show Dl.dE _ _ (Expr.BoolOp BoolOp.Or _ _) _ _ _); refine Dl.d_or ?_)
  | ((with_reducible show Dl.dE _ _ (Expr.UnaryOp UnaryOp.Not _ _) _ _ _); refine Dl.d_not ?_)
  | ((with_reducible show Dl.dE _ _ (Expr.UnaryOp UnaryOp.USub _ _) _ _ _); refine Dl.d_neg ?_)
  | ((with_reducible show Dl.dE _ _ (Expr.BinOp _ _ _ _) _ _ _); refine Dl.d_bin ?_)
  | ((with_reducible show Dl.dE _ _ (Expr.Compare _ [_] _ _) _ _ _); refine Dl.d_cmp ?_)
  | ((with_reducible show Dl.dE _ _ (Expr.Compare _ [_, _] _ _) _ _ _); refine Dl.d_chain ?_)
  | ((with_reducible show Dl.dE _ _ (Expr.IfExp _ _ _ _) _ _ _); refine Dl.d_if ?_)
  | ((with_reducible show Dl.dE _ _ (Expr.Tuple _ _ _) _ _ _); refine Dl.d_tup ?_)
  | ((with_reducible show Dl.dE _ _ (Expr.List _ _) _ _ _); refine Dl.d_lst ?_)
  | ((with_reducible show Dl.dE _ _ (Expr.Subscript _ (Expr.Slice _ _ _ _) _) _ _ _); refine Dl.d_slice ?_)
  | ((with_reducible show Dl.dE _ _ (Expr.Subscript _ _ _) _ _ _); refine Dl.d_ix ?_)))
local macro_rules | `(tactic| walk_at "ad") => `(tactic| ((with_reducible show Dl.dA _ _ _ _ _ _); first | refine Dl.a_nil ?_ | refine Dl.a_cons ?_))
local macro_rules | `(tactic| walk_at "td") => `(tactic| first
  | ((with_reducible show Dl.dT _ _ (Expr.UnaryOp UnaryOp.Not _ _) _ _ _); refine Dl.t_not ?_)
  | ((with_reducible show Dl.dT _ _ (Expr.BoolOp _ _ _) _ _ _); refine Dl.t_bool ?_)
  | ((with_reducible show Dl.dT _ _ (Expr.Compare _ [_] _ _) _ _ _); refine Dl.t_cmp ?_)
  | ((with_reducible show Dl.dT _ _ (Expr.Compare _ [_, _] _ _) _ _ _); refine Dl.t_chain ?_)
  | ((with_reducible show Dl.dT _ _ (_) _ _ _); refine Dl.t_val ?_)
  | ((with_reducible show Dl.dW _ _ (Expr.BoolOp BoolOp.And [_] _) _ _ _); refine Dl.w_and1 ?_)
  | ((with_reducible show Dl.dW _ _ (Expr.BoolOp BoolOp.Or [_] _) _ _ _); refine Dl.w_or1 ?_)
  | ((with_reducible show Dl.dW _ _ (Expr.BoolOp BoolOp.And _ _) _ _ _); refine Dl.w_and ?_)
  | ((with_reducible show Dl.dW _ _ (Expr.BoolOp BoolOp.Or _ _) _ _ _); refine Dl.w_or ?_))
local macro_rules | `(tactic| walk_at "od") => `(tactic| ((with_reducible show Dl.OpD _ _ _ _ _ _); first
  | refine Dl.o_add ?_ | refine Dl.o_sub ?_ | refine Dl.o_lt ?_ | refine Dl.o_le ?_ | refine Dl.o_gt ?_ | refine Dl.o_ge ?_ | refine Dl.o_eq ?_ | refine Dl.o_ne ?_ | refine Dl.o_eqS ?_ | refine Dl.o_mul ?_ ?_ | refine Dl.o_mod ?_ ?_ | refine Dl.o_fdivW ?_ ?_ | refine Dl.o_inS ?_ | refine Dl.o_notInS ?_
  | refine Dl.o_isN ?_ | refine Dl.o_notN ?_))
local macro_rules | `(tactic| walk_at "cd") => `(tactic| ((with_reducible show Dl.CallD _ _ _ _ _); first
  | refine Dl.c_lenT ?_ | refine Dl.c_lenL ?_ | refine Dl.c_lenO ?_ | refine Dl.c_abs ?_ | refine Dl.c_int ?_ | refine Dl.c_lenS ?_ ?_ | refine Dl.c_allT ?_
  | refine Dl.c_isInt ?_ | refine Dl.c_isBool ?_ | refine Dl.c_isStr ?_ | refine Dl.c_isTuple ?_ | refine Dl.c_isList ?_
  | refine Dl.c_allF ?_ | refine Dl.c_tupL ?_ | refine Dl.c_tupT ?_))
local macro_rules | `(tactic| walk_at "sd") => `(tactic| first
  | ((with_reducible show Dl.dS _ _ _ (Stmt.Return (some _) _) _ _ _ _); refine Dl.s_ret ?_)
  | ((with_reducible show Dl.dS _ _ _ (Stmt.Assign [Expr.Tuple [Expr.Name _ _, Expr.Name _ _] _ _] (Expr.Tuple [_, _] _ _) _) _ _ _ _); (refine Dl.s_pr (i := ?stI) (j := ?stJ) ?stA ?stB ?stC ?stD ?stE ?_; (case stA => rfl); (case stB => rfl); (case stC => rfl); (case stD => rfl); (case stE => rfl)))
  | ((with_reducible show Dl.dS _ _ _ (Stmt.If _ _ _ _) _ _ _ _); refine Dl.s_if ?_)
  | ((with_reducible show Dl.dS _ _ _ (Stmt.Assign [Expr.Name _ _] _ _) _ _ _ _); (refine Dl.s_st (i := ?stI) ?stA ?stB ?stC ?_; (case stA => rfl); (case stB => rfl); (case stC => rfl)))
  | ((with_reducible show Dl.dS _ _ _ (Stmt.Expr _ _) _ _ _ _); refine Dl.s_expr ?_)
  | ((with_reducible show Dl.dSs _ _ _ _ _ _ _ _); first | refine Dl.s_cons ?_ | refine Dl.s_nil ?_))
local macro_rules | `(tactic| walk_at "xd") => `(tactic| ((with_reducible show Dl.IxD _ _ _ _ _); first | (refine Dl.x_T (d := ?ixD) ?ixE ?_; (case ixE => rfl)) | (refine Dl.x_L (d := ?ixD) ?ixE ?_; (case ixE => rfl)) | (refine Dl.x_O (d := ?ixD) ?ixE ?_; (case ixE => rfl))))
local macro_rules | `(tactic| walk_at "ds") => `(tactic| (refine Dl.ex_dats (ds := ?dsW) ?dsA ?dsB ?_; (case dsA => rfl); (case dsB => rfl)))
local macro_rules | `(tactic| walk_at "dl") => `(tactic| first
  | walk_at "ds"
  | walk_at "ed"
  | walk_at "ad"
  | walk_at "td"
  | walk_at "od"
  | walk_at "cd"
  | walk_at "sd"
  | walk_at "xd"
  | ((with_reducible refine ⟨_, rfl, fun hc => ?_, fun hc => ?_⟩) <;> (first | contradiction | (exfalso; revert hc; simp [Dl.isTy, Dl.tyD]; done) | skip))
  | ((with_reducible refine ⟨fun hc => ?_, fun hc => ?_⟩) <;> (first | contradiction | (exfalso; revert hc; simp [Dl.isTy, Dl.tyD]; done) | skip))
  | (refine ⟨_, _, rfl, rfl, ?_⟩)
  | (refine ⟨rfl, ?_⟩)
  | (with_reducible refine ⟨_, rfl, ?_⟩)
  | (refine ⟨(_, _), rfl, ?_⟩)
  | (refine ⟨(_, _, _), rfl, ?_⟩)
  | (refine ⟨True.intro, fun _ hs => ?_, fun _ hx => False.elim hx⟩; replace hs : _ = Dl.Sl.dat _ := hs; subst hs)
  | (refine ⟨by assumption, fun _ hs => ?_, fun _ hx => False.elim hx⟩; replace hs : _ = Dl.Sl.dat _ := hs; subst hs)
  | fail)
/-! ### a web is checked -/
def placeF (k : Kd) (w : Web) (i : Nat) : Option (PyData × Str) := if (k.cols.length : Int) ≤ colAt w i then some (.tuple [.str "place", .int (i : Nat)], ("colour" : Str)) else none
def pairF (k : Kd) (w : Web) (p : Nat × Nat) : Option (PyData × Str) := if itemAt w p.1 p.2 ∈ letL k (colAt w p.1).toNat (colAt w p.2).toNat then none else some (.tuple [.str "pair", .int (p.1 : Nat), .int (p.2 : Nat)], ("item" : Str))
def webFault (k : Kd) (w : Web) : Option (PyData × Str) := match (List.range w.cols.length).findSome? (placeF k w) with
  | some r => some r
  | none => (pairsI w.cols.length).findSome? (pairF k w)
def cwBadSpec : Dl.Spec where
  α := Kd × PyData
  arg a := [.dat (eKd a.1), .dat a.2]
  pre a := KindOk a.1 ∧ kindFault a.1 = none ∧ WebP a.2 false
  post _ _ := False
  exn _ x := x = ⟨"Nothing", []⟩
def cwSpec : Dl.Spec where
  α := Kd × Web
  arg a := [.dat (eKd a.1), .dat (eWb a.2)]
  pre a := KindOk a.1 ∧ kindFault a.1 = none ∧ WebOk a.2
  post a s := webFault a.1 a.2 = none ∧ s = .dat (eWb a.2)
  exn a x := ∃ wh f, webFault a.1 a.2 = some (wh, f) ∧ x = faultX "BadWeb" wh f
theorem WebOk.webP {w : Web} (h : WebOk w) : WebP (eWb w) true := by
  have a := WebP.good w.cols w.items (Nat.le_trans h.hi (by decide)) h.pos h.itm
  have l := h.len
  rw [(pair_len _ h.rng).1] at l
  have e : (!w.cols.isEmpty && decide ((w.items.length : Int) = w.cols.length * ((w.cols.length : Int) - 1) / 2)) = true := by
    rw [Bool.and_eq_true]
    refine ⟨?_, decide_eq_true ?_⟩
    · cases e : w.cols with
      | nil => have := h.lo; rw [e] at this; simp at this
      | cons _ _ => rfl
    · rw [l]
      have h1 := h.lo
      have h2 := h.hi
      generalize w.cols.length = n at h1 h2
      have : n = 2 ∨ n = 3 ∨ n = 4 ∨ n = 5 ∨ n = 6 := by omega
      rcases this with e | e | e | e | e <;> subst e <;> rfl
  rw [e] at a
  exact a
theorem any_itm (l : List Itm) (x : Itm) : ((l.map eI).any fun z => PyData.eqv z (eI x)) = l.contains x := by
  rw [Bool.eq_iff_iff, List.any_eq_true, List.contains_iff_mem]
  constructor
  · rintro ⟨z, hz, e⟩
    obtain ⟨y, hy, rfl⟩ := List.mem_map.mp hz
    rw [eqv_itm] at e
    rw [← eq_of_beq e]
    exact hy
  · intro h
    exact ⟨eI x, List.mem_map.mpr ⟨x, h, rfl⟩, by rw [eqv_itm]; exact beq_self_eq_true x⟩
section
variable {G : Dl.Gd}
theorem ok_checked_webB (T : Top G) (X : Ext G) : Dl.Fn G 13 "checked_web" cwBadSpec := by
  have h1 := ok_checked_kind T X
  have h2 := ok_is_web T X
  refine mk_checked_web T (fun _ => rfl) fun cdv M0 ⟨k, d⟩ hp => ?_
  obtain ⟨hk, hn, hw⟩ := hp
  dsimp only at hk hn hw
  repeat' walk_at "dl"
  refine ⟨hk, fun s hs => ?_, fun x hx => ?_⟩
  rotate_left
  · obtain ⟨wh, f, e, _⟩ := hx
    rw [hn] at e
    cases e
  repeat' walk_at "dl"
  refine ⟨(d, false), rfl, hw, fun s hs => ?_, fun _ h => h.elim⟩
  replace hs : s = .dat (.bool false) := hs
  subst hs
  repeat' walk_at "dl"
  exact Dl.s_raise0 X.ex0 rfl rfl
theorem ok_checked_web (T : Top G) (X : Ext G) : Dl.Fn G 13 "checked_web" cwSpec := by
  have f1 := fr_len T
  have f2 := fr_enumerate T
  have f3 := fr_range T
  have i1 := in_MOST_PLACES T
  have h1 := ok_checked_kind T X
  have h2 := ok_is_web T X
  have h3 := ok_plain_menu T
  have h4 := ok_plain_item T
  refine mk_checked_web T (fun _ => rfl) fun cdv M0 ⟨k, w⟩ hp => ?_
  obtain ⟨hk, hn, hw⟩ := hp
  dsimp only at hk hn hw
  repeat' walk_at "dl"
  refine ⟨hk, fun s hs => ?_, fun x hx => ?_⟩
  rotate_left
  · obtain ⟨wh, f, e, _⟩ := hx
    rw [hn] at e
    cases e
  repeat' walk_at "dl"
  refine ⟨(eWb w, true), rfl, hw.webP, fun s hs => ?_, fun _ h => h.elim⟩
  replace hs : s = .dat (.bool true) := hs
  subst hs
  have w2 := hw.lo
  have w6 := hw.hi
  repeat' walk_at "dl"
  · rename_i hc
    exfalso
    have : (60 : Int) < ((w.cols.map PyData.int).length : Nat) := of_decide_eq_true hc
    rw [List.length_map] at this
    omega
  refine Dl.s_forT ((List.range w.cols.length).zip w.cols) (fun q => .tuple [.int (q.1 : Nat), .int q.2]) [2, 3] (fun i M Γ => M = M0 ∧ (∃ g2 g3, Γ = [some (.dat (eKd k)), some (.dat (eWb w)), g2, g3, none, none, none, none, none]) ∧ ∀ j, j < i → placeF k w j = none) ?_
  refine Dl.i_enumT rfl f2 ?_
  repeat' walk_at "dl"
  refine ⟨?_, ⟨rfl, ⟨none, none, rfl⟩, fun j hj => by omega⟩, fun i q M Γ hx hI => ?_, fun M Γ hI => ?_⟩
  · rw [List.length_map, Dl.rngT, Dl.pairsT]
    refine List.map_congr_left fun q _ => ?_
    simp
  · obtain ⟨rfl, ⟨g2, g3, rfl⟩, hA⟩ := hI
    obtain ⟨hx1, hx2⟩ : q.1 = i ∧ w.cols[i]? = some q.2 := by
      rw [List.getElem?_zip_eq_some] at hx
      obtain ⟨a1, a2⟩ := hx
      refine ⟨?_, a2⟩
      rw [List.getElem?_range (by exact (List.getElem?_eq_some_iff.mp a2).1)] at a1
      cases a1
      rfl
    obtain ⟨q1, c⟩ := q
    dsimp only at hx1 hx2
    subst hx1
    have hi : q1 < w.cols.length := (List.getElem?_eq_some_iff.mp hx2).1
    have hc0 : colAt w q1 = c := by
      have := (hw.col hi).1
      rw [hx2] at this
      exact (Option.some.inj this).symm
    refine Dl.g_tup (ds := [.int (q1 : Nat), .int c]) (is := [2, 3]) rfl (Dl.gs_cons (is := [2]) (js := [3]) (Dl.g_nm (i := 2) rfl rfl (Dl.gs_cons (is := [3]) (js := []) (Dl.g_nm (i := 3) rfl rfl (Dl.gs_nil ?_)))))
    repeat' walk_at "dl"
    · rename_i hc
      have hc : (k.cols.length : Int) ≤ c := by
        have := of_decide_eq_true hc
        rw [List.length_map] at this
        exact this
      refine Dl.s_raise2 X.tellW.fl rfl ?_
      repeat' walk_at "dl"
      refine ⟨.tuple [.str "place", .int (q1 : Nat)], ("colour" : Str), ?_, rfl⟩
      unfold webFault
      rw [findS_at (f := placeF k w) (i := q1) (x := q1) (r := (.tuple [.str "place", .int (q1 : Nat)], ("colour" : Str))) (by rw [List.getElem?_range hi]) (fun j y hj hy => ?_) (by unfold placeF; rw [hc0, if_pos hc])]
      have hjn : j < w.cols.length := by omega
      rw [List.getElem?_range hjn] at hy
      cases hy
      exact hA j hj
    · rename_i hc
      have hc : ¬ (k.cols.length : Int) ≤ c := by
        have := of_decide_eq_false hc
        rw [List.length_map] at this
        exact this
      refine ⟨⟨_, _, rfl⟩, fun j hj => ?_⟩
      by_cases q : j = q1
      · rw [q]
        unfold placeF
        rw [hc0, if_neg hc]
      · exact hA j (by omega)
  · obtain ⟨rfl, ⟨g2, g3, rfl⟩, hA⟩ := hI
    have hlen : ((List.range w.cols.length).zip w.cols).length = w.cols.length := by rw [List.length_zip, List.length_range, Nat.min_self]
    have hA' : ∀ j, j < w.cols.length → placeF k w j = none := fun j hj => hA j (by rw [hlen]; exact hj)
    have hcol : ∀ j, j < w.cols.length → colAt w j < (k.cols.length : Nat) := fun j hj => by
      have := hA' j hj
      unfold placeF at this
      split at this
      · cases this
      · omega
    have hP : (List.range w.cols.length).findSome? (placeF k w) = none := findS_none fun j q hq => by
      have hjn : j < w.cols.length := by
        have := (List.getElem?_eq_some_iff.mp hq).1
        rwa [List.length_range] at this
      rw [List.getElem?_range hjn] at hq
      cases hq
      exact hA' j hjn
    have hF : webFault k w = (pairsI w.cols.length).findSome? (pairF k w) := by
      unfold webFault
      rw [hP]
    repeat' walk_at "dl"
    refine Dl.s_forT (List.range w.cols.length) (fun i : Nat => .int (i : Nat)) [4] (fun i M' Γ => M' = M ∧ (∃ g2 g3 g4 g5 g6, Γ = [some (.dat (eKd k)), some (.dat (eWb w)), g2, g3, g4, g5, g6, none, none]) ∧ ∀ o u, o < i → o < u → u < w.cols.length → pairF k w (o, u) = none) ?_
    refine Dl.i_rng1 rfl f3 ?_
    repeat' walk_at "dl"
    refine ⟨by omega, by rw [List.length_map]; omega, by rw [List.length_map, Int.toNat_natCast]; exact List.map_congr_left fun q _ => by simp, ⟨rfl, ⟨_, _, _, _, _, rfl⟩, fun o u h => by omega⟩, fun o x M' Γ hx hI => ?_, fun M' Γ hI => ?_⟩
    · obtain ⟨rfl, ⟨g2, g3, g4, g5, g6, rfl⟩, hB⟩ := hI
      have ho : o < w.cols.length := by
        have := (List.getElem?_eq_some_iff.mp hx).1
        rwa [List.length_range] at this
      rw [List.getElem?_range ho] at hx
      cases hx
      refine Dl.g_nm (i := 4) rfl rfl ?_
      repeat' walk_at "dl"
      refine Dl.s_forT (List.range (w.cols.length - (o + 1))) (fun j : Nat => .int ((o + 1 + j : Nat) : Int)) [5] (fun i M2 Γ => M2 = M' ∧ (∃ g5 g6, Γ = [some (.dat (eKd k)), some (.dat (eWb w)), g2, g3, some (.dat (.int (o : Nat))), g5, g6, none, none]) ∧ ∀ u, o < u → u < o + 1 + i → pairF k w (o, u) = none) ?_
      refine Dl.i_rng2 rfl f3 ?_
      repeat' walk_at "dl"
      refine ⟨⟨by omega, by omega, by omega, by rw [List.length_map]; omega⟩, ?_, ⟨rfl, ⟨_, _, rfl⟩, fun u h1 h2 => by omega⟩, fun j x M2 Γ hx hI => ?_, fun M2 Γ hI => ?_⟩
      · rw [List.length_map, show ((w.cols.length : Nat) - ((o : Nat) + 1 : Int)).toNat = w.cols.length - (o + 1) from by omega]
        exact List.map_congr_left fun q _ => by simp
      · obtain ⟨rfl, ⟨g5, g6, rfl⟩, hC⟩ := hI
        have hj : j < w.cols.length - (o + 1) := by
          have := (List.getElem?_eq_some_iff.mp hx).1
          rwa [List.length_range] at this
        rw [List.getElem?_range hj] at hx
        cases hx
        have hu : o + 1 + j < w.cols.length := by omega
        obtain ⟨c1, c2⟩ := hw.col ho
        obtain ⟨d1, d2⟩ := hw.col hu
        have c3 := hcol _ ho
        have d3 := hcol _ hu
        generalize hue : o + 1 + j = u at hu d1 d2 d3
        have ou : o < u := by omega
        obtain ⟨e1, e2, e3⟩ := hw.at_ ou hu
        refine Dl.g_nm (i := 5) rfl rfl ?_
        repeat' walk_at "dl"
        refine Dl.x_T (d := .int ((colAt w o).toNat : Nat)) (Dl.atD (by rw [List.getElem?_map, c1, Int.toNat_of_nonneg c2]; rfl)) ?_
        repeat' walk_at "dl"
        refine Dl.x_T (d := .int ((colAt w u).toNat : Nat)) (Dl.atD (by rw [List.getElem?_map, d1, Int.toNat_of_nonneg d2]; rfl)) ?_
        repeat' walk_at "dl"
        refine ⟨⟨hk, by show (colAt w o).toNat < k.cols.length; omega, by show (colAt w u).toNat < k.cols.length; omega⟩, fun s hs => ?_, fun _ h => h.elim⟩
        obtain ⟨m, pm, m64, rfl⟩ := hs
        refine ⟨rfl, ?_⟩
        repeat' walk_at "dl"
        refine ⟨(k, w, o, u), rfl, ⟨hw, ou, hu⟩, fun s hs => ?_, fun _ h => h.elim⟩
        replace hs : s = .dat (eI (itemAt w o u)) := hs
        subst hs
        refine Dl.d_ofLc (Dl.l_T (QL := fun zs => zs = (m.map (·.1)).map eI) eRow (fun r : Row => eI r.1) (own := [("item", 7), ("share", 8)]) (is := [7, 8]) (by kernel_rfl) (by decide) ?_) (fun zs hz => ?_)
        · refine Dl.i_tupL ?_
          repeat' walk_at "dl"
          refine fun hl => ⟨m, rfl, hl, fun D r hr => ?_, by rw [List.map_map]; rfl⟩
          obtain ⟨x, sh⟩ := r
          refine Dl.g_tup (ds := [eI x, eSh sh]) (is := [7, 8]) rfl (Dl.gs_cons (is := [7]) (js := [8]) (Dl.g_nm (i := 7) rfl rfl (Dl.gs_cons (is := [8]) (js := []) (Dl.g_nm (i := 8) rfl rfl (Dl.gs_nil ?_)))))
          repeat' walk_at "dl"
          rfl
        subst hz
        refine Dl.o_notInL (sh_itm _).sh (Dl.shN_lst (n := 1) fun d hd => by obtain ⟨y, _, rfl⟩ := List.mem_map.mp hd; exact sh_itm y).sh ?_
        rw [any_itm]
        have hmem : (m.map (·.1)).contains (itemAt w o u) = decide (itemAt w o u ∈ letL k (colAt w o).toNat (colAt w u).toNat) := by
          rw [Bool.eq_iff_iff, List.contains_iff_mem, decide_eq_true_iff]
          exact pm.mem_iff
        rw [hmem]
        have hpf : ∀ b, decide (itemAt w o u ∈ letL k (colAt w o).toNat (colAt w u).toNat) = b → pairF k w (o, u) = if b then none else some (.tuple [.str "pair", .int (o : Nat), .int (u : Nat)], ("item" : Str)) := fun b e => by
          unfold pairF
          dsimp only
          cases b with
          | true => rw [if_pos (of_decide_eq_true e)]; rfl
          | false => rw [if_neg (of_decide_eq_false e)]; rfl
        refine ⟨_, rfl, fun hc => ?_, fun hc => ?_⟩
        · have hp := hpf false (by simpa using hc)
          refine Dl.s_cons (Dl.s_raise2 X.tellW.fl rfl ?_)
          repeat' walk_at "dl"
          refine ⟨.tuple [.str "pair", .int (o : Nat), .int (u : Nat)], ("item" : Str), ?_, rfl⟩
          show webFault k w = _
          rw [hF]
          obtain ⟨p1, p2, p3⟩ := pair_all _ hw.rng u (List.mem_range.mpr hu) o (List.mem_range.mpr ou)
          refine findS_at p2 (fun q y hq hy => ?_) hp
          have ha := pair_ahead _ hw.rng u (List.mem_range.mpr hu) o (List.mem_range.mpr ou) q (List.mem_range.mpr hq) y hy
          have hin := pair_in _ hw.rng y (List.mem_of_getElem? hy)
          rcases ha with ha | ⟨ha, hb⟩
          · exact hB y.1 y.2 ha hin.1 hin.2
          · obtain ⟨y1, y2⟩ := y
            dsimp only at ha hb hin
            subst ha
            exact hC y2 hin.1 (by omega)
        · have hp := hpf true (by simpa using hc)
          repeat' walk_at "dl"
          refine ⟨⟨_, _, rfl⟩, fun v h1 h2 => ?_⟩
          by_cases e : v = u
          · rw [e]; exact hp
          · exact hC v h1 (by omega)
      · obtain ⟨rfl, ⟨g5, g6, rfl⟩, hC⟩ := hI
        rw [List.length_range] at hC
        repeat' walk_at "dl"
        refine ⟨⟨_, _, _, _, _, rfl⟩, fun o' v h1 h2 h3 => ?_⟩
        by_cases e : o' = o
        · subst e
          exact hC v h2 (by omega)
        · exact hB o' v (by omega) h2 h3
    · obtain ⟨rfl, ⟨g2, g3, g4, g5, g6, rfl⟩, hB⟩ := hI
      repeat' walk_at "dl"
      rw [List.length_range] at hB
      refine ⟨?_, rfl⟩
      show webFault k w = none
      rw [hF]
      refine findS_none fun j q hq => ?_
      have hin := pair_in _ hw.rng q (List.mem_of_getElem? hq)
      exact hB q.1 q.2 (by omega) hin.1 hin.2
end
end K76
set_option Elab.async false
set_option linter.all false
set_option maxRecDepth 100000
set_option maxHeartbeats 4000000
set_option autoImplicit false
namespace K76
open PySem PySem.Spec PyProof.Rows L2
local macro_rules | `(tactic| walk_at "nm") => `(tactic| (refine Dl.d_nm (s := ?nmS) ?nmA ?nmB ?_; (case nmA => rfl); (case nmB => rfl)))
local macro_rules | `(tactic| walk_at "fr") => `(tactic| first | assumption)
local macro_rules | `(tactic| walk_at "name") => `(tactic| first
  | walk_at "nm"
  | ((with_reducible show Dl.dE _ _ (Expr.Name "int" _) _ _ _); refine Dl.d_t_int ?frA ?frB ?_; (case frA => walk_at "fr"); (case frB => rfl))
  | ((with_reducible show Dl.dE _ _ (Expr.Name "tuple" _) _ _ _); refine Dl.d_t_tuple ?frA ?frB ?_; (case frA => walk_at "fr"); (case frB => rfl))
  | ((with_reducible show Dl.dE _ _ (Expr.Name "list" _) _ _ _); refine Dl.d_t_list ?frA ?frB ?_; (case frA => walk_at "fr"); (case frB => rfl))
  | ((with_reducible show Dl.dE _ _ (Expr.Name "str" _) _ _ _); refine Dl.d_t_str ?frA ?frB ?_; (case frA => walk_at "fr"); (case frB => rfl))
  | ((with_reducible show Dl.dE _ _ (Expr.Name "bool" _) _ _ _); refine Dl.d_t_bool ?frA ?frB ?_; (case frA => walk_at "fr"); (case frB => rfl))
  | ((with_reducible show Dl.dE _ _ (Expr.Name "set" _) _ _ _); refine Dl.d_t_set ?frA ?frB ?_; (case frA => walk_at "fr"); (case frB => rfl))
  | walk_at "glob")
local macro_rules | `(tactic| walk_at "glob") => `(tactic| first
  | (refine Dl.d_globInt (i := ?gI) ?gA ?gB ?_; (case gA => rfl); (case gB => assumption))
  | (refine Dl.d_globStr (i := ?gI) ?gA ?gB ?_; (case gA => rfl); (case gB => assumption)))
local macro_rules | `(tactic| walk_at "call") => `(tactic| first
  | ((with_reducible show Dl.dE _ _ (Expr.Call (Expr.Name "isinstance" _) _ _ _) _ _ _); refine Dl.d_b_isinstance ?frA ?frB ?_; (case frA => walk_at "fr"); (case frB => rfl))
  | ((with_reducible show Dl.dE _ _ (Expr.Call (Expr.Name "len" _) _ _ _) _ _ _); refine Dl.d_b_len ?frA ?frB ?_; (case frA => walk_at "fr"); (case frB => rfl))
  | ((with_reducible show Dl.dE _ _ (Expr.Call (Expr.Name "all" _) _ _ _) _ _ _); refine Dl.d_b_all ?frA ?frB ?_; (case frA => walk_at "fr"); (case frB => rfl))
  | ((with_reducible show Dl.dE _ _ (Expr.Call (Expr.Name "any" _) _ _ _) _ _ _); refine Dl.d_b_any ?frA ?frB ?_; (case frA => walk_at "fr"); (case frB => rfl))
  | ((with_reducible show Dl.dE _ _ (Expr.Call (Expr.Name "abs" _) _ _ _) _ _ _); refine Dl.d_b_abs ?frA ?frB ?_; (case frA => walk_at "fr"); (case frB => rfl))
  | ((with_reducible show Dl.dE _ _ (Expr.Call (Expr.Name "sum" _) _ _ _) _ _ _); refine Dl.d_b_sum ?frA ?frB ?_; (case frA => walk_at "fr"); (case frB => rfl))
  | ((with_reducible show Dl.dE _ _ (Expr.Call (Expr.Name "min" _) _ _ _) _ _ _); refine Dl.d_b_min ?frA ?frB ?_; (case frA => walk_at "fr"); (case frB => rfl))
  | ((with_reducible show Dl.dE _ _ (Expr.Call (Expr.Name "max" _) _ _ _) _ _ _); refine Dl.d_b_max ?frA ?frB ?_; (case frA => walk_at "fr"); (case frB => rfl))
  | ((with_reducible show Dl.dE _ _ (Expr.Call (Expr.Name "sorted" _) _ _ _) _ _ _); refine Dl.d_b_sorted ?frA ?frB ?_; (case frA => walk_at "fr"); (case frB => rfl))
  | ((with_reducible show Dl.dE _ _ (Expr.Call (Expr.Name "int" _) _ _ _) _ _ _); refine Dl.d_c_int ?frA ?frB ?_; (case frA => walk_at "fr"); (case frB => rfl))
  | ((with_reducible show Dl.dE _ _ (Expr.Call (Expr.Name "tuple" _) _ _ _) _ _ _); refine Dl.d_c_tuple ?frA ?frB ?_; (case frA => walk_at "fr"); (case frB => rfl))
  | ((with_reducible show Dl.dE _ _ (Expr.Call (Expr.Name "list" _) _ _ _) _ _ _); refine Dl.d_c_list ?frA ?frB ?_; (case frA => walk_at "fr"); (case frB => rfl))
  | ((with_reducible show Dl.dE _ _ (Expr.Call (Expr.Name "str" _) _ _ _) _ _ _); refine Dl.d_c_str ?frA ?frB ?_; (case frA => walk_at "fr"); (case frB => rfl))
  | ((with_reducible show Dl.dE _ _ (Expr.Call (Expr.Name "bool" _) _ _ _) _ _ _); refine Dl.d_c_bool ?frA ?frB ?_; (case frA => walk_at "fr"); (case frB => rfl))
  | ((with_reducible show Dl.dE _ _ (Expr.Call (Expr.Name "set" _) _ _ _) _ _ _); refine Dl.d_c_set ?frA ?frB ?_; (case frA => walk_at "fr"); (case frB => rfl))
  | (refine Dl.d_fn (j := ?fnJ) (S := ?fnS) ?fnA ?fnB ?fnC ?_; (case fnA => assumption); (case fnB => exact Nat.le_of_ble_eq_true rfl); (case fnC => rfl)))
local macro_rules | `(tactic| walk_at "ed") => `(tactic| ((with_reducible show Dl.dE _ _ _ _ _ _); first
  | ((with_reducible show Dl.dE _ _ (Expr.Name _ _) _ _ _); walk_at "name")
  | ((with_reducible show Dl.dE _ _ (Expr.Constant (Const.int _) _ _) _ _ _); refine Dl.d_int ?_)
  | ((with_reducible show Dl.dE _ _ (Expr.Constant (Const.str _) _ _) _ _ _); refine Dl.d_str ?_)
  | ((with_reducible show Dl.dE _ _ (Expr.Constant (Const.bool _) _ _) _ _ _); refine Dl.d_bool ?_)
  | ((with_reducible show Dl.dE _ _ (Expr.Constant Const.none _ _) _ _ _); refine Dl.d_none ?_)
  | ((with_reducible show Dl.dE _ _ (Expr.Call (Expr.Name _ _) [_, Expr.Tuple [Expr.Name _ _, Expr.Name _ _] _ _] _ _) _ _ _); (refine Dl.d_isi2 ?frA ?frB ?frC ?frD ?frE ?frF ?_; (case frA => walk_at "fr"); (case frB => walk_at "fr"); (case frC => walk_at "fr"); (case frD => rfl); (case frE => rfl); (case frF => rfl)))
  | ((with_reducible show Dl.dE _ _ (Expr.Call (Expr.Name _ _) _ _ _) _ _ _); walk_at "call")
  | ((with_reducible show Dl.dE _ _ (Expr.BoolOp _ [_] _) _ _ _); refine Dl.d_one ?_)
  | ((with_reducible show Dl.dE _ _ (Expr.BoolOp BoolOp.And _ _) _ _ _); refine Dl.d_and ?_)
  | ((with_reducible show Dl.dE _ _ (Expr.BoolOp BoolOp.Or _ _) _ _ _); refine Dl.d_or ?_)
  | ((with_reducible show Dl.dE _ _ (Expr.UnaryOp UnaryOp.Not _ _) _ _ _); refine Dl.d_not ?_)
  | ((with_reducible show Dl.dE _ _ (Expr.UnaryOp UnaryOp.USub _ _) _ _ _); refine Dl.d_neg ?_)
  | ((with_reducible show Dl.dE _ _ (Expr.BinOp _ _ _ _) _ _ _); refine Dl.d_bin ?_)
  | ((with_reducible show Dl.dE _ _ (Expr.Compare _ [_] _ _) _ _ _); refine Dl.d_cmp ?_)
  | ((with_reducible show Dl.dE _ _ (Expr.Compare _ [_, _] _ _) _ _ _); refine Dl.d_chain ?_)
  | ((with_reducible show Dl.dE _ _ (Expr.IfExp _ _ _ _) _ _ _); refine Dl.d_if ?_)
  | ((with_reducible show Dl.dE _ _ (Expr.Tuple _ _ _) _ _ _); refine Dl.d_tup ?_)
  | ((with_reducible show Dl.dE _ _ (Expr.List _ _) _ _ _); refine Dl.d_lst ?_)
  | ((with_reducible show Dl.dE _ _ (Expr.Subscript _ (Expr.Slice _ _ _ _) _) _ _ _); refine Dl.d_slice ?_)
  | ((with_reducible show Dl.dE _ _ (Expr.Subscript _ _ _) _ _ _); refine Dl.d_ix ?_)))
local macro_rules | `(tactic| walk_at "ad") => `(tactic| ((with_reducible show Dl.dA _ _ _ _ _ _); first | refine Dl.a_nil ?_ | refine Dl.a_cons ?_))
local macro_rules | `(tactic| walk_at "td") => `(tactic| first
  | ((with_reducible show Dl.dT _ _ (Expr.UnaryOp UnaryOp.Not _ _) _ _ _); refine Dl.t_not ?_)
  | ((with_reducible show Dl.dT _ _ (Expr.BoolOp _ _ _) _ _ _); refine Dl.t_bool ?_)
  | ((with_reducible show Dl.dT _ _ (Expr.Compare _ [_] _ _) _ _ _); refine Dl.t_cmp ?_)
  | ((with_reducible show Dl.dT _ _ (Expr.Compare _ [_, _] _ _) _ _ _); refine Dl.t_chain ?_)
  | ((with_reducible show Dl.dT _ _ (_) _ _ _); refine Dl.t_val ?_)
  | ((with_reducible show Dl.dW _ _ (Expr.BoolOp BoolOp.And [_] _) _ _ _); refine Dl.w_and1 ?_)
  | ((with_reducible show Dl.dW _ _ (Expr.BoolOp BoolOp.Or [_] _) _ _ _); refine Dl.w_or1 ?_)
  | ((with_reducible show Dl.dW _ _ (Expr.BoolOp BoolOp.And _ _) _ _ _); refine Dl.w_and ?_)
  | ((with_reducible show Dl.dW _ _ (Expr.BoolOp BoolOp.Or _ _) _ _ _); refine Dl.w_or ?_))
local macro_rules | `(tactic| walk_at "od") => `(tactic| ((with_reducible show Dl.OpD _ _ _ _ _ _); first
  | refine Dl.o_add ?_ | refine Dl.o_sub ?_ | refine Dl.o_lt ?_ | refine Dl.o_le ?_ | refine Dl.o_gt ?_ | refine Dl.o_ge ?_ | refine Dl.o_eq ?_ | refine Dl.o_ne ?_ | refine Dl.o_eqS ?_ | refine Dl.o_mul ?_ ?_ | refine Dl.o_mod ?_ ?_ | refine Dl.o_fdivW ?_ ?_ | refine Dl.o_inS ?_ | refine Dl.o_notInS ?_
  | refine Dl.o_isN ?_ | refine Dl.o_notN ?_))
local macro_rules | `(tactic| walk_at "cd") => `(tactic| ((with_reducible show Dl.CallD _ _ _ _ _); first
  | refine Dl.c_lenT ?_ | refine Dl.c_lenL ?_ | refine Dl.c_lenO ?_ | refine Dl.c_abs ?_ | refine Dl.c_int ?_ | refine Dl.c_lenS ?_ ?_ | refine Dl.c_allT ?_
  | refine Dl.c_isInt ?_ | refine Dl.c_isBool ?_ | refine Dl.c_isStr ?_ | refine Dl.c_isTuple ?_ | refine Dl.c_isList ?_
  | refine Dl.c_allF ?_ | refine Dl.c_tupL ?_ | refine Dl.c_tupT ?_))
local macro_rules | `(tactic| walk_at "sd") => `(tactic| first
  | ((with_reducible show Dl.dS _ _ _ (Stmt.Return (some _) _) _ _ _ _); refine Dl.s_ret ?_)
  | ((with_reducible show Dl.dS _ _ _ (Stmt.Assign [Expr.Tuple [Expr.Name _ _, Expr.Name _ _] _ _] (Expr.Tuple [_, _] _ _) _) _ _ _ _); (refine Dl.s_pr (i := ?stI) (j := ?stJ) ?stA ?stB ?stC ?stD ?stE ?_; (case stA => rfl); (case stB => rfl); (case stC => rfl); (case stD => rfl); (case stE => rfl)))
  | ((with_reducible show Dl.dS _ _ _ (Stmt.If _ _ _ _) _ _ _ _); refine Dl.s_if ?_)
  | ((with_reducible show Dl.dS _ _ _ (Stmt.Assign [Expr.Name _ _] _ _) _ _ _ _); (refine Dl.s_st (i := ?stI) ?stA ?stB ?stC ?_; (case stA => rfl); (case stB => rfl); (case stC => rfl)))
  | ((with_reducible show Dl.dS _ _ _ (Stmt.Expr _ _) _ _ _ _); refine Dl.s_expr ?_)
  | ((with_reducible show Dl.dSs _ _ _ _ _ _ _ _); first | refine Dl.s_cons ?_ | refine Dl.s_nil ?_))
local macro_rules | `(tactic| walk_at "xd") => `(tactic| ((with_reducible show Dl.IxD _ _ _ _ _); first | (refine Dl.x_T (d := ?ixD) ?ixE ?_; (case ixE => rfl)) | (refine Dl.x_L (d := ?ixD) ?ixE ?_; (case ixE => rfl)) | (refine Dl.x_O (d := ?ixD) ?ixE ?_; (case ixE => rfl))))
local macro_rules | `(tactic| walk_at "ds") => `(tactic| (refine Dl.ex_dats (ds := ?dsW) ?dsA ?dsB ?_; (case dsA => rfl); (case dsB => rfl)))
local macro_rules | `(tactic| walk_at "dl") => `(tactic| first
  | walk_at "ds"
  | walk_at "ed"
  | walk_at "ad"
  | walk_at "td"
  | walk_at "od"
  | walk_at "cd"
  | walk_at "sd"
  | walk_at "xd"
  | ((with_reducible refine ⟨_, rfl, fun hc => ?_, fun hc => ?_⟩) <;> (first | contradiction | (exfalso; revert hc; simp [Dl.isTy, Dl.tyD]; done) | skip))
  | ((with_reducible refine ⟨fun hc => ?_, fun hc => ?_⟩) <;> (first | contradiction | (exfalso; revert hc; simp [Dl.isTy, Dl.tyD]; done) | skip))
  | (refine ⟨_, _, rfl, rfl, ?_⟩)
  | (refine ⟨rfl, ?_⟩)
  | (with_reducible refine ⟨_, rfl, ?_⟩)
  | (refine ⟨(_, _), rfl, ?_⟩)
  | (refine ⟨(_, _, _), rfl, ?_⟩)
  | (refine ⟨True.intro, fun _ hs => ?_, fun _ hx => False.elim hx⟩; replace hs : _ = Dl.Sl.dat _ := hs; subst hs)
  | (refine ⟨by assumption, fun _ hs => ?_, fun _ hx => False.elim hx⟩; replace hs : _ = Dl.Sl.dat _ := hs; subst hs)
  | fail)
/-! ### the items that may stand, by the law -/
theorem wide_fit {k : Kd} (W : WideK k) : ∀ m ∈ k.menus, ∀ r ∈ m, r.1.length = k.ties.length := by
  intro m hm r hr
  obtain ⟨b1, b2, b3, b4, b5, b6, b7⟩ := W.ok
  have hn := W.none
  have hM : menusFault k = none := by
    unfold kindFault at hn
    split at hn
    · cases hn
    · split at hn
      · cases hn
      · exact hn
  have hlen : (couplesI k.cols.length).length = k.menus.length := by
    rw [b7]
    have : k.cols.length = 1 ∨ k.cols.length = 2 ∨ k.cols.length = 3 := by omega
    rcases this with e | e | e <;> rw [e] <;> rfl
  obtain ⟨i, hi⟩ := List.mem_iff_getElem?.mp hm
  have hil := (List.getElem?_eq_some_iff.mp hi).1
  have hci : (couplesI k.cols.length)[i]? = some ((couplesI k.cols.length)[i]'(by omega)) := List.getElem?_eq_getElem _
  have hz : ((couplesI k.cols.length).zip k.menus)[i]? = some ((couplesI k.cols.length)[i]'(by omega), m) := by
    rw [List.getElem?_zip_eq_some]
    exact ⟨hci, hi⟩
  unfold menusFault at hM
  rw [List.findSome?_eq_none_iff] at hM
  have h1 := hM _ (List.mem_of_getElem? hz)
  unfold menuOf at h1
  rw [Option.map_eq_none_iff] at h1
  unfold menuFault at h1
  split at h1
  · cases h1
  · rename_i h2
    have h3 : (m.all fun r => fitsT k.ties r.1) = true := by
      have := fun z => h2 (.inr (.inr z))
      simpa using this
    have h4 := List.all_eq_true.mp h3 r hr
    unfold fitsT at h4
    rw [Bool.and_eq_true] at h4
    exact eq_of_beq h4.1
theorem alike_itm (x y : Itm) : PySem.W.alike (eI x) (eI y) = true := PySem.W.alike_ints x y
def letSpec : Dl.Spec where
  α := Kd × Nat × Nat
  arg a := [.dat (eKd a.1), .dat (.int (a.2.1 : Nat)), .dat (.int (a.2.2 : Nat))]
  pre a := WideK a.1 ∧ a.2.1 < a.1.cols.length ∧ a.2.2 < a.1.cols.length
  post a s := ∃ l : List Itm, l.Perm (letL a.1 a.2.1 a.2.2) ∧ s = .dat (.list (l.map eI))
section
variable {G : Dl.Gd}
theorem ok_items_let (T : Top G) : Dl.Fn G 2 "_law_items_let" letSpec := by
  have f1 := fr_len T
  have f2 := fr_min T
  have f3 := fr_max T
  have f4 := fr_sorted T
  have h1 := ok_rows T
  have h2 := ok_lmirror T
  refine mk__law_items_let T (fun _ => rfl) fun cdv M0 ⟨k, a, b⟩ hp => ?_
  obtain ⟨W, ha, hb⟩ := hp
  dsimp only at W ha hb
  have fit := wide_fit W
  have nt := W.ties
  have hk := W.ok
  obtain ⟨b1, b2, b3, b4, b5, b6, b7⟩ := hk
  have elo : min (a : Int) (b : Int) = ((min a b : Nat) : Int) := by omega
  have ehi : max (a : Int) (b : Int) = ((max a b : Nat) : Int) := by omega
  have hlh : min a b ≤ max a b := by omega
  have hhi : max a b < k.cols.length := by omega
  have hlet : letL k a b = (menuAt k (min a b) (max a b)).map fun r : Row => if a ≤ b then r.1 else mirrorI k.ties r.1 := by
    unfold letL
    by_cases h : a ≤ b
    · rw [if_pos h, Nat.min_eq_left h, Nat.max_eq_right h]
      simp only [if_pos h]
    · rw [if_neg h, Nat.min_eq_right (by omega), Nat.max_eq_left (by omega)]
      simp only [if_neg h]
  obtain ⟨p1, p2⟩ := coup_pos b2.1 b2.2 hlh hhi
  obtain ⟨q1, q2, q3, q4⟩ := menu_at W.ok hlh hhi
  repeat' walk_at "dl"
  refine Dl.c_min2I (i := (a : Int)) (j := (b : Int)) ?_
  rw [elo]
  repeat' walk_at "dl"
  refine Dl.c_max2I (i := (a : Int)) (j := (b : Int)) ?_
  rw [ehi]
  repeat' walk_at "dl"
  generalize min a b = lo at hlh hlet p1 p2 q1 q2 q3
  generalize max a b = hi at hlh hhi hlet p1 p2 q1 q2 q3
  have fit2 := fit _ q2
  have ok2 := b6 _ q2
  generalize hmm : menuAt k lo hi = mm at hlet q1 q2 fit2 ok2
  refine Dl.d_index (Dl.d_ofLc (Dl.l_TF (QL := fun zs => zs = ((rowsR k.cols.length 2).filter (fun x => decide (x.getD 0 0 ≤ x.getD 1 0))).map eI) eI (fun x => decide (x.getD 0 0 ≤ x.getD 1 0)) eI (own := [("k", 9), ("j", 10)]) (is := [9, 10]) (by kernel_rfl) (by decide) ?_) (fun zs hz => ?_))
  · refine Dl.i_listL ?_
    repeat' walk_at "dl"
    refine ⟨⟨by show 1 ≤ (k.cols.map eCol).length; rw [List.length_map]; exact b2.1, by show (k.cols.map eCol).length ≤ 6; rw [List.length_map]; exact Nat.le_trans b2.2 (by decide)⟩, fun s hs => ?_, fun _ h => h.elim⟩
    replace hs : _ = Dl.Sl.dat _ := hs
    rw [List.length_map] at hs
    subst hs
    refine ⟨_, rfl, fun hl => ⟨rowsR k.cols.length 2, rfl, hl, fun D x hx => ?_, rfl⟩⟩
    obtain ⟨u, v, rfl⟩ := rows_two b2.1 b2.2 x hx
    refine Dl.g_tup (ds := [.int u, .int v]) (is := [9, 10]) rfl (Dl.gs_cons (is := [9]) (js := [10]) (Dl.g_nm (i := 9) rfl rfl (Dl.gs_cons (is := [10]) (js := []) (Dl.g_nm (i := 10) rfl rfl (Dl.gs_nil ?_)))))
    repeat' walk_at "dl"
    intro _
    repeat' walk_at "dl"
    exact rfl
  rw [coup_of b2.1 b2.2] at hz
  subst hz
  refine ⟨_, rfl, ?_⟩
  repeat' walk_at "dl"
  refine ⟨eC (lo, hi), cix k.cols.length lo hi, eC (lo, hi), rfl, (sh_cs _).sh, (sh_c _).sh, by rw [List.getElem?_map, p1]; rfl, (Dl.eqv_iff _ _ (nb_c _) (nb_c _)).mpr rfl, fun m z' hm hz => ?_, ?_⟩
  · rw [List.getElem?_map] at hz
    cases hy : (couplesI k.cols.length)[m]? with
    | none => rw [hy] at hz; cases hz
    | some y =>
      rw [hy] at hz
      cases hz
      exact eqv_cne fun e => p2 m hm (by rw [hy, e])
  refine ⟨rfl, ?_⟩
  repeat' walk_at "dl"
  refine Dl.s_lc (i := 6) rfl rfl (Dl.l_T (QL := fun zs => zs = (mm.map (·.1)).map eI) eRow (fun r => eI r.1) (own := [("item", 7), ("share", 8)]) (is := [7, 8]) (by kernel_rfl) (by decide) ?_) (fun zs hz => ?_) rfl rfl rfl
  · refine Dl.i_tupL ?_
    repeat' walk_at "dl"
    refine Dl.x_T (d := eMenu mm) (Dl.atD (by rw [List.getElem?_map, q1]; rfl)) ⟨_, rfl, fun hl => ⟨mm, rfl, hl, fun D x hx => ?_, by rw [List.map_map]; rfl⟩⟩
    refine Dl.g_tup (ds := [eI x.1, eSh x.2]) (is := [7, 8]) rfl (Dl.gs_cons (is := [7]) (js := [8]) (Dl.g_nm (i := 7) rfl rfl (Dl.gs_cons (is := [8]) (js := []) (Dl.g_nm (i := 8) rfl rfl (Dl.gs_nil ?_)))))
    repeat' walk_at "dl"
    exact rfl
  subst hz
  repeat' walk_at "dl"
  refine Dl.d_ofLc (Dl.l_T (QL := fun zs => zs = (letL k a b).map eI) eI (fun x => eI (if a ≤ b then x else mirrorI k.ties x)) (own := [("item", 7)]) (is := [7]) (by kernel_rfl) (by decide) ?_) (fun zs hz => ?_)
  · refine Dl.i_listL (Dl.d_nm (s := .dat (.list ((mm.map (·.1)).map eI))) rfl rfl ⟨_, rfl, fun hl => ⟨mm.map (·.1), rfl, hl, fun D x hx => ?_, by rw [hlet, List.map_map, List.map_map]; exact List.map_congr_left fun r _ => by show eI _ = eI _; congr 1⟩⟩)
    obtain ⟨r, hr, hrx⟩ := List.mem_map.mp hx
    have hxo : ItmOk x := by rw [← hrx]; exact (ok2.2 r hr).1
    refine Dl.g_nm (i := 7) rfl rfl ?_
    repeat' walk_at "dl"
    · rename_i hc
      have h : a ≤ b := by have := of_decide_eq_true hc; have : (a : Int) ≤ b := this; omega
      rw [if_pos h]
    · rename_i hc
      have h : ¬ a ≤ b := by have := of_decide_eq_false hc; have : ¬ (a : Int) ≤ b := this; omega
      refine ⟨⟨b4, hxo⟩, fun s hs => ?_, fun _ h => h.elim⟩
      replace hs : s = .dat (eI (mirrorI k.ties x)) := hs
      rw [hs, if_neg h]
  subst hz
  repeat' walk_at "dl"
  have hne : ∀ x ∈ letL k a b, x.length = k.ties.length := fun x hx => by
    rw [hlet] at hx
    obtain ⟨r, hr, rfl⟩ := List.mem_map.mp hx
    split
    · exact fit2 r hr
    · exact mir_len (fit2 r hr)
  refine Dl.c_sortD (fun d hd d' hd' => ?_) (.inl fun d hd => ?_) (fun d hd => ?_) fun out pm => ?_
  · obtain ⟨r, _, rfl⟩ := List.mem_map.mp hd
    obtain ⟨r', _, rfl⟩ := List.mem_map.mp hd'
    exact alike_itm r r'
  · obtain ⟨x, hx, rfl⟩ := List.mem_map.mp hd
    have hl := hne x hx
    cases x with
    | nil => exact absurd (List.length_eq_zero_iff.mp hl.symm) nt
    | cons n x => exact ⟨_, _, rfl⟩
  · obtain ⟨r, _, rfl⟩ := List.mem_map.mp hd
    exact Nat.le_trans (sh_itm r).2 (by decide)
  obtain ⟨l', pm', rfl⟩ := perm_mapE pm _ rfl
  repeat' walk_at "dl"
  exact ⟨l', pm', rfl⟩
end
end K76
set_option Elab.async false
set_option linter.all false
set_option maxRecDepth 100000
set_option maxHeartbeats 4000000
set_option autoImplicit false
namespace K76
open PySem PySem.Spec PyProof.Rows L2
local macro_rules | `(tactic| walk_at "nm") => `(tactic| (refine Dl.d_nm (s := ?nmS) ?nmA ?nmB ?_; (case nmA => rfl); (case nmB => rfl)))
local macro_rules | `(tactic| walk_at "fr") => `(tactic| first | assumption)
local macro_rules | `(tactic| walk_at "name") => `(tactic| first
  | walk_at "nm"
  | ((with_reducible show Dl.dE _ _ (Expr.Name "int" _) _ _ _); refine Dl.d_t_int ?frA ?frB ?_; (case frA => walk_at "fr"); (case frB => rfl))
  | ((with_reducible show Dl.dE _ _ (Expr.Name "tuple" _) _ _ _); refine Dl.d_t_tuple ?frA ?frB ?_; (case frA => walk_at "fr"); (case frB => rfl))
  | ((with_reducible show Dl.dE _ _ (Expr.Name "list" _) _ _ _); refine Dl.d_t_list ?frA ?frB ?_; (case frA => walk_at "fr"); (case frB => rfl))
  | ((with_reducible show Dl.dE _ _ (Expr.Name "str" _) _ _ _); refine Dl.d_t_str ?frA ?frB ?_; (case frA => walk_at "fr"); (case frB => rfl))
  | ((with_reducible show Dl.dE _ _ (Expr.Name "bool" _) _ _ _); refine Dl.d_t_bool ?frA ?frB ?_; (case frA => walk_at "fr"); (case frB => rfl))
  | ((with_reducible show Dl.dE _ _ (Expr.Name "set" _) _ _ _); refine Dl.d_t_set ?frA ?frB ?_; (case frA => walk_at "fr"); (case frB => rfl))
  | walk_at "glob")
local macro_rules | `(tactic| walk_at "glob") => `(tactic| first
  | (refine Dl.d_globInt (i := ?gI) ?gA ?gB ?_; (case gA => rfl); (case gB => assumption))
  | (refine Dl.d_globStr (i := ?gI) ?gA ?gB ?_; (case gA => rfl); (case gB => assumption)))
local macro_rules | `(tactic| walk_at "call") => `(tactic| first
  | ((with_reducible show Dl.dE _ _ (Expr.Call (Expr.Name "isinstance" _) _ _ _) _ _ _); refine Dl.d_b_isinstance ?frA ?frB ?_; (case frA => walk_at "fr"); (case frB => rfl))
  | ((with_reducible show Dl.dE _ _ (Expr.Call (Expr.Name "len" _) _ _ _) _ _ _); refine Dl.d_b_len ?frA ?frB ?_; (case frA => walk_at "fr"); (case frB => rfl))
  | ((with_reducible show Dl.dE _ _ (Expr.Call (Expr.Name "all" _) _ _ _) _ _ _); refine Dl.d_b_all ?frA ?frB ?_; (case frA => walk_at "fr"); (case frB => rfl))
  | ((with_reducible show Dl.dE _ _ (Expr.Call (Expr.Name "any" _) _ _ _) _ _ _); refine Dl.d_b_any ?frA ?frB ?_; (case frA => walk_at "fr"); (case frB => rfl))
  | ((with_reducible show Dl.dE _ _ (Expr.Call (Expr.Name "abs" _) _ _ _) _ _ _); refine Dl.d_b_abs ?frA ?frB ?_; (case frA => walk_at "fr"); (case frB => rfl))
  | ((with_reducible show Dl.dE _ _ (Expr.Call (Expr.Name "sum" _) _ _ _) _ _ _); refine Dl.d_b_sum ?frA ?frB ?_; (case frA => walk_at "fr"); (case frB => rfl))
  | ((with_reducible show Dl.dE _ _ (Expr.Call (Expr.Name "min" _) _ _ _) _ _ _); refine Dl.d_b_min ?frA ?frB ?_; (case frA => walk_at "fr"); (case frB => rfl))
  | ((with_reducible show Dl.dE _ _ (Expr.Call (Expr.Name "max" _) _ _ _) _ _ _); refine Dl.d_b_max ?frA ?frB ?_; (case frA => walk_at "fr"); (case frB => rfl))
  | ((with_reducible show Dl.dE _ _ (Expr.Call (Expr.Name "sorted" _) _ _ _) _ _ _); refine Dl.d_b_sorted ?frA ?frB ?_; (case frA => walk_at "fr"); (case frB => rfl))
  | ((with_reducible show Dl.dE _ _ (Expr.Call (Expr.Name "int" _) _ _ _) _ _ _); refine Dl.d_c_int ?frA ?frB ?_; (case frA => walk_at "fr"); (case frB => rfl))
  | ((with_reducible show Dl.dE _ _ (Expr.Call (Expr.Name "tuple" _) _ _ _) _ _ _); refine Dl.d_c_tuple ?frA ?frB ?_; (case frA => walk_at "fr"); (case frB => rfl))
  | ((with_reducible show Dl.dE _ _ (Expr.Call (Expr.Name "list" _) _ _ _) _ _ _); refine Dl.d_c_list ?frA ?frB ?_; (case frA => walk_at "fr"); (case frB => rfl))
  | ((with_reducible show Dl.dE _ _ (Expr.Call (Expr.Name "str" _) _ _ _) _ _ _); refine Dl.d_c_str ?frA ?frB ?_; (case frA => walk_at "fr"); (case frB => rfl))
  | ((with_reducible show Dl.dE _ _ (Expr.Call (Expr.Name "bool" _) _ _ _) _ _ _); refine Dl.d_c_bool ?frA ?frB ?_; (case frA => walk_at "fr"); (case frB => rfl))
  | ((with_reducible show Dl.dE _ _ (Expr.Call (Expr.Name "set" _) _ _ _) _ _ _); refine Dl.d_c_set ?frA ?frB ?_; (case frA => walk_at "fr"); (case frB => rfl))
  | (refine Dl.d_fn (j := ?fnJ) (S := ?fnS) ?fnA ?fnB ?fnC ?_; (case fnA => assumption); (case fnB => exact Nat.le_of_ble_eq_true rfl); (case fnC => rfl)))
local macro_rules | `(tactic| walk_at "ed") => `(tactic| ((with_reducible show Dl.dE _ _ _ _ _ _); first
  | ((with_reducible show Dl.dE _ _ (Expr.Name _ _) _ _ _); walk_at "name")
  | ((with_reducible show Dl.dE _ _ (Expr.Constant (Const.int _) _ _) _ _ _); refine Dl.d_int ?_)
  | ((with_reducible show Dl.dE _ _ (Expr.Constant (Const.str _) _ _) _ _ _); refine Dl.d_str ?_)
  | ((with_reducible show Dl.dE _ _ (Expr.Constant (Const.bool _) _ _) _ _ _); refine Dl.d_bool ?_)
  | ((with_reducible show Dl.dE _ _ (Expr.Constant Const.none _ _) _ _ _); refine Dl.d_none ?_)
  | ((with_reducible show Dl.dE _ _ (Expr.Call (Expr.Name _ _) [_, Expr.Tuple [Expr.Name _ _, Expr.Name _ _] _ _] _ _) _ _ _); (refine Dl.d_isi2 ?frA ?frB ?frC ?frD ?frE ?frF ?_; (case frA => walk_at "fr"); (case frB => walk_at "fr"); (case frC => walk_at "fr"); (case frD => rfl); (case frE => rfl); (case frF => rfl)))
  | ((with_reducible show Dl.dE _ _ (Expr.Call (Expr.Name _ _) _ _ _) _ _ _); walk_at "call")
  | ((with_reducible show Dl.dE _ _ (Expr.BoolOp _ [_] _) _ _ _); refine Dl.d_one ?_)
  | ((with_reducible show Dl.dE _ _ (Expr.BoolOp BoolOp.And _ _) _ _ _); refine Dl.d_and ?_)
  | ((with_reducible show Dl.dE _ _ (Expr.BoolOp BoolOp.Or _ _) _ _ _); refine Dl.d_or ?_)
  | ((with_reducible show Dl.dE _ _ (Expr.UnaryOp UnaryOp.Not _ _) _ _ _); refine Dl.d_not ?_)
  | ((with_reducible show Dl.dE _ _ (Expr.UnaryOp UnaryOp.USub _ _) _ _ _); refine Dl.d_neg ?_)
  | ((with_reducible show Dl.dE _ _ (Expr.BinOp _ _ _ _) _ _ _); refine Dl.d_bin ?_)
  | ((with_reducible show Dl.dE _ _ (Expr.Compare _ [_] _ _) _ _ _); refine Dl.d_cmp ?_)
  | ((with_reducible show Dl.dE _ _ (Expr.Compare _ [_, _] _ _) _ _ _); refine Dl.d_chain ?_)
  | ((with_reducible show Dl.dE _ _ (Expr.IfExp _ _ _ _) _ _ _); refine Dl.d_if ?_)
  | ((with_reducible show Dl.dE _ _ (Expr.Tuple _ _ _) _ _ _); refine Dl.d_tup ?_)
  | ((with_reducible show Dl.dE _ _ (Expr.List _ _) _ _ _); refine Dl.d_lst ?_)
  | ((with_reducible show Dl.dE _ _ (Expr.Subscript _ (Expr.Slice _ _ _ _) _) _ _ _); refine Dl.d_slice ?_)
  | ((with_reducible show Dl.dE _ _ (Expr.Subscript _ _ _) _ _ _); refine Dl.d_ix ?_)))
local macro_rules | `(tactic| walk_at "ad") => `(tactic| ((with_reducible show Dl.dA _ _ _ _ _ _); first | refine Dl.a_nil ?_ | refine Dl.a_cons ?_))
local macro_rules | `(tactic| walk_at "td") => `(tactic| first
  | ((with_reducible show Dl.dT _ _ (Expr.UnaryOp UnaryOp.Not _ _) _ _ _); refine Dl.t_not ?_)
  | ((with_reducible show Dl.dT _ _ (Expr.BoolOp _ _ _) _ _ _); refine Dl.t_bool ?_)
  | ((with_reducible show Dl.dT _ _ (Expr.Compare _ [_] _ _) _ _ _); refine Dl.t_cmp ?_)
  | ((with_reducible show Dl.dT _ _ (Expr.Compare _ [_, _] _ _) _ _ _); refine Dl.t_chain ?_)
  | ((with_reducible show Dl.dT _ _ (_) _ _ _); refine Dl.t_val ?_)
  | ((with_reducible show Dl.dW _ _ (Expr.BoolOp BoolOp.And [_] _) _ _ _); refine Dl.w_and1 ?_)
  | ((with_reducible show Dl.dW _ _ (Expr.BoolOp BoolOp.Or [_] _) _ _ _); refine Dl.w_or1 ?_)
  | ((with_reducible show Dl.dW _ _ (Expr.BoolOp BoolOp.And _ _) _ _ _); refine Dl.w_and ?_)
  | ((with_reducible show Dl.dW _ _ (Expr.BoolOp BoolOp.Or _ _) _ _ _); refine Dl.w_or ?_))
local macro_rules | `(tactic| walk_at "od") => `(tactic| ((with_reducible show Dl.OpD _ _ _ _ _ _); first
  | refine Dl.o_add ?_ | refine Dl.o_sub ?_ | refine Dl.o_lt ?_ | refine Dl.o_le ?_ | refine Dl.o_gt ?_ | refine Dl.o_ge ?_ | refine Dl.o_eq ?_ | refine Dl.o_ne ?_ | refine Dl.o_eqS ?_ | refine Dl.o_mul ?_ ?_ | refine Dl.o_mod ?_ ?_ | refine Dl.o_fdivW ?_ ?_ | refine Dl.o_inS ?_ | refine Dl.o_notInS ?_
  | refine Dl.o_isN ?_ | refine Dl.o_notN ?_))
local macro_rules | `(tactic| walk_at "cd") => `(tactic| ((with_reducible show Dl.CallD _ _ _ _ _); first
  | refine Dl.c_lenT ?_ | refine Dl.c_lenL ?_ | refine Dl.c_lenO ?_ | refine Dl.c_abs ?_ | refine Dl.c_int ?_ | refine Dl.c_lenS ?_ ?_ | refine Dl.c_allT ?_
  | refine Dl.c_isInt ?_ | refine Dl.c_isBool ?_ | refine Dl.c_isStr ?_ | refine Dl.c_isTuple ?_ | refine Dl.c_isList ?_
  | refine Dl.c_allF ?_ | refine Dl.c_tupL ?_ | refine Dl.c_tupT ?_))
local macro_rules | `(tactic| walk_at "sd") => `(tactic| first
  | ((with_reducible show Dl.dS _ _ _ (Stmt.Return (some _) _) _ _ _ _); refine Dl.s_ret ?_)
  | ((with_reducible show Dl.dS _ _ _ (Stmt.Assign [Expr.Tuple [Expr.Name _ _, Expr.Name _ _] _ _] (Expr.Tuple [_, _] _ _) _) _ _ _ _); (refine Dl.s_pr (i := ?stI) (j := ?stJ) ?stA ?stB ?stC ?stD ?stE ?_; (case stA => rfl); (case stB => rfl); (case stC => rfl); (case stD => rfl); (case stE => rfl)))
  | ((with_reducible show Dl.dS _ _ _ (Stmt.If _ _ _ _) _ _ _ _); refine Dl.s_if ?_)
  | ((with_reducible show Dl.dS _ _ _ (Stmt.Assign [Expr.Name _ _] _ _) _ _ _ _); (refine Dl.s_st (i := ?stI) ?stA ?stB ?stC ?_; (case stA => rfl); (case stB => rfl); (case stC => rfl)))
  | ((with_reducible show Dl.dS _ _ _ (Stmt.Expr _ _) _ _ _ _); refine Dl.s_expr ?_)
  | ((with_reducible show Dl.dSs _ _ _ _ _ _ _ _); first | refine Dl.s_cons ?_ | refine Dl.s_nil ?_))
local macro_rules | `(tactic| walk_at "xd") => `(tactic| ((with_reducible show Dl.IxD _ _ _ _ _); first | (refine Dl.x_T (d := ?ixD) ?ixE ?_; (case ixE => rfl)) | (refine Dl.x_L (d := ?ixD) ?ixE ?_; (case ixE => rfl)) | (refine Dl.x_O (d := ?ixD) ?ixE ?_; (case ixE => rfl))))
local macro_rules | `(tactic| walk_at "ds") => `(tactic| (refine Dl.ex_dats (ds := ?dsW) ?dsA ?dsB ?_; (case dsA => rfl); (case dsB => rfl)))
local macro_rules | `(tactic| walk_at "dl") => `(tactic| first
  | walk_at "ds"
  | walk_at "ed"
  | walk_at "ad"
  | walk_at "td"
  | walk_at "od"
  | walk_at "cd"
  | walk_at "sd"
  | walk_at "xd"
  | ((with_reducible refine ⟨_, rfl, fun hc => ?_, fun hc => ?_⟩) <;> (first | contradiction | (exfalso; revert hc; simp [Dl.isTy, Dl.tyD]; done) | skip))
  | ((with_reducible refine ⟨fun hc => ?_, fun hc => ?_⟩) <;> (first | contradiction | (exfalso; revert hc; simp [Dl.isTy, Dl.tyD]; done) | skip))
  | (refine ⟨_, _, rfl, rfl, ?_⟩)
  | (refine ⟨rfl, ?_⟩)
  | (with_reducible refine ⟨_, rfl, ?_⟩)
  | (refine ⟨(_, _), rfl, ?_⟩)
  | (refine ⟨(_, _, _), rfl, ?_⟩)
  | (refine ⟨True.intro, fun _ hs => ?_, fun _ hx => False.elim hx⟩; replace hs : _ = Dl.Sl.dat _ := hs; subst hs)
  | (refine ⟨by assumption, fun _ hs => ?_, fun _ hx => False.elim hx⟩; replace hs : _ = Dl.Sl.dat _ := hs; subst hs)
  | fail)
/-! ### the law's pairs, webs -/
theorem rows_two6 {m : Nat} (h1 : 1 ≤ m) (h3 : m ≤ 6) : ∀ x ∈ rowsR m 2, ∃ a b : Int, x = [a, b] := by
  have a1 : m = 1 ∨ m = 2 ∨ m = 3 ∨ m = 4 ∨ m = 5 ∨ m = 6 := by omega
  have key : ∀ x ∈ rowsR m 2, x.length = 2 := by rcases a1 with a1 | a1 | a1 | a1 | a1 | a1 <;> subst a1 <;> decide
  intro x hx
  have := key x hx
  match x, this with
  | [a, b], _ => exact ⟨a, b, rfl⟩
theorem pairs_of {m : Nat} (h1 : 1 ≤ m) (h3 : m ≤ 6) : ((rowsR m 2).filter (fun x => decide (x.getD 0 0 < x.getD 1 0))).map eI = (pairsI m).map eC := by
  have a1 : m = 1 ∨ m = 2 ∨ m = 3 ∨ m = 4 ∨ m = 5 ∨ m = 6 := by omega
  have key : (rowsR m 2).filter (fun x => decide (x.getD 0 0 < x.getD 1 0)) = (pairsI m).map fun c => [(c.1 : Int), (c.2 : Int)] := by
    rcases a1 with a1 | a1 | a1 | a1 | a1 | a1 <;> subst a1 <;> decide
  rw [key, List.map_map]
  rfl
def lpairsSpec : Dl.Spec where
  α := Nat
  arg n := [.dat (.int (n : Nat))]
  pre n := 1 ≤ n ∧ n ≤ 6
  post n s := s = .dat (.list ((pairsI n).map eC))
section
variable {G : Dl.Gd}
theorem ok_lpairs (T : Top G) : Dl.Fn G 2 "_law_pairs" lpairsSpec := by
  have h1 := ok_rows T
  refine mk__law_pairs T (fun _ => rfl) fun cdv M0 (n : Nat) hp => ?_
  have n1 : 1 ≤ n := hp.1
  have n6 : n ≤ 6 := hp.2
  repeat' walk_at "dl"
  refine Dl.d_ofLc (Dl.l_TF (QL := fun zs => zs = ((rowsR n 2).filter (fun x => decide (x.getD 0 0 < x.getD 1 0))).map eI) eI (fun x => decide (x.getD 0 0 < x.getD 1 0)) eI (own := [("one", 1), ("other", 2)]) (is := [1, 2]) (by kernel_rfl) (by decide) ?_) (fun zs hz => ?_)
  · refine Dl.i_listL ?_
    repeat' walk_at "dl"
    refine fun hl => ⟨rowsR n 2, rfl, hl, fun D x hx => ?_, rfl⟩
    obtain ⟨u, v, rfl⟩ := rows_two6 n1 n6 x hx
    refine Dl.g_tup (ds := [.int u, .int v]) (is := [1, 2]) rfl (Dl.gs_cons (is := [1]) (js := [2]) (Dl.g_nm (i := 1) rfl rfl (Dl.gs_cons (is := [2]) (js := []) (Dl.g_nm (i := 2) rfl rfl (Dl.gs_nil ?_)))))
    repeat' walk_at "dl"
    intro _
    repeat' walk_at "dl"
    exact rfl
  rw [pairs_of n1 n6] at hz
  subst hz
  exact ⟨rfl, rfl⟩
def cnt (n i : Nat) : Nat := i * n - i * (i + 1) / 2
theorem cnt_at : ∀ n ∈ List.range 7, ∀ o ∈ List.range n, ∀ j ∈ List.range (n - (o + 1)), (pairsI n)[cnt n o + j]? = some (o, o + 1 + j) := by decide
theorem cnt_succ : ∀ n ∈ List.range 7, ∀ o ∈ List.range n, cnt n (o + 1) = cnt n o + (n - (o + 1)) := by decide
theorem cnt_all : ∀ n ∈ List.range 7, cnt n n = (pairsI n).length := by decide
def LetsOk (k : Kd) (cs : List Int) (n : Nat) (its : List Itm) : Prop := ∀ (q : Nat) (y : Itm) (p : Nat × Nat), its[q]? = some y → (pairsI n)[q]? = some p → y ∈ letL k (cs.getD p.1 0).toNat (cs.getD p.2 0).toNat
theorem mir_ok {ts : List Tie} {x : Itm} (h : ItmOk x) : ItmOk (mirrorI ts x) := by
  refine ⟨?_, fun n hn => ?_⟩
  · unfold mirrorI
    rw [List.length_map, List.length_zip]
    exact Nat.le_trans (Nat.min_le_left _ _) h.1
  · unfold mirrorI at hn
    obtain ⟨q, hq, rfl⟩ := List.mem_map.mp hn
    have := h.2 q.1 (List.of_mem_zip hq).1
    split
    · exact this
    · unfold turnI
      split
      · omega
      · split <;> omega
theorem let_itm {k : Kd} (h : KindOk k) {a b : Nat} (ha : a < k.cols.length) (hb : b < k.cols.length) : ∀ x ∈ letL k a b, ItmOk x := by
  intro x hx
  have b6 := h.2.2.2.2.2.1
  unfold letL at hx
  split at hx
  · rename_i ab
    obtain ⟨r, hr, rfl⟩ := List.mem_map.mp hx
    exact ((b6 _ (menu_at h ab hb).2.1).2 r hr).1
  · rename_i ab
    obtain ⟨r, hr, rfl⟩ := List.mem_map.mp hx
    exact mir_ok ((b6 _ (menu_at h (show b ≤ a by omega) ha).2.1).2 r hr).1
theorem let_few {k : Kd} (W : WideK k) {a b : Nat} (ha : a < k.cols.length) (hb : b < k.cols.length) : 1 ≤ (letL k a b).length ∧ (letL k a b).length ≤ 6 := by
  have key : ∀ m ∈ k.menus, 1 ≤ m.length ∧ m.length ≤ 6 := fun m hm => by
    have := W.few m hm
    have : m.length ≠ 0 := fun z => this.2 (List.length_eq_zero_iff.mp z)
    omega
  unfold letL
  split
  · rename_i h
    have := key _ (menu_at W.ok h hb).2.1
    rw [List.length_map]
    exact this
  · rename_i h
    have := key _ (menu_at W.ok (show b ≤ a by omega) ha).2.1
    rw [List.length_map]
    exact this
/-- a web of the law: n places, each pair's item one that may stand -/
structure WebN (k : Kd) (n : Nat) (w : Web) : Prop where
  ok : WebOk w
  len : w.cols.length = n
  col : ∀ c ∈ w.cols, c < (k.cols.length : Nat)
  itm : ∀ o u, o < u → u < n → itemAt w o u ∈ letL k (colAt w o).toNat (colAt w u).toNat
def lwebSpec : Dl.Spec where
  α := Kd × Nat
  arg a := [.bag, .dat (eKd a.1), .dat (.int (a.2 : Nat))]
  pre a := WideK a.1 ∧ 2 ≤ a.2 ∧ a.2 ≤ 6
  post a s := ∃ w, WebN a.1 a.2 w ∧ s = .dat (eWb w)
theorem ok_lweb (T : Top G) : Dl.Fn G 3 "_law_web" lwebSpec := by
  have f1 := fr_len T
  have f2 := fr_range T
  have f3 := fr_tuple T
  have h1 := ok_take T
  have h2 := ok_some T
  have h3 := ok_items_let T
  refine mk__law_web T (fun _ => rfl) fun cdv M0 ⟨k, n⟩ hp => ?_
  obtain ⟨W, n2, n6⟩ := hp
  dsimp only at W n2 n6
  have b2 := W.ok.2.1
  have hst : Dl.startG N__law_web (lwebSpec.arg (k, n)) = [some .bag, some (.dat (eKd k)), some (.dat (.int (n : Nat))), none, none, none, none, none] := rfl
  rw [hst]
  refine Dl.s_cons (Dl.s_prNew (i := 3) (j := 4) rfl rfl rfl rfl rfl ?_)
  repeat' walk_at "dl"
  refine Dl.d_ofLc (Dl.l_TR (QL := fun zs => ∃ cs : List Int, zs = cs.map PyData.int ∧ cs.length = n ∧ ∀ c ∈ cs, 0 ≤ c ∧ c < (k.cols.length : Nat)) (fun i : Nat => .int (i : Nat)) PyData.int (fun _ z => 0 ≤ z ∧ z < (k.cols.length : Nat)) (own := [("place", 7)]) (is := [7]) (by kernel_rfl) (by decide) ?_) (fun zs hz => ?_)
  · refine Dl.i_rng1 rfl f2 (Dl.d_nm (s := .dat (.int (n : Nat))) rfl rfl ⟨_, rfl, by omega, by omega, List.range n, ?_, ?_, fun D x hx => ?_, fun zs h1 h2 => ⟨zs, rfl, by rw [h1, List.length_range], fun z hz => ?_⟩⟩)
    · rw [Int.toNat_natCast, Dl.rngT]
      exact List.map_congr_left fun i _ => by simp
    · rw [Dl.rngD_len, sizeLine_eq, Int.toNat_natCast]
      omega
    · refine Dl.g_nm (i := 7) rfl rfl ?_
      repeat' walk_at "dl"
      refine ⟨⟨by rw [List.length_map]; omega, by rw [List.length_map]; omega⟩, fun s hs => ?_, fun _ h => h.elim⟩
      obtain ⟨c, hc, rfl⟩ := hs
      rw [List.length_map] at hc
      exact ⟨_, rfl, by omega, by omega⟩
    · obtain ⟨i, hi⟩ := List.mem_iff_getElem?.mp hz
      have hl : i < (List.range n).length := by rw [← h1]; exact (List.getElem?_eq_some_iff.mp hi).1
      exact h2 i _ z (List.getElem?_eq_getElem hl) hi
  obtain ⟨cs, rfl, hcl, hcs⟩ := hz
  repeat' walk_at "dl"
  refine fun D d0 d1 => ?_
  refine Dl.s_cons (Dl.s_forT (List.range n) (fun i : Nat => .int (i : Nat)) [5] (fun i M Γ => M = D :: M0 ∧ ∃ (its : List Itm) (g5 g6 : Option PyData), Γ = [some .bag, some (.dat (eKd k)), some (.dat (.int (n : Nat))), some (.dat (.tuple (cs.map .int))), some (.own D (its.map eI)), g5.map Dl.Sl.dat, g6.map Dl.Sl.dat, none] ∧ its.length = cnt n i ∧ LetsOk k cs n its) ?_)
  · refine Dl.i_rng1 rfl f2 (Dl.d_nm (s := .dat (.int (n : Nat))) rfl rfl ⟨_, rfl, by omega, by omega, by rw [Int.toNat_natCast]; exact List.map_congr_left fun q _ => by simp, ⟨rfl, [], none, none, rfl, by simp [cnt], fun q y p h => by simp at h⟩, fun o x M Γ hx hI => ?_, fun M Γ hI => ?_⟩)
    · obtain ⟨rfl, its, g5, g6, rfl, hl, hL⟩ := hI
      have ho : o < n := by
        have := (List.getElem?_eq_some_iff.mp hx).1
        rwa [List.length_range] at this
      rw [List.getElem?_range ho] at hx
      cases hx
      refine Dl.g_nm (i := 5) rfl rfl ?_
      refine Dl.s_cons (Dl.s_forT (List.range (n - (o + 1))) (fun j : Nat => .int ((o + 1 + j : Nat) : Int)) [6] (fun j M2 Γ => M2 = D :: M0 ∧ ∃ (its : List Itm) (g6 : Option PyData), Γ = [some .bag, some (.dat (eKd k)), some (.dat (.int (n : Nat))), some (.dat (.tuple (cs.map .int))), some (.own D (its.map eI)), some (.dat (.int (o : Nat))), g6.map Dl.Sl.dat, none] ∧ its.length = cnt n o + j ∧ LetsOk k cs n its) ?_)
      · refine Dl.i_rng2 rfl f2 ?_
        repeat' walk_at "dl"
        refine ⟨⟨by omega, by omega, by omega, by omega⟩, ?_, ⟨rfl, its, g6, rfl, hl, hL⟩, fun j x M2 Γ hx hI => ?_, fun M2 Γ hI => ?_⟩
        · rw [show ((n : Nat) - ((o : Nat) + 1 : Int)).toNat = n - (o + 1) from by omega]
          exact List.map_congr_left fun q _ => by simp
        · obtain ⟨rfl, its, g6, rfl, hl, hL⟩ := hI
          have hj : j < n - (o + 1) := by
            have := (List.getElem?_eq_some_iff.mp hx).1
            rwa [List.length_range] at this
          rw [List.getElem?_range hj] at hx
          cases hx
          have hcn := cnt_at n (List.mem_range.mpr (by omega)) o (List.mem_range.mpr ho) j (List.mem_range.mpr (by omega))
          have hc15 := (pair_len n (List.mem_range.mpr (by omega))).2
          have hlt := (List.getElem?_eq_some_iff.mp hcn).1
          have hu : o + 1 + j < n := by omega
          have e1 : cs[o]? = some (cs.getD o 0) := by rw [List.getD_eq_getElem?_getD, List.getElem?_eq_getElem (by omega)]; rfl
          have e2 : cs[o + 1 + j]? = some (cs.getD (o + 1 + j) 0) := by rw [List.getD_eq_getElem?_getD, List.getElem?_eq_getElem (by omega)]; rfl
          have r1 := hcs _ (List.mem_of_getElem? e1)
          have r2 := hcs _ (List.mem_of_getElem? e2)
          refine Dl.g_nm (i := 6) rfl rfl ?_
          refine Dl.s_cons (Dl.s_append (i := 4) (ds := its.map eI) (ad := D) rfl rfl rfl rfl d0 (by rw [List.length_map, hl, sizeLine_eq]; omega) ?_)
          repeat' walk_at "dl"
          refine Dl.x_T (d := .int ((cs.getD o 0).toNat : Nat)) (Dl.atD (by rw [List.getElem?_map, e1, Int.toNat_of_nonneg r1.1]; rfl)) ?_
          repeat' walk_at "dl"
          refine Dl.x_T (d := .int ((cs.getD (o + 1 + j) 0).toNat : Nat)) (Dl.atD (by rw [List.getElem?_map, e2, Int.toNat_of_nonneg r2.1]; rfl)) ?_
          repeat' walk_at "dl"
          refine ⟨⟨W, by show (cs.getD o 0).toNat < k.cols.length; omega, by show (cs.getD (o + 1 + j) 0).toNat < k.cols.length; omega⟩, fun s hs => ?_, fun _ h => h.elim⟩
          obtain ⟨l, pl, rfl⟩ := hs
          have pl : l.Perm (letL k (cs.getD o 0).toNat (cs.getD (o + 1 + j) 0).toNat) := pl
          have hl2 := let_few W (a := (cs.getD o 0).toNat) (b := (cs.getD (o + 1 + j) 0).toNat) (by omega) (by omega)
          repeat' walk_at "dl"
          refine ⟨⟨fun z => ?_, by rw [List.length_map, pl.length_eq]; omega⟩, fun s hs => ?_, fun _ h => h.elim⟩
          · have := List.map_eq_nil_iff.mp z
            rw [this] at pl
            have := pl.length_eq
            rw [List.length_nil] at this
            omega
          obtain ⟨d, hd, rfl⟩ := hs
          obtain ⟨y, hy, rfl⟩ := List.mem_map.mp hd
          refine ⟨_, rfl, Dl.s_nil ⟨rfl, its ++ [y], some (.int ((o + 1 + j : Nat) : Int)), by rw [List.map_append]; rfl, by rw [List.length_append, hl]; rfl, fun q z p hq hp => ?_⟩⟩
          by_cases hql : q < its.length
          · rw [List.getElem?_append_left hql] at hq
            exact hL q z p hq hp
          · have hqe : q = its.length := by
              have := (List.getElem?_eq_some_iff.mp hq).1
              rw [List.length_append, List.length_singleton] at this
              omega
            rw [hqe, hl, hcn] at hp
            cases hp
            rw [hqe, List.getElem?_append_right (Nat.le_refl _), Nat.sub_self] at hq
            cases hq
            exact pl.mem_iff.mp hy
        · obtain ⟨rfl, its, g6, rfl, hl, hL⟩ := hI
          refine Dl.s_nil ⟨rfl, its, some (.int (o : Nat)), g6, rfl, ?_, hL⟩
          rw [hl, List.length_range]
          exact (cnt_succ n (List.mem_range.mpr (by omega)) o (List.mem_range.mpr ho)).symm
    · obtain ⟨rfl, its, g5, g6, rfl, hl, hL⟩ := hI
      rw [List.length_range] at hl
      refine Dl.s_freeze (x := "items") (i := 4) rfl rfl (by cases g5 <;> cases g6 <;> rfl) d0 d1 ?_
      repeat' walk_at "dl"
      have hr : n ∈ List.range 7 := List.mem_range.mpr (by omega)
      have hlen : its.length = (pairsI n).length := by rw [hl]; exact cnt_all n hr
      have hin : ∀ (q : Nat) (y : Itm), its[q]? = some y → ∃ p, (pairsI n)[q]? = some p ∧ y ∈ letL k (cs.getD p.1 0).toNat (cs.getD p.2 0).toNat ∧ p.1 < p.2 ∧ p.2 < n := fun q y hq => by
        have hql : q < (pairsI n).length := by rw [← hlen]; exact (List.getElem?_eq_some_iff.mp hq).1
        have e := List.getElem?_eq_getElem hql
        have hp := pair_in n hr _ (List.getElem_mem hql)
        exact ⟨_, e, hL q y _ hq e, hp.1, hp.2⟩
      have hcol : ∀ i, i < n → (cs.getD i 0).toNat < k.cols.length := fun i hi => by
        have e : cs[i]? = some (cs.getD i 0) := by rw [List.getD_eq_getElem?_getD, List.getElem?_eq_getElem (by omega)]; rfl
        have := hcs _ (List.mem_of_getElem? e)
        omega
      have hok : WebOk ⟨cs, its⟩ := by
        refine ⟨by show 2 ≤ cs.length; omega, by show cs.length ≤ 6; omega, fun c hc => (hcs c hc).1, fun x hx => ?_, by show its.length = (pairsI cs.length).length; rw [hcl]; exact hlen⟩
        obtain ⟨q, hq⟩ := List.mem_iff_getElem?.mp hx
        obtain ⟨p, _, h2, h3, h4⟩ := hin q x hq
        exact let_itm W.ok (hcol _ (by omega)) (hcol _ h4) x h2
      refine ⟨⟨cs, its⟩, ⟨hok, hcl, fun c hc => (hcs c hc).2, fun o u ou un => ?_⟩, rfl⟩
      obtain ⟨_, a2, _⟩ := hok.at_ ou (show u < cs.length by omega)
      obtain ⟨_, p2, _⟩ := pair_all n hr u (List.mem_range.mpr un) o (List.mem_range.mpr ou)
      have a2 : its[pix n o u]? = some (itemAt ⟨cs, its⟩ o u) := by rw [← hcl]; exact a2
      exact hL _ _ _ a2 p2
end
end K76
set_option Elab.async false
set_option linter.all false
set_option maxRecDepth 100000
set_option maxHeartbeats 4000000
set_option autoImplicit false
namespace K76
open PySem PySem.Spec PyProof.Rows L2
local macro_rules | `(tactic| walk_at "nm") => `(tactic| (refine Dl.d_nm (s := ?nmS) ?nmA ?nmB ?_; (case nmA => rfl); (case nmB => rfl)))
local macro_rules | `(tactic| walk_at "fr") => `(tactic| first | assumption)
local macro_rules | `(tactic| walk_at "name") => `(tactic| first
  | walk_at "nm"
  | ((with_reducible show Dl.dE _ _ (Expr.Name "int" _) _ _ _); refine Dl.d_t_int ?frA ?frB ?_; (case frA => walk_at "fr"); (case frB => rfl))
  | ((with_reducible show Dl.dE _ _ (Expr.Name "tuple" _) _ _ _); refine Dl.d_t_tuple ?frA ?frB ?_; (case frA => walk_at "fr"); (case frB => rfl))
  | ((with_reducible show Dl.dE _ _ (Expr.Name "list" _) _ _ _); refine Dl.d_t_list ?frA ?frB ?_; (case frA => walk_at "fr"); (case frB => rfl))
  | ((with_reducible show Dl.dE _ _ (Expr.Name "str" _) _ _ _); refine Dl.d_t_str ?frA ?frB ?_; (case frA => walk_at "fr"); (case frB => rfl))
  | ((with_reducible show Dl.dE _ _ (Expr.Name "bool" _) _ _ _); refine Dl.d_t_bool ?frA ?frB ?_; (case frA => walk_at "fr"); (case frB => rfl))
  | ((with_reducible show Dl.dE _ _ (Expr.Name "set" _) _ _ _); refine Dl.d_t_set ?frA ?frB ?_; (case frA => walk_at "fr"); (case frB => rfl))
  | walk_at "glob")
local macro_rules | `(tactic| walk_at "glob") => `(tactic| first
  | (refine Dl.d_globInt (i := ?gI) ?gA ?gB ?_; (case gA => rfl); (case gB => assumption))
  | (refine Dl.d_globStr (i := ?gI) ?gA ?gB ?_; (case gA => rfl); (case gB => assumption)))
local macro_rules | `(tactic| walk_at "call") => `(tactic| first
  | ((with_reducible show Dl.dE _ _ (Expr.Call (Expr.Name "isinstance" _) _ _ _) _ _ _); refine Dl.d_b_isinstance ?frA ?frB ?_; (case frA => walk_at "fr"); (case frB => rfl))
  | ((with_reducible show Dl.dE _ _ (Expr.Call (Expr.Name "len" _) _ _ _) _ _ _); refine Dl.d_b_len ?frA ?frB ?_; (case frA => walk_at "fr"); (case frB => rfl))
  | ((with_reducible show Dl.dE _ _ (Expr.Call (Expr.Name "all" _) _ _ _) _ _ _); refine Dl.d_b_all ?frA ?frB ?_; (case frA => walk_at "fr"); (case frB => rfl))
  | ((with_reducible show Dl.dE _ _ (Expr.Call (Expr.Name "any" _) _ _ _) _ _ _); refine Dl.d_b_any ?frA ?frB ?_; (case frA => walk_at "fr"); (case frB => rfl))
  | ((with_reducible show Dl.dE _ _ (Expr.Call (Expr.Name "abs" _) _ _ _) _ _ _); refine Dl.d_b_abs ?frA ?frB ?_; (case frA => walk_at "fr"); (case frB => rfl))
  | ((with_reducible show Dl.dE _ _ (Expr.Call (Expr.Name "sum" _) _ _ _) _ _ _); refine Dl.d_b_sum ?frA ?frB ?_; (case frA => walk_at "fr"); (case frB => rfl))
  | ((with_reducible show Dl.dE _ _ (Expr.Call (Expr.Name "min" _) _ _ _) _ _ _); refine Dl.d_b_min ?frA ?frB ?_; (case frA => walk_at "fr"); (case frB => rfl))
  | ((with_reducible show Dl.dE _ _ (Expr.Call (Expr.Name "max" _) _ _ _) _ _ _); refine Dl.d_b_max ?frA ?frB ?_; (case frA => walk_at "fr"); (case frB => rfl))
  | ((with_reducible show Dl.dE _ _ (Expr.Call (Expr.Name "sorted" _) _ _ _) _ _ _); refine Dl.d_b_sorted ?frA ?frB ?_; (case frA => walk_at "fr"); (case frB => rfl))
  | ((with_reducible show Dl.dE _ _ (Expr.Call (Expr.Name "int" _) _ _ _) _ _ _); refine Dl.d_c_int ?frA ?frB ?_; (case frA => walk_at "fr"); (case frB => rfl))
  | ((with_reducible show Dl.dE _ _ (Expr.Call (Expr.Name "tuple" _) _ _ _) _ _ _); refine Dl.d_c_tuple ?frA ?frB ?_; (case frA => walk_at "fr"); (case frB => rfl))
  | ((with_reducible show Dl.dE _ _ (Expr.Call (Expr.Name "list" _) _ _ _) _ _ _); refine Dl.d_c_list ?frA ?frB ?_; (case frA => walk_at "fr"); (case frB => rfl))
  | ((with_reducible show Dl.dE _ _ (Expr.Call (Expr.Name "str" _) _ _ _) _ _ _); refine Dl.d_c_str ?frA ?frB ?_; (case frA => walk_at "fr"); (case frB => rfl))
  | ((with_reducible show Dl.dE _ _ (Expr.Call (Expr.Name "bool" _) _ _ _) _ _ _); refine Dl.d_c_bool ?frA ?frB ?_; (case frA => walk_at "fr"); (case frB => rfl))
  | ((with_reducible show Dl.dE _ _ (Expr.Call (Expr.Name "set" _) _ _ _) _ _ _); refine Dl.d_c_set ?frA ?frB ?_; (case frA => walk_at "fr"); (case frB => rfl))
  | (refine Dl.d_fn (j := ?fnJ) (S := ?fnS) ?fnA ?fnB ?fnC ?_; (case fnA => assumption); (case fnB => exact Nat.le_of_ble_eq_true rfl); (case fnC => rfl)))
local macro_rules | `(tactic| walk_at "ed") => `(tactic| ((with_reducible show Dl.dE _ _ _ _ _ _); first
  | ((with_reducible show Dl.dE _ _ (Expr.Name _ _) _ _ _); walk_at "name")
  | ((with_reducible show Dl.dE _ _ (Expr.Constant (Const.int _) _ _) _ _ _); refine Dl.d_int ?_)
  | ((with_reducible show Dl.dE _ _ (Expr.Constant (Const.str _) _ _) _ _ _); refine Dl.d_str ?_)
  | ((with_reducible show Dl.dE _ _ (Expr.Constant (Const.bool _) _ _) _ _ _); refine Dl.d_bool ?_)
  | ((with_reducible show Dl.dE _ _ (Expr.Constant Const.none _ _) _ _ _); refine Dl.d_none ?_)
  | ((with_reducible show Dl.dE _ _ (Expr.Call (Expr.Name _ _) [_, Expr.Tuple [Expr.Name _ _, Expr.Name _ _] _ _] _ _) _ _ _); (refine Dl.d_isi2 ?frA ?frB ?frC ?frD ?frE ?frF ?_; (case frA => walk_at "fr"); (case frB => walk_at "fr"); (case frC => walk_at "fr"); (case frD => rfl); (case frE => rfl); (case frF => rfl)))
  | ((with_reducible show Dl.dE _ _ (Expr.Call (Expr.Name _ _) _ _ _) _ _ _); walk_at "call")
  | ((with_reducible show Dl.dE _ _ (Expr.BoolOp _ [_] _) _ _ _); refine Dl.d_one ?_)
  | ((with_reducible show Dl.dE _ _ (Expr.BoolOp BoolOp.And _ _) _ _ _); refine Dl.d_and ?_)
  | ((with_reducible show Dl.dE _ _ (Expr.BoolOp BoolOp.Or _ _) _ _ _); refine Dl.d_or ?_)
  | ((with_reducible show Dl.dE _ _ (Expr.UnaryOp UnaryOp.Not _ _) _ _ _); refine Dl.d_not ?_)
  | ((with_reducible show Dl.dE _ _ (Expr.UnaryOp UnaryOp.USub _ _) _ _ _); refine Dl.d_neg ?_)
  | ((with_reducible show Dl.dE _ _ (Expr.BinOp _ _ _ _) _ _ _); refine Dl.d_bin ?_)
  | ((with_reducible show Dl.dE _ _ (Expr.Compare _ [_] _ _) _ _ _); refine Dl.d_cmp ?_)
  | ((with_reducible show Dl.dE _ _ (Expr.Compare _ [_, _] _ _) _ _ _); refine Dl.d_chain ?_)
  | ((with_reducible show Dl.dE _ _ (Expr.IfExp _ _ _ _) _ _ _); refine Dl.d_if ?_)
  | ((with_reducible show Dl.dE _ _ (Expr.Tuple _ _ _) _ _ _); refine Dl.d_tup ?_)
  | ((with_reducible show Dl.dE _ _ (Expr.List _ _) _ _ _); refine Dl.d_lst ?_)
  | ((with_reducible show Dl.dE _ _ (Expr.Subscript _ (Expr.Slice _ _ _ _) _) _ _ _); refine Dl.d_slice ?_)
  | ((with_reducible show Dl.dE _ _ (Expr.Subscript _ _ _) _ _ _); refine Dl.d_ix ?_)))
local macro_rules | `(tactic| walk_at "ad") => `(tactic| ((with_reducible show Dl.dA _ _ _ _ _ _); first | refine Dl.a_nil ?_ | refine Dl.a_cons ?_))
local macro_rules | `(tactic| walk_at "td") => `(tactic| first
  | ((with_reducible show Dl.dT _ _ (Expr.UnaryOp UnaryOp.Not _ _) _ _ _); refine Dl.t_not ?_)
  | ((with_reducible show Dl.dT _ _ (Expr.BoolOp _ _ _) _ _ _); refine Dl.t_bool ?_)
  | ((with_reducible show Dl.dT _ _ (Expr.Compare _ [_] _ _) _ _ _); refine Dl.t_cmp ?_)
  | ((with_reducible show Dl.dT _ _ (Expr.Compare _ [_, _] _ _) _ _ _); refine Dl.t_chain ?_)
  | ((with_reducible show Dl.dT _ _ (_) _ _ _); refine Dl.t_val ?_)
  | ((with_reducible show Dl.dW _ _ (Expr.BoolOp BoolOp.And [_] _) _ _ _); refine Dl.w_and1 ?_)
  | ((with_reducible show Dl.dW _ _ (Expr.BoolOp BoolOp.Or [_] _) _ _ _); refine Dl.w_or1 ?_)
  | ((with_reducible show Dl.dW _ _ (Expr.BoolOp BoolOp.And _ _) _ _ _); refine Dl.w_and ?_)
  | ((with_reducible show Dl.dW _ _ (Expr.BoolOp BoolOp.Or _ _) _ _ _); refine Dl.w_or ?_))
local macro_rules | `(tactic| walk_at "od") => `(tactic| ((with_reducible show Dl.OpD _ _ _ _ _ _); first
  | refine Dl.o_add ?_ | refine Dl.o_sub ?_ | refine Dl.o_lt ?_ | refine Dl.o_le ?_ | refine Dl.o_gt ?_ | refine Dl.o_ge ?_ | refine Dl.o_eq ?_ | refine Dl.o_ne ?_ | refine Dl.o_eqS ?_ | refine Dl.o_mul ?_ ?_ | refine Dl.o_mod ?_ ?_ | refine Dl.o_fdivW ?_ ?_ | refine Dl.o_inS ?_ | refine Dl.o_notInS ?_
  | refine Dl.o_isN ?_ | refine Dl.o_notN ?_))
local macro_rules | `(tactic| walk_at "cd") => `(tactic| ((with_reducible show Dl.CallD _ _ _ _ _); first
  | refine Dl.c_lenT ?_ | refine Dl.c_lenL ?_ | refine Dl.c_lenO ?_ | refine Dl.c_abs ?_ | refine Dl.c_int ?_ | refine Dl.c_lenS ?_ ?_ | refine Dl.c_allT ?_
  | refine Dl.c_isInt ?_ | refine Dl.c_isBool ?_ | refine Dl.c_isStr ?_ | refine Dl.c_isTuple ?_ | refine Dl.c_isList ?_
  | refine Dl.c_allF ?_ | refine Dl.c_tupL ?_ | refine Dl.c_tupT ?_))
local macro_rules | `(tactic| walk_at "sd") => `(tactic| first
  | ((with_reducible show Dl.dS _ _ _ (Stmt.Return (some _) _) _ _ _ _); refine Dl.s_ret ?_)
  | ((with_reducible show Dl.dS _ _ _ (Stmt.Assign [Expr.Tuple [Expr.Name _ _, Expr.Name _ _] _ _] (Expr.Tuple [_, _] _ _) _) _ _ _ _); (refine Dl.s_pr (i := ?stI) (j := ?stJ) ?stA ?stB ?stC ?stD ?stE ?_; (case stA => rfl); (case stB => rfl); (case stC => rfl); (case stD => rfl); (case stE => rfl)))
  | ((with_reducible show Dl.dS _ _ _ (Stmt.If _ _ _ _) _ _ _ _); refine Dl.s_if ?_)
  | ((with_reducible show Dl.dS _ _ _ (Stmt.Assign [Expr.Name _ _] _ _) _ _ _ _); (refine Dl.s_st (i := ?stI) ?stA ?stB ?stC ?_; (case stA => rfl); (case stB => rfl); (case stC => rfl)))
  | ((with_reducible show Dl.dS _ _ _ (Stmt.Expr _ _) _ _ _ _); refine Dl.s_expr ?_)
  | ((with_reducible show Dl.dSs _ _ _ _ _ _ _ _); first | refine Dl.s_cons ?_ | refine Dl.s_nil ?_))
local macro_rules | `(tactic| walk_at "xd") => `(tactic| ((with_reducible show Dl.IxD _ _ _ _ _); first | (refine Dl.x_T (d := ?ixD) ?ixE ?_; (case ixE => rfl)) | (refine Dl.x_L (d := ?ixD) ?ixE ?_; (case ixE => rfl)) | (refine Dl.x_O (d := ?ixD) ?ixE ?_; (case ixE => rfl))))
local macro_rules | `(tactic| walk_at "ds") => `(tactic| (refine Dl.ex_dats (ds := ?dsW) ?dsA ?dsB ?_; (case dsA => rfl); (case dsB => rfl)))
local macro_rules | `(tactic| walk_at "dl") => `(tactic| first
  | walk_at "ds"
  | walk_at "ed"
  | walk_at "ad"
  | walk_at "td"
  | walk_at "od"
  | walk_at "cd"
  | walk_at "sd"
  | walk_at "xd"
  | ((with_reducible refine ⟨_, rfl, fun hc => ?_, fun hc => ?_⟩) <;> (first | contradiction | (exfalso; revert hc; simp [Dl.isTy, Dl.tyD]; done) | skip))
  | ((with_reducible refine ⟨fun hc => ?_, fun hc => ?_⟩) <;> (first | contradiction | (exfalso; revert hc; simp [Dl.isTy, Dl.tyD]; done) | skip))
  | (refine ⟨_, _, rfl, rfl, ?_⟩)
  | (refine ⟨rfl, ?_⟩)
  | (with_reducible refine ⟨_, rfl, ?_⟩)
  | (refine ⟨(_, _), rfl, ?_⟩)
  | (refine ⟨(_, _, _), rfl, ?_⟩)
  | (refine ⟨True.intro, fun _ hs => ?_, fun _ hx => False.elim hx⟩; replace hs : _ = Dl.Sl.dat _ := hs; subst hs)
  | (refine ⟨by assumption, fun _ hs => ?_, fun _ hx => False.elim hx⟩; replace hs : _ = Dl.Sl.dat _ := hs; subst hs)
  | fail)
/-! ### the law's own looking, what is told -/
def wfSpec : Dl.Spec where
  α := Kd × Web
  arg a := [.dat (eKd a.1), .dat (eWb a.2)]
  pre a := WideK a.1 ∧ WebOk a.2
  post a s := s = .dat (optF (webFault a.1 a.2))
section
variable {G : Dl.Gd}
theorem ok_wfault (T : Top G) : Dl.Fn G 3 "_law_fault" wfSpec := by
  have f1 := fr_len T
  have f2 := fr_enumerate T
  have h1 := ok_lpairs T
  have h3 := ok_items_let T
  refine mk__law_fault T (fun _ => rfl) fun cdv M0 ⟨k, w⟩ hp => ?_
  obtain ⟨W, hw⟩ := hp
  dsimp only at W hw
  have w2 := hw.lo
  have w6 := hw.hi
  repeat' walk_at "dl"
  refine Dl.s_forT ((List.range w.cols.length).zip w.cols) (fun q => .tuple [.int (q.1 : Nat), .int q.2]) [2, 3] (fun i M Γ => M = M0 ∧ (∃ g2 g3, Γ = [some (.dat (eKd k)), some (.dat (eWb w)), g2, g3, none, none, none]) ∧ ∀ j, j < i → placeF k w j = none) ?_
  refine Dl.i_enumT rfl f2 ?_
  repeat' walk_at "dl"
  refine ⟨?_, ⟨rfl, ⟨none, none, rfl⟩, fun j hj => by omega⟩, fun i q M Γ hx hI => ?_, fun M Γ hI => ?_⟩
  · rw [List.length_map, Dl.rngT, Dl.pairsT]
    refine List.map_congr_left fun q _ => ?_
    simp
  · obtain ⟨rfl, ⟨g2, g3, rfl⟩, hA⟩ := hI
    obtain ⟨hx1, hx2⟩ : q.1 = i ∧ w.cols[i]? = some q.2 := by
      rw [List.getElem?_zip_eq_some] at hx
      obtain ⟨a1, a2⟩ := hx
      refine ⟨?_, a2⟩
      rw [List.getElem?_range (by exact (List.getElem?_eq_some_iff.mp a2).1)] at a1
      cases a1
      rfl
    obtain ⟨q1, c⟩ := q
    dsimp only at hx1 hx2
    subst hx1
    have hi : q1 < w.cols.length := (List.getElem?_eq_some_iff.mp hx2).1
    have hc0 : colAt w q1 = c := by
      have := (hw.col hi).1
      rw [hx2] at this
      exact (Option.some.inj this).symm
    refine Dl.g_tup (ds := [.int (q1 : Nat), .int c]) (is := [2, 3]) rfl (Dl.gs_cons (is := [2]) (js := [3]) (Dl.g_nm (i := 2) rfl rfl (Dl.gs_cons (is := [3]) (js := []) (Dl.g_nm (i := 3) rfl rfl (Dl.gs_nil ?_)))))
    repeat' walk_at "dl"
    · rename_i hc
      have hc : (k.cols.length : Int) ≤ c := by
        have := of_decide_eq_true hc
        rw [List.length_map] at this
        exact this
      show _ = Dl.Sl.dat (optF (webFault k w))
      unfold webFault
      rw [findS_at (f := placeF k w) (i := q1) (x := q1) (r := (.tuple [.str "place", .int (q1 : Nat)], ("colour" : Str))) (by rw [List.getElem?_range hi]) (fun j y hj hy => ?_) (by unfold placeF; rw [hc0, if_pos hc])]
      · rfl
      have hjn : j < w.cols.length := by omega
      rw [List.getElem?_range hjn] at hy
      cases hy
      exact hA j hj
    · rename_i hc
      have hc : ¬ (k.cols.length : Int) ≤ c := by
        have := of_decide_eq_false hc
        rw [List.length_map] at this
        exact this
      refine ⟨⟨_, _, rfl⟩, fun j hj => ?_⟩
      by_cases q : j = q1
      · rw [q]
        unfold placeF
        rw [hc0, if_neg hc]
      · exact hA j (by omega)
  · obtain ⟨rfl, ⟨g2, g3, rfl⟩, hA⟩ := hI
    have hlen : ((List.range w.cols.length).zip w.cols).length = w.cols.length := by rw [List.length_zip, List.length_range, Nat.min_self]
    have hA' : ∀ j, j < w.cols.length → placeF k w j = none := fun j hj => hA j (by rw [hlen]; exact hj)
    have hcol : ∀ j, j < w.cols.length → colAt w j < (k.cols.length : Nat) := fun j hj => by
      have := hA' j hj
      unfold placeF at this
      split at this
      · cases this
      · omega
    have hP : (List.range w.cols.length).findSome? (placeF k w) = none := findS_none fun j q hq => by
      have hjn : j < w.cols.length := by
        have := (List.getElem?_eq_some_iff.mp hq).1
        rwa [List.length_range] at this
      rw [List.getElem?_range hjn] at hq
      cases hq
      exact hA' j hjn
    have hF : webFault k w = (pairsI w.cols.length).findSome? (pairF k w) := by
      unfold webFault
      rw [hP]
    repeat' walk_at "dl"
    refine Dl.s_forT ((List.range (pairsI w.cols.length).length).zip (pairsI w.cols.length)) (fun q => .tuple [.int (q.1 : Nat), eC q.2]) [4, 5, 6] (fun i M' Γ => M' = M ∧ (∃ g2 g3 g4 g5 g6, Γ = [some (.dat (eKd k)), some (.dat (eWb w)), g2, g3, g4, g5, g6]) ∧ ∀ (j : Nat) (p : Nat × Nat), j < i → (pairsI w.cols.length)[j]? = some p → pairF k w p = none) ?_
    refine Dl.i_enumL rfl f2 ?_
    repeat' walk_at "dl"
    refine ⟨⟨by rw [List.length_map]; omega, by rw [List.length_map]; exact w6⟩, fun s hs => ?_, fun _ h => h.elim⟩
    replace hs : _ = Dl.Sl.dat _ := hs
    rw [List.length_map] at hs
    subst hs
    refine ⟨_, rfl, ?_, ⟨rfl, ⟨_, _, _, _, _, rfl⟩, fun j p h => by omega⟩, fun i q M' Γ hx hI => ?_, fun M' Γ hI => ?_⟩
    · rw [List.length_map, Dl.rngT, Dl.pairsT]
      refine List.map_congr_left fun q _ => ?_
      simp
    · obtain ⟨rfl, ⟨g2, g3, g4, g5, g6, rfl⟩, hB⟩ := hI
      obtain ⟨hx1, hx2⟩ : q.1 = i ∧ (pairsI w.cols.length)[i]? = some q.2 := by
        rw [List.getElem?_zip_eq_some] at hx
        obtain ⟨a1, a2⟩ := hx
        refine ⟨?_, a2⟩
        rw [List.getElem?_range (by exact (List.getElem?_eq_some_iff.mp a2).1)] at a1
        cases a1
        rfl
      obtain ⟨q1, o, u⟩ := q
      dsimp only at hx1 hx2
      subst hx1
      have hil := (List.getElem?_eq_some_iff.mp hx2).1
      obtain ⟨ou, hu⟩ := pair_in _ hw.rng (o, u) (List.mem_of_getElem? hx2)
      dsimp only at ou hu
      have ho : o < w.cols.length := by omega
      have hpx : pix w.cols.length o u = q1 := pair_ix _ hw.rng q1 (List.mem_range.mpr hil) (o, u) hx2
      obtain ⟨c1, c2⟩ := hw.col ho
      obtain ⟨d1, d2⟩ := hw.col hu
      have c3 := hcol _ ho
      have d3 := hcol _ hu
      obtain ⟨e1, e2, e3⟩ := hw.at_ ou hu
      rw [hpx] at e2
      refine Dl.g_tup (ds := [.int (q1 : Nat), eC (o, u)]) (is := [4, 5, 6]) rfl (Dl.gs_cons (is := [4]) (js := [5, 6]) (Dl.g_nm (i := 4) rfl rfl (Dl.gs_cons (is := [5, 6]) (js := []) (Dl.g_tup (ds := [.int (o : Nat), .int (u : Nat)]) (is := [5, 6]) rfl (Dl.gs_cons (is := [5]) (js := [6]) (Dl.g_nm (i := 5) rfl rfl (Dl.gs_cons (is := [6]) (js := []) (Dl.g_nm (i := 6) rfl rfl (Dl.gs_nil (Dl.gs_nil ?_))))))))))
      repeat' walk_at "dl"
      refine Dl.x_T (d := eI (itemAt w o u)) (Dl.atD (by rw [List.getElem?_map, e2]; rfl)) ?_
      repeat' walk_at "dl"
      refine Dl.x_T (d := .int ((colAt w o).toNat : Nat)) (Dl.atD (by rw [List.getElem?_map, c1, Int.toNat_of_nonneg c2]; rfl)) ?_
      repeat' walk_at "dl"
      refine Dl.x_T (d := .int ((colAt w u).toNat : Nat)) (Dl.atD (by rw [List.getElem?_map, d1, Int.toNat_of_nonneg d2]; rfl)) ?_
      repeat' walk_at "dl"
      refine ⟨⟨W, by show (colAt w o).toNat < k.cols.length; omega, by show (colAt w u).toNat < k.cols.length; omega⟩, fun s hs => ?_, fun _ h => h.elim⟩
      obtain ⟨l, pl, rfl⟩ := hs
      have pl : l.Perm (letL k (colAt w o).toNat (colAt w u).toNat) := pl
      refine Dl.o_notInL (sh_itm _).sh (Dl.shN_lst (n := 1) fun d hd => by obtain ⟨y, _, rfl⟩ := List.mem_map.mp hd; exact sh_itm y).sh ?_
      rw [any_itm]
      have hmem : l.contains (itemAt w o u) = decide (itemAt w o u ∈ letL k (colAt w o).toNat (colAt w u).toNat) := by
        rw [Bool.eq_iff_iff, List.contains_iff_mem, decide_eq_true_iff]
        exact pl.mem_iff
      rw [hmem]
      have hpf : ∀ b, decide (itemAt w o u ∈ letL k (colAt w o).toNat (colAt w u).toNat) = b → pairF k w (o, u) = if b then none else some (.tuple [.str "pair", .int (o : Nat), .int (u : Nat)], ("item" : Str)) := fun b e => by
        unfold pairF
        dsimp only
        cases b with
        | true => rw [if_pos (of_decide_eq_true e)]; rfl
        | false => rw [if_neg (of_decide_eq_false e)]; rfl
      refine ⟨_, rfl, fun hc => ?_, fun hc => ?_⟩
      · have hp := hpf false (by simpa using hc)
        repeat' walk_at "dl"
        show _ = Dl.Sl.dat (optF (webFault k w))
        rw [hF, findS_at hx2 (fun j y hj hy => hB j y hj hy) hp]
        rfl
      · have hp := hpf true (by simpa using hc)
        repeat' walk_at "dl"
        refine ⟨⟨_, _, _, _, _, rfl⟩, fun j p hj hy => ?_⟩
        by_cases e : j = q1
        · subst e
          rw [hx2] at hy
          cases hy
          exact hp
        · exact hB j p (by omega) hy
    · obtain ⟨rfl, ⟨g2, g3, g4, g5, g6, rfl⟩, hB⟩ := hI
      have hl2 : ((List.range (pairsI w.cols.length).length).zip (pairsI w.cols.length)).length = (pairsI w.cols.length).length := by rw [List.length_zip, List.length_range, Nat.min_self]
      repeat' walk_at "dl"
      show _ = Dl.Sl.dat (optF (webFault k w))
      rw [hF, findS_none fun j p hp => hB j p (by rw [hl2]; exact (List.getElem?_eq_some_iff.mp hp).1) hp]
      rfl
end
/-! ### what is told of webs -/
def toldW (k : Kd) (w : Web) : PyData := match webFault k w with
  | none => .tuple [.str "right", eWb w]
  | some (wh, f) => .tuple [.str "fault", .tuple [wh, .str f]]
def toldWSpec : Dl.Spec where
  α := Kd × Web
  arg a := [.dat (eKd a.1), .dat (eWb a.2)]
  pre a := WideK a.1 ∧ WebOk a.2
  post a s := s = .dat (toldW a.1 a.2)
def toldBSpec : Dl.Spec where
  α := Kd × PyData
  arg a := [.dat (eKd a.1), .dat a.2]
  pre a := WideK a.1 ∧ WebP a.2 false
  post _ s := s = .dat (.tuple [.str "Nothing"])
section
variable {G : Dl.Gd}
theorem ok_toldW (T : Top G) (X : Ext G) : Dl.Fn G 14 "_law_told" toldWSpec := by
  have h1 := ok_checked_web T X
  refine mk__law_told T (fun _ => rfl) fun cdv M0 ⟨k, w⟩ hp => ?_
  obtain ⟨W, hw⟩ := hp
  dsimp only at W hw
  refine Dl.s_cons (Dl.s_tell (p17 := ⟨0, 0, 0, 0⟩) (i := 2) (Ex1 := fun x => ∃ wh f, webFault k w = some (wh, f) ∧ x = faultX "BadWeb" wh f) X.tellW rfl rfl rfl rfl rfl ?_ (fun x hx => ?_))
  · repeat' walk_at "dl"
    refine ⟨⟨W.ok, W.none, hw⟩, fun s hs => ?_, fun x hx => hx⟩
    obtain ⟨e, rfl⟩ := hs
    repeat' walk_at "dl"
    show _ = Dl.Sl.dat (toldW k w)
    unfold toldW
    have e : webFault k w = none := e
    rw [e]
  · obtain ⟨wh, f, e, rfl⟩ := hx
    refine Or.inl ⟨wh, .str f, rfl, ?_⟩
    show _ = Dl.Sl.dat (toldW k w)
    unfold toldW
    rw [e]
theorem ok_toldB (T : Top G) (X : Ext G) : Dl.Fn G 14 "_law_told" toldBSpec := by
  have h1 := ok_checked_webB T X
  refine mk__law_told T (fun _ => rfl) fun cdv M0 ⟨k, d⟩ hp => ?_
  obtain ⟨W, hw⟩ := hp
  dsimp only at W hw
  refine Dl.s_cons (Dl.s_tell (p17 := ⟨0, 0, 0, 0⟩) (i := 2) (Ex1 := fun x => x = ⟨"Nothing", []⟩) X.tellW rfl rfl rfl rfl rfl ?_ (fun x hx => ?_))
  · repeat' walk_at "dl"
    exact ⟨⟨W.ok, W.none, hw⟩, fun s hs => False.elim hs, fun x hx => hx⟩
  · exact Or.inr ⟨hx, rfl⟩
end
end K76
set_option Elab.async false
set_option linter.all false
set_option maxRecDepth 100000
set_option maxHeartbeats 4000000
set_option autoImplicit false
namespace K76
open PySem PySem.Spec PyProof.Rows L2
local macro_rules | `(tactic| walk_at "nm") => `(tactic| (refine Dl.d_nm (s := ?nmS) ?nmA ?nmB ?_; (case nmA => rfl); (case nmB => rfl)))
local macro_rules | `(tactic| walk_at "fr") => `(tactic| first | assumption)
local macro_rules | `(tactic| walk_at "name") => `(tactic| first
  | walk_at "nm"
  | ((with_reducible show Dl.dE _ _ (Expr.Name "int" _) _ _ _); refine Dl.d_t_int ?frA ?frB ?_; (case frA => walk_at "fr"); (case frB => rfl))
  | ((with_reducible show Dl.dE _ _ (Expr.Name "tuple" _) _ _ _); refine Dl.d_t_tuple ?frA ?frB ?_; (case frA => walk_at "fr"); (case frB => rfl))
  | ((with_reducible show Dl.dE _ _ (Expr.Name "list" _) _ _ _); refine Dl.d_t_list ?frA ?frB ?_; (case frA => walk_at "fr"); (case frB => rfl))
  | ((with_reducible show Dl.dE _ _ (Expr.Name "str" _) _ _ _); refine Dl.d_t_str ?frA ?frB ?_; (case frA => walk_at "fr"); (case frB => rfl))
  | ((with_reducible show Dl.dE _ _ (Expr.Name "bool" _) _ _ _); refine Dl.d_t_bool ?frA ?frB ?_; (case frA => walk_at "fr"); (case frB => rfl))
  | ((with_reducible show Dl.dE _ _ (Expr.Name "set" _) _ _ _); refine Dl.d_t_set ?frA ?frB ?_; (case frA => walk_at "fr"); (case frB => rfl))
  | walk_at "glob")
local macro_rules | `(tactic| walk_at "glob") => `(tactic| first
  | (refine Dl.d_globInt (i := ?gI) ?gA ?gB ?_; (case gA => rfl); (case gB => assumption))
  | (refine Dl.d_globStr (i := ?gI) ?gA ?gB ?_; (case gA => rfl); (case gB => assumption)))
local macro_rules | `(tactic| walk_at "call") => `(tactic| first
  | ((with_reducible show Dl.dE _ _ (Expr.Call (Expr.Name "isinstance" _) _ _ _) _ _ _); refine Dl.d_b_isinstance ?frA ?frB ?_; (case frA => walk_at "fr"); (case frB => rfl))
  | ((with_reducible show Dl.dE _ _ (Expr.Call (Expr.Name "len" _) _ _ _) _ _ _); refine Dl.d_b_len ?frA ?frB ?_; (case frA => walk_at "fr"); (case frB => rfl))
  | ((with_reducible show Dl.dE _ _ (Expr.Call (Expr.Name "all" _) _ _ _) _ _ _); refine Dl.d_b_all ?frA ?frB ?_; (case frA => walk_at "fr"); (case frB => rfl))
  | ((with_reducible show Dl.dE _ _ (Expr.Call (Expr.Name "any" _) _ _ _) _ _ _); refine Dl.d_b_any ?frA ?frB ?_; (case frA => walk_at "fr"); (case frB => rfl))
  | ((with_reducible show Dl.dE _ _ (Expr.Call (Expr.Name "abs" _) _ _ _) _ _ _); refine Dl.d_b_abs ?frA ?frB ?_; (case frA => walk_at "fr"); (case frB => rfl))
  | ((with_reducible show Dl.dE _ _ (Expr.Call (Expr.Name "sum" _) _ _ _) _ _ _); refine Dl.d_b_sum ?frA ?frB ?_; (case frA => walk_at "fr"); (case frB => rfl))
  | ((with_reducible show Dl.dE _ _ (Expr.Call (Expr.Name "min" _) _ _ _) _ _ _); refine Dl.d_b_min ?frA ?frB ?_; (case frA => walk_at "fr"); (case frB => rfl))
  | ((with_reducible show Dl.dE _ _ (Expr.Call (Expr.Name "max" _) _ _ _) _ _ _); refine Dl.d_b_max ?frA ?frB ?_; (case frA => walk_at "fr"); (case frB => rfl))
  | ((with_reducible show Dl.dE _ _ (Expr.Call (Expr.Name "sorted" _) _ _ _) _ _ _); refine Dl.d_b_sorted ?frA ?frB ?_; (case frA => walk_at "fr"); (case frB => rfl))
  | ((with_reducible show Dl.dE _ _ (Expr.Call (Expr.Name "int" _) _ _ _) _ _ _); refine Dl.d_c_int ?frA ?frB ?_; (case frA => walk_at "fr"); (case frB => rfl))
  | ((with_reducible show Dl.dE _ _ (Expr.Call (Expr.Name "tuple" _) _ _ _) _ _ _); refine Dl.d_c_tuple ?frA ?frB ?_; (case frA => walk_at "fr"); (case frB => rfl))
  | ((with_reducible show Dl.dE _ _ (Expr.Call (Expr.Name "list" _) _ _ _) _ _ _); refine Dl.d_c_list ?frA ?frB ?_; (case frA => walk_at "fr"); (case frB => rfl))
  | ((with_reducible show Dl.dE _ _ (Expr.Call (Expr.Name "str" _) _ _ _) _ _ _); refine Dl.d_c_str ?frA ?frB ?_; (case frA => walk_at "fr"); (case frB => rfl))
  | ((with_reducible show Dl.dE _ _ (Expr.Call (Expr.Name "bool" _) _ _ _) _ _ _); refine Dl.d_c_bool ?frA ?frB ?_; (case frA => walk_at "fr"); (case frB => rfl))
  | ((with_reducible show Dl.dE _ _ (Expr.Call (Expr.Name "set" _) _ _ _) _ _ _); refine Dl.d_c_set ?frA ?frB ?_; (case frA => walk_at "fr"); (case frB => rfl))
  | (refine Dl.d_fn (j := ?fnJ) (S := ?fnS) ?fnA ?fnB ?fnC ?_; (case fnA => assumption); (case fnB => exact Nat.le_of_ble_eq_true rfl); (case fnC => rfl)))
local macro_rules | `(tactic| walk_at "ed") => `(tactic| ((with_reducible show Dl.dE _ _ _ _ _ _); first
  | ((with_reducible show Dl.dE _ _ (Expr.Name _ _) _ _ _); walk_at "name")
  | ((with_reducible show Dl.dE _ _ (Expr.Constant (Const.int _) _ _) _ _ _); refine Dl.d_int ?_)
  | ((with_reducible show Dl.dE _ _ (Expr.Constant (Const.str _) _ _) _ _ _); refine Dl.d_str ?_)
  | ((with_reducible show Dl.dE _ _ (Expr.Constant (Const.bool _) _ _) _ _ _); refine Dl.d_bool ?_)
  | ((with_reducible show Dl.dE _ _ (Expr.Constant Const.none _ _) _ _ _); refine Dl.d_none ?_)
  | ((with_reducible show Dl.dE _ _ (Expr.Call (Expr.Name _ _) [_, Expr.Tuple [Expr.Name _ _, Expr.Name _ _] _ _] _ _) _ _ _); (refine Dl.d_isi2 ?frA ?frB ?frC ?frD ?frE ?frF ?_; (case frA => walk_at "fr"); (case frB => walk_at "fr"); (case frC => walk_at "fr"); (case frD => rfl); (case frE => rfl); (case frF => rfl)))
  | ((with_reducible show Dl.dE _ _ (Expr.Call (Expr.Name _ _) _ _ _) _ _ _); walk_at "call")
  | ((with_reducible show Dl.dE _ _ (Expr.BoolOp _ [_] _) _ _ _); refine Dl.d_one ?_)
  | ((with_reducible show Dl.dE _ _ (Expr.BoolOp BoolOp.And _ _) _ _ _); refine Dl.d_and ?_)
  | ((with_reducible show Dl.dE _ _ (Expr.BoolOp BoolOp.Or _ _) _ _ _); refine Dl.d_or ?_)
  | ((with_reducible show Dl.dE _ _ (Expr.UnaryOp UnaryOp.Not _ _) _ _ _); refine Dl.d_not ?_)
  | ((with_reducible show Dl.dE _ _ (Expr.UnaryOp UnaryOp.USub _ _) _ _ _); refine Dl.d_neg ?_)
  | ((with_reducible show Dl.dE _ _ (Expr.BinOp _ _ _ _) _ _ _); refine Dl.d_bin ?_)
  | ((with_reducible show Dl.dE _ _ (Expr.Compare _ [_] _ _) _ _ _); refine Dl.d_cmp ?_)
  | ((with_reducible show Dl.dE _ _ (Expr.Compare _ [_, _] _ _) _ _ _); refine Dl.d_chain ?_)
  | ((with_reducible show Dl.dE _ _ (Expr.IfExp _ _ _ _) _ _ _); refine Dl.d_if ?_)
  | ((with_reducible show Dl.dE _ _ (Expr.Tuple _ _ _) _ _ _); refine Dl.d_tup ?_)
  | ((with_reducible show Dl.dE _ _ (Expr.List _ _) _ _ _); refine Dl.d_lst ?_)
  | ((with_reducible show Dl.dE _ _ (Expr.Subscript _ (Expr.Slice _ _ _ _) _) _ _ _); refine Dl.d_slice ?_)
  | ((with_reducible show Dl.dE _ _ (Expr.Subscript _ _ _) _ _ _); refine Dl.d_ix ?_)))
local macro_rules | `(tactic| walk_at "ad") => `(tactic| ((with_reducible show Dl.dA _ _ _ _ _ _); first | refine Dl.a_nil ?_ | refine Dl.a_cons ?_))
local macro_rules | `(tactic| walk_at "td") => `(tactic| first
  | ((with_reducible show Dl.dT _ _ (Expr.UnaryOp UnaryOp.Not _ _) _ _ _); refine Dl.t_not ?_)
  | ((with_reducible show Dl.dT _ _ (Expr.BoolOp _ _ _) _ _ _); refine Dl.t_bool ?_)
  | ((with_reducible show Dl.dT _ _ (Expr.Compare _ [_] _ _) _ _ _); refine Dl.t_cmp ?_)
  | ((with_reducible show Dl.dT _ _ (Expr.Compare _ [_, _] _ _) _ _ _); refine Dl.t_chain ?_)
  | ((with_reducible show Dl.dT _ _ (_) _ _ _); refine Dl.t_val ?_)
  | ((with_reducible show Dl.dW _ _ (Expr.BoolOp BoolOp.And [_] _) _ _ _); refine Dl.w_and1 ?_)
  | ((with_reducible show Dl.dW _ _ (Expr.BoolOp BoolOp.Or [_] _) _ _ _); refine Dl.w_or1 ?_)
  | ((with_reducible show Dl.dW _ _ (Expr.BoolOp BoolOp.And _ _) _ _ _); refine Dl.w_and ?_)
  | ((with_reducible show Dl.dW _ _ (Expr.BoolOp BoolOp.Or _ _) _ _ _); refine Dl.w_or ?_))
local macro_rules | `(tactic| walk_at "od") => `(tactic| ((with_reducible show Dl.OpD _ _ _ _ _ _); first
  | refine Dl.o_add ?_ | refine Dl.o_sub ?_ | refine Dl.o_lt ?_ | refine Dl.o_le ?_ | refine Dl.o_gt ?_ | refine Dl.o_ge ?_ | refine Dl.o_eq ?_ | refine Dl.o_ne ?_ | refine Dl.o_eqS ?_ | refine Dl.o_mul ?_ ?_ | refine Dl.o_mod ?_ ?_ | refine Dl.o_fdivW ?_ ?_ | refine Dl.o_inS ?_ | refine Dl.o_notInS ?_
  | refine Dl.o_isN ?_ | refine Dl.o_notN ?_))
local macro_rules | `(tactic| walk_at "cd") => `(tactic| ((with_reducible show Dl.CallD _ _ _ _ _); first
  | refine Dl.c_lenT ?_ | refine Dl.c_lenL ?_ | refine Dl.c_lenO ?_ | refine Dl.c_abs ?_ | refine Dl.c_int ?_ | refine Dl.c_lenS ?_ ?_ | refine Dl.c_allT ?_
  | refine Dl.c_isInt ?_ | refine Dl.c_isBool ?_ | refine Dl.c_isStr ?_ | refine Dl.c_isTuple ?_ | refine Dl.c_isList ?_
  | refine Dl.c_allF ?_ | refine Dl.c_tupL ?_ | refine Dl.c_tupT ?_))
local macro_rules | `(tactic| walk_at "sd") => `(tactic| first
  | ((with_reducible show Dl.dS _ _ _ (Stmt.Return (some _) _) _ _ _ _); refine Dl.s_ret ?_)
  | ((with_reducible show Dl.dS _ _ _ (Stmt.Assign [Expr.Tuple [Expr.Name _ _, Expr.Name _ _] _ _] (Expr.Tuple [_, _] _ _) _) _ _ _ _); (refine Dl.s_pr (i := ?stI) (j := ?stJ) ?stA ?stB ?stC ?stD ?stE ?_; (case stA => rfl); (case stB => rfl); (case stC => rfl); (case stD => rfl); (case stE => rfl)))
  | ((with_reducible show Dl.dS _ _ _ (Stmt.If _ _ _ _) _ _ _ _); refine Dl.s_if ?_)
  | ((with_reducible show Dl.dS _ _ _ (Stmt.Assign [Expr.Name _ _] _ _) _ _ _ _); (refine Dl.s_st (i := ?stI) ?stA ?stB ?stC ?_; (case stA => rfl); (case stB => rfl); (case stC => rfl)))
  | ((with_reducible show Dl.dS _ _ _ (Stmt.Expr _ _) _ _ _ _); refine Dl.s_expr ?_)
  | ((with_reducible show Dl.dSs _ _ _ _ _ _ _ _); first | refine Dl.s_cons ?_ | refine Dl.s_nil ?_))
local macro_rules | `(tactic| walk_at "xd") => `(tactic| ((with_reducible show Dl.IxD _ _ _ _ _); first | (refine Dl.x_T (d := ?ixD) ?ixE ?_; (case ixE => rfl)) | (refine Dl.x_L (d := ?ixD) ?ixE ?_; (case ixE => rfl)) | (refine Dl.x_O (d := ?ixD) ?ixE ?_; (case ixE => rfl))))
local macro_rules | `(tactic| walk_at "ds") => `(tactic| (refine Dl.ex_dats (ds := ?dsW) ?dsA ?dsB ?_; (case dsA => rfl); (case dsB => rfl)))
local macro_rules | `(tactic| walk_at "dl") => `(tactic| first
  | walk_at "ds"
  | walk_at "ed"
  | walk_at "ad"
  | walk_at "td"
  | walk_at "od"
  | walk_at "cd"
  | walk_at "sd"
  | walk_at "xd"
  | ((with_reducible refine ⟨_, rfl, fun hc => ?_, fun hc => ?_⟩) <;> (first | contradiction | (exfalso; revert hc; simp [Dl.isTy, Dl.tyD]; done) | skip))
  | ((with_reducible refine ⟨fun hc => ?_, fun hc => ?_⟩) <;> (first | contradiction | (exfalso; revert hc; simp [Dl.isTy, Dl.tyD]; done) | skip))
  | (refine ⟨_, _, rfl, rfl, ?_⟩)
  | (refine ⟨rfl, ?_⟩)
  | (with_reducible refine ⟨_, rfl, ?_⟩)
  | (refine ⟨(_, _), rfl, ?_⟩)
  | (refine ⟨(_, _, _), rfl, ?_⟩)
  | (refine ⟨True.intro, fun _ hs => ?_, fun _ hx => False.elim hx⟩; replace hs : _ = Dl.Sl.dat _ := hs; subst hs)
  | (refine ⟨by assumption, fun _ hs => ?_, fun _ hx => False.elim hx⟩; replace hs : _ = Dl.Sl.dat _ := hs; subst hs)
  | fail)
local macro_rules | `(tactic| walk_at "dl") => `(tactic| ((with_reducible show Dl.dE _ _ (Expr.Subscript _ (Expr.Slice none none (some _) _) _) _ _ _); refine Dl.d_rev ?_))
/-! ### the law's turns -/
theorem tell_itm (x : Itm) : Tell 1 (eI x) := tell_tup fun d hd => by
  obtain ⟨n, _, rfl⟩ := List.mem_map.mp hd
  exact tell_int n 0
theorem tell_web (w : Web) : Tell 3 (eWb w) := tell_2 ((tell_tup (n := 0) fun d hd => by
  obtain ⟨n, _, rfl⟩ := List.mem_map.mp hd
  exact tell_int n 0).le (by decide)) (tell_tup fun d hd => by
  obtain ⟨x, _, rfl⟩ := List.mem_map.mp hd
  exact tell_itm x)
theorem web_fault_in {k : Kd} {w : Web} {wh : PyData} {f : Str} (h : webFault k w = some (wh, f)) : Tell 1 wh ∧ Tell 0 (.str f) := by
  unfold webFault at h
  split at h
  · rename_i r e
    cases h
    obtain ⟨i, _, e2⟩ := List.exists_of_findSome?_eq_some e
    unfold placeF at e2
    split at e2
    · cases e2
      exact ⟨tell_2 (tell_str (by decide +kernel) 0) (tell_int _ 0), tell_str (by decide +kernel) 0⟩
    · cases e2
  · obtain ⟨p, _, e2⟩ := List.exists_of_findSome?_eq_some h
    unfold pairF at e2
    split at e2
    · cases e2
    · cases e2
      refine ⟨tell_tup fun d hd => ?_, tell_str (by decide +kernel) 0⟩
      rcases List.mem_cons.mp hd with rfl | hd
      · exact tell_str (by decide +kernel) 0
      rcases List.mem_cons.mp hd with rfl | hd
      · exact tell_int _ 0
      · rw [List.mem_singleton.mp hd]; exact tell_int _ 0
theorem tell_toldW (k : Kd) (w : Web) : Tell 4 (toldW k w) := by
  unfold toldW
  cases e : webFault k w with
  | none => exact tell_2 (tell_str (by decide +kernel) 3) (tell_web w)
  | some r =>
    obtain ⟨wh, f⟩ := r
    obtain ⟨h1, h2⟩ := web_fault_in e
    exact (tell_2 (tell_str (by decide +kernel) 2) (tell_2 h1 (h2.le (by decide)))).le (by decide)
theorem web_right {k : Kd} {n : Nat} {w : Web} (h : WebN k n w) : webFault k w = none := by
  unfold webFault
  rw [findS_none fun j i hj => ?_]
  · dsimp only
    refine findS_none fun j p hp => ?_
    have hin := pair_in _ h.ok.rng p (List.mem_of_getElem? hp)
    unfold pairF
    rw [if_pos (h.itm p.1 p.2 hin.1 (by rw [← h.len]; exact hin.2))]
  · have hjn : j < w.cols.length := by
      have := (List.getElem?_eq_some_iff.mp hj).1
      rwa [List.length_range] at this
    rw [List.getElem?_range hjn] at hj
    cases hj
    unfold placeF
    rw [if_neg]
    have := h.col _ (List.mem_of_getElem? (h.ok.col hjn).1)
    omega
theorem webP_short {c : List Int} {its : List Itm} (h10 : c.length ≤ 10) (hc : ∀ z ∈ c, 0 ≤ z) (hi : ∀ x ∈ its, ItmOk x) (h : (its.length : Int) ≠ c.length * ((c.length : Int) - 1) / 2) : WebP (.tuple [.tuple (c.map .int), .tuple (its.map eI)]) false := by
  have a := WebP.good c its h10 hc hi
  rw [decide_eq_false h, Bool.and_false] at a
  exact a
theorem WebOk.setC {w : Web} (h : WebOk w) {p : Nat} {z : Int} (hz : 0 ≤ z) : WebOk ⟨w.cols.set p z, w.items⟩ := by
  refine ⟨by show 2 ≤ (w.cols.set p z).length; rw [List.length_set]; exact h.lo, by show (w.cols.set p z).length ≤ 6; rw [List.length_set]; exact h.hi, fun c hc => ?_, h.itm, by show w.items.length = (pairsI (w.cols.set p z).length).length; rw [List.length_set]; exact h.len⟩
  rcases List.mem_or_eq_of_mem_set hc with e | e
  · exact h.pos c e
  · rw [e]; exact hz
theorem WebOk.setI {w : Web} (h : WebOk w) {a : Nat} {x : Itm} (hx : ItmOk x) : WebOk ⟨w.cols, w.items.set a x⟩ := by
  refine ⟨h.lo, h.hi, h.pos, fun y hy => ?_, by show (w.items.set a x).length = _; rw [List.length_set]; exact h.len⟩
  rcases List.mem_or_eq_of_mem_set hy with e | e
  · exact h.itm y e
  · rw [e]; exact hx
theorem WebOk.rev {w : Web} (h : WebOk w) : WebOk ⟨w.cols.reverse, w.items⟩ :=
  ⟨by show 2 ≤ w.cols.reverse.length; rw [List.length_reverse]; exact h.lo, by show w.cols.reverse.length ≤ 6; rw [List.length_reverse]; exact h.hi, fun c hc => h.pos c (List.mem_reverse.mp hc), h.itm, by show w.items.length = (pairsI w.cols.reverse.length).length; rw [List.length_reverse]; exact h.len⟩
/-- what is no web -/
def badL (w : Web) : List PyData := [.none, .tuple [], .tuple [.tuple (w.cols.map .int), .tuple ((w.items.map eI).drop 1)], .tuple [.tuple (w.cols.map .int), .tuple (w.items.map eI ++ (w.items.map eI).take 1)], .tuple [.tuple ((w.cols.map .int).drop 1), .tuple (w.items.map eI)],
  .tuple [.tuple (w.cols.map .int), .list (w.items.map eI)], .tuple [.tuple (w.cols.map .int), .tuple (w.items.map eI), .tuple []], .tuple [.tuple [], .tuple []]]
theorem bad_all {w : Web} (h : WebOk w) : ∀ d ∈ badL w, WebP d false := by
  have h2 := h.lo
  have h6 := h.hi
  have hl := h.len
  rw [(pair_len _ h.rng).1] at hl
  have hn : w.cols.length = 2 ∨ w.cols.length = 3 ∨ w.cols.length = 4 ∨ w.cols.length = 5 ∨ w.cols.length = 6 := by omega
  intro d hd
  unfold badL at hd
  rcases List.mem_cons.mp hd with rfl | hd
  · exact .non
  rcases List.mem_cons.mp hd with rfl | hd
  · exact .sz _ (by decide)
  rcases List.mem_cons.mp hd with rfl | hd
  · rw [← List.map_drop]
    refine webP_short (by omega) h.pos (fun x hx => h.itm x (List.mem_of_mem_drop hx)) ?_
    rw [List.length_drop, hl]
    rcases hn with e | e | e | e | e <;> rw [e] <;> decide
  rcases List.mem_cons.mp hd with rfl | hd
  · rw [← List.map_take, ← List.map_append]
    refine webP_short (by omega) h.pos (fun x hx => ?_) ?_
    · rcases List.mem_append.mp hx with hx | hx
      · exact h.itm x hx
      · exact h.itm x (List.mem_of_mem_take hx)
    · rw [List.length_append, List.length_take, hl]
      rcases hn with e | e | e | e | e <;> rw [e] <;> decide
  rcases List.mem_cons.mp hd with rfl | hd
  · rw [← List.map_drop]
    refine webP_short (by rw [List.length_drop]; omega) (fun z hz => h.pos z (List.mem_of_mem_drop hz)) h.itm ?_
    rw [List.length_drop, hl]
    rcases hn with e | e | e | e | e <;> rw [e] <;> decide
  rcases List.mem_cons.mp hd with rfl | hd
  · exact .lst _ _ (fun z => by rw [z] at h2; simp at h2) h.pos
  rcases List.mem_cons.mp hd with rfl | hd
  · exact .sz _ (by simp)
  · rw [List.mem_singleton.mp hd]
    exact WebP.good [] [] (by decide) (fun z hz => by cases hz) (fun z hz => by cases hz)
section
variable {G : Dl.Gd}
theorem ok_rest (T : Top G) (X : Ext G) (cdv : Value) : Dl.dSs (G.fn N_law (defScope s_law) 15 "law" cdv) [G.W.b] [G.W.b] ((defBody s_law).drop 1) [none, some .bag, none, none, none, none, none, none, none, none, none, none, none] (fun _ => False) (fun s => s = .dat (.bool true)) (fun _ _ => False) := by
  have f1 := fr_range T
  have f2 := fr_len T
  have f3 := fr_list T
  have h1 := ok_take T
  have h2 := ok_wide_kind T
  have h3 := ok_lweb T
  have h4 := ok_toldW T X
  have h5 := ok_wfault T
  have h6 := ok_put T
  have h7 := ok_some T
  have h8 := ok_lmirror T
  have h9 := ok_all_items T
  refine Dl.s_cons (Dl.s_forT (List.range 8) (fun i : Nat => .int (i : Nat)) [2] (fun i M Γ => M = [G.W.b] ∧ ∃ g2 g3 g4 g5 g6 g7 g8 g9 g10 g11, Γ = [none, some .bag, g2, g3, g4, g5, g6, g7, g8, g9, g10, g11, none]) ?_)
  refine Dl.i_rng1 rfl f1 (Dl.d_int ⟨_, rfl, by decide, by decide, rfl, ⟨rfl, none, none, none, none, none, none, none, none, none, none, rfl⟩, fun i t M Γ hx hI => ?_, fun M Γ hI => ?_⟩)
  · obtain ⟨rfl, g2, g3, g4, g5, g6, g7, g8, g9, g10, g11, rfl⟩ := hI
    refine Dl.g_nm (i := 2) rfl rfl ?_
    refine Dl.s_cons (Dl.s_st (i := 3) rfl rfl rfl ?_)
    repeat' walk_at "dl"
    refine ⟨⟨by decide, by decide⟩, fun s hs => ?_, fun _ h => h.elim⟩
    obtain ⟨c, hc, rfl⟩ := hs
    have hc : c < 2 := hc
    repeat' walk_at "dl"
    refine ⟨by show (2 : Int) + c = 2 ∨ (2 : Int) + c = 3; omega, fun s hs => ?_, fun _ h => h.elim⟩
    obtain ⟨k, W, rfl⟩ := hs
    refine ⟨rfl, ?_⟩
    refine Dl.s_cons (Dl.s_st (i := 4) rfl rfl rfl ?_)
    repeat' walk_at "dl"
    refine ⟨⟨by decide, by decide⟩, fun s hs => ?_, fun _ h => h.elim⟩
    obtain ⟨c2, hc2, rfl⟩ := hs
    have hc2 : c2 < 5 := hc2
    repeat' walk_at "dl"
    refine ⟨⟨W, by show 2 ≤ 2 + c2; omega, by show 2 + c2 ≤ 6; omega⟩, fun s hs => ?_, fun _ h => h.elim⟩
    obtain ⟨w, hw, rfl⟩ := hs
    have hwn : webFault k w = none := web_right hw
    have hw := hw.ok
    refine ⟨rfl, ?_⟩
    repeat' walk_at "dl"
    refine ⟨⟨W, hw⟩, fun s hs => ?_, fun _ h => h.elim⟩
    replace hs : s = .dat (toldW k w) := hs
    have tk : toldW k w = .tuple [.str "right", eWb w] := by unfold toldW; rw [hwn]
    have tt := tell_toldW k w
    rw [tk] at hs tt
    subst hs
    repeat' walk_at "dl"
    refine Dl.o_neD tt.2.sh tt.2.sh ?_
    rw [tt.refl]
    refine ⟨false, rfl, fun h => (by cases h), fun _ => ?_⟩
    repeat' walk_at "dl"
    refine Dl.s_for [6] (Dl.i_rng1 rfl f1 ?_)
    repeat' walk_at "dl"
    refine ⟨⟨by decide, by decide⟩, fun s hs => ?_, fun _ h => h.elim⟩
    obtain ⟨c3, hc3, rfl⟩ := hs
    have hc3 : c3 < 3 := hc3
    repeat' walk_at "dl"
    refine ⟨by omega, by omega, fun _ M Γ => M = [G.W.b] ∧ ∃ (w2 : Web) (g6 g7 g8 g9 : Option Dl.Sl), WebOk w2 ∧ Γ = [none, some .bag, some (.dat (.int (t : Nat))), some (.dat (eKd k)), some (.dat (eWb w)), some (.dat (eWb w2)), g6, g7, g8, g9, g10, g11, none], ⟨rfl, w, _, _, _, _, hw, rfl⟩, fun i d M Γ hd hI => ?_, fun M Γ hI => ?_⟩
    · obtain ⟨rfl, w2, g6, g7, g8, g9, hw2, rfl⟩ := hI
      refine Dl.g_nm (i := 6) rfl rfl ?_
      repeat' walk_at "dl"
      have l1 := (pair_len _ hw2.rng).2
      have l2 := hw2.len
      have l3 := hw2.lo
      have l4 := hw2.hi
      have l5 : 1 ≤ w2.items.length := by
        rw [l2, (pair_len _ hw2.rng).1]
        have : w2.cols.length = 2 ∨ w2.cols.length = 3 ∨ w2.cols.length = 4 ∨ w2.cols.length = 5 ∨ w2.cols.length = 6 := by omega
        rcases this with e | e | e | e | e <;> rw [e] <;> decide
      obtain ⟨b1, b2, b3, b4, b5, b6, b7⟩ := W.ok
      refine ⟨⟨by rw [List.length_map]; omega, by rw [List.length_map]; omega⟩, fun s hs => ?_, fun _ h => h.elim⟩
      obtain ⟨a, ha, rfl⟩ := hs
      rw [List.length_map] at ha
      repeat' walk_at "dl"
      refine ⟨⟨by rw [List.length_map]; omega, by rw [List.length_map]; omega⟩, fun s hs => ?_, fun _ h => h.elim⟩
      obtain ⟨p, hp, rfl⟩ := hs
      rw [List.length_map] at hp
      repeat' walk_at "dl"
      refine ⟨⟨by decide, by decide⟩, fun s hs => ?_, fun _ h => h.elim⟩
      obtain ⟨y, hy, rfl⟩ := hs
      refine ⟨rfl, ?_⟩
      have hat : w2.items[a]? = some w2.items[a] := List.getElem?_eq_getElem ha
      have hao := hw2.itm _ (List.getElem_mem ha)
      generalize w2.items[a] = x0 at hat hao
      repeat' walk_at "dl"
      · refine ⟨⟨by simp, Nat.le_of_ble_eq_true rfl⟩, fun s hs => ?_, fun _ h => h.elim⟩
        obtain ⟨d, hd, rfl⟩ := hs
        obtain ⟨z, hz, rfl⟩ : ∃ z : Int, 0 ≤ z ∧ d = .int z := by
          have hd : d ∈ [PyData.int ((k.cols.map eCol).length : Nat), .int 0, .int 7, .int (((k.cols.map eCol).length : Nat) - 1)] := hd
          rw [List.length_map] at hd
          rcases List.mem_cons.mp hd with rfl | hd
          · exact ⟨_, by omega, rfl⟩
          rcases List.mem_cons.mp hd with rfl | hd
          · exact ⟨_, by decide, rfl⟩
          rcases List.mem_cons.mp hd with rfl | hd
          · exact ⟨_, by decide, rfl⟩
          · exact ⟨_, by omega, List.mem_singleton.mp hd⟩
        repeat' walk_at "dl"
        refine ⟨⟨by show p < (w2.cols.map PyData.int).length; rw [List.length_map]; exact hp, by show (w2.cols.map PyData.int).length ≤ 1000; rw [List.length_map]; omega⟩, fun s hs => ?_, fun _ h => h.elim⟩
        replace hs : s = .dat (.tuple ((w2.cols.map PyData.int).set p (.int z))) := hs
        rw [← List.map_set] at hs
        subst hs
        repeat' walk_at "dl"
        exact ⟨⟨w2.cols.set p z, w2.items⟩, _, _, _, _, hw2.setC hz, rfl⟩
      · refine Dl.x_T (d := eI x0) (Dl.atD (by rw [List.getElem?_map, hat]; rfl)) ?_
        repeat' walk_at "dl"
        refine ⟨⟨b4, hao⟩, fun s hs => ?_, fun _ h => h.elim⟩
        replace hs : _ = Dl.Sl.dat _ := hs
        subst hs
        repeat' walk_at "dl"
        refine ⟨⟨by show a < (w2.items.map eI).length; rw [List.length_map]; exact ha, by show (w2.items.map eI).length ≤ 1000; rw [List.length_map]; omega⟩, fun s hs => ?_, fun _ h => h.elim⟩
        replace hs : s = .dat (.tuple ((w2.items.map eI).set a (eI (mirrorI k.ties x0)))) := hs
        rw [← List.map_set] at hs
        subst hs
        repeat' walk_at "dl"
        exact ⟨⟨w2.cols, w2.items.set a (mirrorI k.ties x0)⟩, _, _, _, _, hw2.setI (mir_ok hao), rfl⟩
      · refine ⟨⟨b4, b5⟩, fun s hs => ?_, fun _ h => h.elim⟩
        replace hs : s = .dat (.list ((allI k.ties).map eI)) := hs
        subst hs
        obtain ⟨a1, a2, a3, a4⟩ := allI_ok k.ties
        have a5 : 4 ^ k.ties.length ≤ 64 := by
          have : k.ties.length = 0 ∨ k.ties.length = 1 ∨ k.ties.length = 2 ∨ k.ties.length = 3 := by omega
          rcases this with e | e | e | e <;> rw [e] <;> decide
        repeat' walk_at "dl"
        refine ⟨⟨fun z => a4 (List.map_eq_nil_iff.mp z), by rw [List.length_map]; omega⟩, fun s hs => ?_, fun _ h => h.elim⟩
        obtain ⟨d, hd, rfl⟩ := hs
        obtain ⟨x1, hx1, rfl⟩ := List.mem_map.mp hd
        have hx1o := (a1 x1 hx1).itm b4
        repeat' walk_at "dl"
        refine ⟨⟨by show a < (w2.items.map eI).length; rw [List.length_map]; exact ha, by show (w2.items.map eI).length ≤ 1000; rw [List.length_map]; omega⟩, fun s hs => ?_, fun _ h => h.elim⟩
        replace hs : s = .dat (.tuple ((w2.items.map eI).set a (eI x1))) := hs
        rw [← List.map_set] at hs
        subst hs
        repeat' walk_at "dl"
        exact ⟨⟨w2.cols, w2.items.set a x1⟩, _, _, _, _, hw2.setI hx1o, rfl⟩
      · refine ⟨⟨w2.cols.reverse, w2.items⟩, some (.dat d), some (.dat (.int (a : Nat))), some (.dat (.int (p : Nat))), some (.dat (.int (y : Nat))), hw2.rev, ?_⟩
        rw [show eWb ⟨w2.cols.reverse, w2.items⟩ = .tuple [.tuple (w2.cols.map PyData.int).reverse, .tuple (w2.items.map eI)] from by unfold eWb; rw [List.map_reverse]]
        rfl
    · obtain ⟨rfl, w2, g6, g7, g8, g9, hw2, rfl⟩ := hI
      repeat' walk_at "dl"
      refine ⟨⟨W, hw2⟩, fun s hs => ?_, fun _ h => h.elim⟩
      replace hs : s = .dat (optF (webFault k w2)) := hs
      subst hs
      refine ⟨rfl, ?_⟩
      refine Dl.s_cons (dS_mono (fun M Γ => M = [G.W.b] ∧ ∃ (g6 g7 g8 g9 : Option Dl.Sl), Γ = [none, some .bag, some (.dat (.int (t : Nat))), some (.dat (eKd k)), some (.dat (eWb w)), some (.dat (eWb w2)), g6, g7, g8, g9, some (.dat (optF (webFault k w2))), g11, none]) ?_ fun M Γ q => ?_)
      · repeat' walk_at "dl"
        refine ⟨⟨W, hw2⟩, fun s hs => ?_, fun _ h => h.elim⟩
        replace hs : s = .dat (toldW k w2) := hs
        subst hs
        have t2 := tell_toldW k w2
        have te := t2.refl
        repeat' walk_at "dl"
        · rename_i hc
          have e : webFault k w2 = none := by
            cases e : webFault k w2 with
            | none => rfl
            | some r => obtain ⟨wh, f⟩ := r; rw [e] at hc; cases hc
          have td : toldW k w2 = .tuple [.str "right", eWb w2] := by unfold toldW; rw [e]
          rw [td] at t2 te ⊢
          refine Dl.o_neD (e := .tuple [.str "right", eWb w2]) t2.2.sh t2.2.sh ?_
          rw [te]
          refine ⟨false, rfl, fun h => (by cases h), fun _ => ?_⟩
          repeat' walk_at "dl"
          exact ⟨_, _, _, _, rfl⟩
        · rename_i hc
          obtain ⟨wh, f, e⟩ : ∃ wh f, webFault k w2 = some (wh, f) := by
            cases e : webFault k w2 with
            | none => rw [e] at hc; cases hc
            | some r => exact ⟨r.1, r.2, rfl⟩
          have td : toldW k w2 = .tuple [.str "fault", .tuple [wh, .str f]] := by unfold toldW; rw [e]
          rw [td] at t2 te ⊢
          refine Dl.o_neD (e := .tuple [.str "fault", optF (webFault k w2)]) t2.2.sh (by rw [e]; exact t2.2.sh) ?_
          rw [show PyData.eqv (.tuple [.str "fault", .tuple [wh, .str f]]) (.tuple [.str "fault", optF (webFault k w2)]) = true from by rw [e]; exact te]
          refine ⟨false, rfl, fun h => (by cases h), fun _ => ?_⟩
          repeat' walk_at "dl"
          exact ⟨_, _, _, _, rfl⟩
      obtain ⟨rfl, g6, g7, g8, g9, rfl⟩ := q
      clear h1 h2 h3 h4 h5 h6 h7 h8 h9
      have h10 := ok_toldB T X
      have cut1 : ∀ l : List PyData, Dl.cutD l (some 1) none = l.drop 1 := fun l => Dl.cutD_from (k := 1)
      have cut2 : ∀ l : List PyData, Dl.cutD l none (some 1) = l.take 1 := fun l => Dl.cutD_to (k := 1)
      repeat' walk_at "dl"
      refine Dl.p_some (Dl.d_int ⟨_, rfl, Dl.p_none (Or.inr ⟨w.items.map eI, rfl, ?_⟩)⟩)
      rw [cut1]
      repeat' walk_at "dl"
      refine Dl.p_none (Dl.p_some (Dl.d_int ⟨_, rfl, Or.inr ⟨w.items.map eI, rfl, ?_⟩⟩))
      rw [cut2]
      have l1 := (pair_len _ hw.rng).2
      have l2 := hw.len
      refine Dl.o_addT (ds := w.items.map eI) (es := (w.items.map eI).take 1) (by rw [List.length_take, List.length_map, sizeLine_eq]; omega) ?_
      repeat' walk_at "dl"
      refine Dl.p_some (Dl.d_int ⟨_, rfl, Dl.p_none (Or.inr ⟨w.cols.map PyData.int, rfl, ?_⟩)⟩)
      rw [cut1]
      repeat' walk_at "dl"
      refine Dl.c_lstT ?_
      repeat' walk_at "dl"
      have tn : Tell 1 (.tuple [.str "Nothing"]) := tell_tup fun d hd => by rw [List.mem_singleton.mp hd]; exact tell_str (by decide +kernel) 0
      have tl : Dl.ShN 1 (.list []) := Dl.shN_lst (n := 0) fun d hd => by cases hd
      refine Dl.d_ofLc (Dl.l_TF (QL := fun zs => zs = ((badL w).filter fun _ => false).map fun d => d) (fun d : PyData => d) (fun _ => false) (fun d => d) (own := [("thing", 12)]) (is := [12]) (by kernel_rfl) (by decide) ?_) (fun zs hz => ?_)
      · refine Dl.i_listL (Dl.d_nm (s := .dat (.list (badL w))) rfl rfl ⟨_, rfl, fun hl => ⟨badL w, by simp, hl, fun D x hx => ?_, rfl⟩⟩)
        refine Dl.g_nm (i := 12) rfl rfl ?_
        repeat' walk_at "dl"
        refine ⟨⟨W, bad_all hw x hx⟩, fun s hs => ?_, fun _ h => h.elim⟩
        replace hs : s = .dat (.tuple [.str "Nothing"]) := hs
        subst hs
        repeat' walk_at "dl"
        refine Dl.o_neD (e := .tuple [.str "Nothing"]) tn.2.sh tn.2.sh ?_
        rw [tn.refl]
        exact ⟨false, rfl, rfl, fun h => (by cases h)⟩
      have hz0 : zs = [] := by rw [hz, List.filter_eq_nil_iff.mpr fun _ _ z => by cases z]; rfl
      subst hz0
      repeat' walk_at "dl"
      refine Dl.o_neD (e := .list []) tl.sh tl.sh ?_
      refine ⟨false, rfl, fun h => (by cases h), fun _ => ?_⟩
      repeat' walk_at "dl"
      exact ⟨_, _, _, _, _, _, _, _, _, _, rfl⟩
  · obtain ⟨rfl, g2, g3, g4, g5, g6, g7, g8, g9, g10, g11, rfl⟩ := hI
    repeat' walk_at "dl"
    exact rfl
end
end K76
set_option Elab.async false
set_option linter.all false
set_option maxRecDepth 100000
set_option maxHeartbeats 2000000
set_option autoImplicit false
/-! what the head tells of the own error classes, and of the tables -/
namespace HY
open PySem PySem.Spec PyProof.Rows L2
def qF (l : Nat) : FlX.Ps := ⟨⟨l + 1, 8, l + 1, 13⟩, ⟨l + 1, 8, l + 1, 15⟩, ⟨l + 1, 8, l + 1, 24⟩, ⟨l + 1, 25, l + 1, 30⟩, ⟨l + 1, 32, l + 1, 37⟩, ⟨l + 1, 8, l + 1, 38⟩, ⟨l + 1, 8, l + 1, 38⟩, ⟨l + 2, 8, l + 2, 12⟩, ⟨l + 2, 8, l + 2, 18⟩, ⟨l + 2, 21, l + 2, 26⟩, ⟨l + 2, 8, l + 2, 26⟩,
  ⟨l + 3, 8, l + 3, 12⟩, ⟨l + 3, 8, l + 3, 18⟩, ⟨l + 3, 21, l + 3, 26⟩, ⟨l + 3, 8, l + 3, 26⟩, ⟨l, 17, l, 21⟩, ⟨l, 23, l, 28⟩, ⟨l, 30, l, 35⟩⟩
def nsF : List (Str × NameKind) := [("self", .local), ("where", .local), ("fault", .local), ("__class__", .free), ("super", .globalImplicit)]
theorem nsF_ok : FlX.NsOk nsF := ⟨by decide +kernel, by decide +kernel, by decide +kernel, by decide +kernel, by decide +kernel, by decide +kernel⟩
def fIn (K : PySem.W.Frag) (x : Str) : Addr := He.ma K (He.ga K x) "__init__"
abbrev FnF : Type := Option (Str × Str × Arguments × FuncBody × Scope × Addr × Value × Value × Addr)
def obsF (K : PySem.W.Frag) (x : Str) : FnF := match K.lookup (fIn K x) with
  | some ⟨_, _, .func fd, _⟩ => some (fd.name, fd.qualname, fd.params, fd.body, fd.scope, fd.globals, fd.defaults, fd.kwdefaults, fd.builtins)
  | _ => none
def valF (l : Nat) : FnF := some ("__init__", "Faulty.__init__", FlX.iA (qF l), .stmts (FlX.iB (qF l)), FlX.iS nsF, mainGlobals, .none, .none, builtinsNs)
def fileB (P : Program) (K : PySem.W.Frag) (cda : Addr) : Bool := match K.lookup cda with
  | some ⟨_, _, .fields vs, _⟩ => (match vs[2]? with
    | some (Value.str file _) => (P.main.file : Str) == file
    | _ => false)
  | _ => false
theorem fileB_ok {P : Program} {K : PySem.W.Frag} {cda : Addr} (h : fileB P K cda = true) : ∃ ccl cdd vs ccs file tf, K.lookup cda = some ⟨ccl, cdd, .fields vs, ccs⟩ ∧ vs[2]? = some (.str file tf) ∧ ((P.main.file : Str) == file) = true := by
  unfold fileB at h
  split at h
  · rename_i a b vs c e
    split at h
    · rename_i f t e2
      exact ⟨_, _, vs, _, f, t, e, e2, h⟩
    · cases h
  · cases h
def cellB (K : PySem.W.Frag) (cc D : Addr) : Bool := match K.lookup cc with
  | some ⟨_, _, .cell (some (.ref d)), _⟩ => decide (d = D)
  | _ => false
theorem cellB_ok {K : PySem.W.Frag} {cc D : Addr} (h : cellB K cc D = true) : ∃ cl cld csl, K.lookup cc = some ⟨cl, cld, .cell (some (.ref D)), csl⟩ := by
  unfold cellB at h
  split at h
  · rename_i e
    rw [of_decide_eq_true h] at e
    exact ⟨_, _, _, e⟩
  · cases h
def codeB (P : Program) (K : PySem.W.Frag) (x y : Str) : Bool := match K.lookup (fIn K x) with
  | some ⟨_, _, .func fd, _⟩ => (match fd.code with
    | .ref cda => PySem.W.codeIn K (.ref cda) "Faulty.__init__" && fileB P K cda
    | _ => false) && (match fd.closure with
    | [(n, cc)] => decide (n = "__class__") && cellB K cc (He.ga K y)
    | _ => false)
  | _ => false
theorem fn_of {P : Program} {K : PySem.W.Frag} {x y : Str} {l : Nat} (e : obsF K x = valF l) (c : codeB P K x y = true) :
    ∃ (oc : Value) (od : Option Addr) (doc pm : Value) (an : Option Addr) (cda : Addr) (ct : Value) (cc : Addr) (osl : Array (Option Value)),
    K.lookup (fIn K x) = some ⟨oc, od, .func (PySem.W.ksFn "__init__" "Faulty.__init__" (FlX.iA (qF l)) (FlX.iB (qF l)) (FlX.iS nsF) .none .none doc pm an (.ref cda) ct cc), osl⟩ ∧ PySem.W.codeIn K (.ref cda) "Faulty.__init__" = true ∧
    (∃ ccl cdd vs ccs file tf, K.lookup cda = some ⟨ccl, cdd, .fields vs, ccs⟩ ∧ vs[2]? = some (.str file tf) ∧ ((P.main.file : Str) == file) = true) ∧ ∃ cl cld csl, K.lookup cc = some ⟨cl, cld, .cell (some (.ref (He.ga K y))), csl⟩ := by
  unfold obsF at e
  unfold codeB at c
  cases q : K.lookup (fIn K x) with
  | none =>
    rw [q] at c
    cases c
  | some o =>
    obtain ⟨oc, od, dt, osl⟩ := o
    rw [q] at c e
    cases dt with
    | func fd =>
      obtain ⟨n1, n2, n3, n4, n5, n6, n7, n8, n9, n10, n11, n12, n13, n14, n15⟩ := fd
      have e2 : (some (n1, n2, n3, n4, n5, n6, n8, n9, n15) : FnF) = valF l := e
      unfold valF at e2
      simp only [Option.some.injEq, Prod.mk.injEq] at e2
      obtain ⟨h1, h2, h3, h4, h5, h6, h7, h8, h9⟩ := e2
      subst h1 h2 h3 h4 h5 h6 h7 h8 h9
      obtain ⟨c1, c2⟩ := He.ba c
      cases n13 with
      | ref cda =>
        obtain ⟨c3, c4⟩ := He.ba c1
        match n7, c2 with
        | [(n, cc)], c2 =>
          obtain ⟨c5, c6⟩ := He.ba c2
          have c5 := of_decide_eq_true c5
          subst c5
          exact ⟨oc, od, n10, n11, n12, cda, n14, cc, osl, rfl, c3, fileB_ok c4, cellB_ok c6⟩
        | [], c2 => cases c2
        | _ :: _ :: _, c2 => cases c2
      | _ => cases c1
    | _ => cases c
def clsB (K : PySem.W.Frag) (C : Addr) : Bool := match K.lookup C with
  | some ⟨.type t, _, .cls cd, sl⟩ => decide (t = "type") && (match cd.mro, sl.toList with
    | .ref C' :: bm, [_, _, _, _, some (.builtin n), _] => decide (C' = C) && (decide (n = "ValueError.__new__") && (cd.hasDict && (!cd.hasDel && PySem.HandSPX.refsVE bm)))
    | _, _ => false)
  | _ => false
theorem clsB_ok {K : PySem.W.Frag} {C : Addr} (h : clsB K C = true) : ∃ nm qn N bs bm sn sub ab col dd k0 k1 k2 k3 k5, K.lookup C = some (excClassObj nm qn C N bs bm true sn sub ab col dd k0 k1 k2 k3 k5 "ValueError.__new__") ∧ PySem.HandSPX.refsVE bm = true := by
  unfold clsB at h
  cases q : K.lookup C with
  | none => rw [q] at h; cases h
  | some o =>
    obtain ⟨oc, od, dt, ⟨sl⟩⟩ := o
    rw [q] at h
    cases oc with
    | type t =>
      cases dt with
      | cls cd =>
        obtain ⟨h1, h2⟩ := He.ba h
        have h1 := of_decide_eq_true h1
        subst h1
        obtain ⟨a1, a2, a3, a4, a5, a6, a7, a8, a9, a10, a11⟩ := cd
        dsimp only at h2
        match a3, sl, h2 with
        | .ref C' :: bm, [k0, k1, k2, k3, some (.builtin n), k5], h2 =>
          obtain ⟨h3, h4⟩ := He.ba h2
          obtain ⟨h5, h6⟩ := He.ba h4
          obtain ⟨h7, h8⟩ := He.ba h6
          obtain ⟨h9, h10⟩ := He.ba h8
          have h3 := of_decide_eq_true h3
          have h5 := of_decide_eq_true h5
          subst h3 h5
          have h7 : a6 = true := h7
          have h9 : a11 = false := by simpa using h9
          subst h7 h9
          exact ⟨a1, a5, a4, a2, bm, a7, a8, a9, a10, od, k0, k1, k2, k3, k5, rfl, h10⟩
      | _ => cases h
    | _ => cases dt <;> cases h
/-- all but what obsF tells -/
def fltB (P : Program) (K : PySem.W.Frag) (x y : Str) : Bool :=
  clsB K (He.ga K x) && (He.eqO (PySem.W.findIn K (.ref (He.ga K x)) "__setattr__") (some (some (.builtin "object.__setattr__"))) && (He.eqO (PySem.W.findIn K (.ref (He.ga K x)) "where") (some none) && (He.eqO (PySem.W.findIn K (.ref (He.ga K x)) "fault") (some none) &&
  (He.eqO (PySem.W.findIn K (.ref (He.ga K x)) "__init__") (some (some (.ref (fIn K x)))) && (decide (PySem.W.typeIn K (.ref (fIn K x)) = some (.type "function")) && (PySem.W.keepIn K (.ref (He.ga K x)) && (decide (PySem.W.subIn K (.ref (He.ga K x)) (.type "BaseException") = some true) &&
  (decide (PySem.W.typeIn K (.ref (He.ga K x)) = some (.type "type")) && (He.eqO (PySem.W.findIn K (.ref (He.ga K x)) "__getattribute__") (some (some (.builtin "BaseException.__getattribute__"))) && (He.eqO (PySem.W.findIn K (.ref (He.ga K x)) "__getattr__") (some none) && (PySem.W.hasDictIn K (He.ga K x) &&
  (decide (PySem.W.subIn K (.ref (He.ga K x)) (.type "ValueError") = some true) && (He.eqO (PySem.W.nsIn K cStatics "thirdparty.any") (some none) && (He.eqO (PySem.W.ks_superIn K (He.ga K x) (He.ga K y) "__init__") (some (some (.builtin "ValueError.__init__"))) && ((PySem.W.clsIn K (He.ga K y)).isSome &&
  (decide (PySem.W.mroIn K (He.ga K x) (.ref (He.ga K y)) = some true) && (He.eqO (PySem.W.nsIn K mainGlobals "super") (some none) && codeB P K x y)))))))))))))))))
theorem flOk {G : Dl.Gd} {x y : Str} {l : Nat} (e : obsF G.W.K x = valF l) (c : fltB G.P G.W.K x y = true) (hg : G.mg x = some (.ref (He.ga G.W.K x))) (ht : (G.P.main.scope.names.lookup ("super" : Str)).isSome = false) (L : FlX.LnOk G.P (qF l) nsF) : Dl.FlOk G x := by
  unfold fltB at c
  obtain ⟨c1, c⟩ := He.ba c
  obtain ⟨c2, c⟩ := He.ba c
  obtain ⟨c3, c⟩ := He.ba c
  obtain ⟨c4, c⟩ := He.ba c
  obtain ⟨c5, c⟩ := He.ba c
  obtain ⟨c6, c⟩ := He.ba c
  obtain ⟨c7, c⟩ := He.ba c
  obtain ⟨c8, c⟩ := He.ba c
  obtain ⟨c9, c⟩ := He.ba c
  obtain ⟨c10, c⟩ := He.ba c
  obtain ⟨c11, c⟩ := He.ba c
  obtain ⟨c12, c⟩ := He.ba c
  obtain ⟨c13, c⟩ := He.ba c
  obtain ⟨c14, c⟩ := He.ba c
  obtain ⟨c15, c⟩ := He.ba c
  obtain ⟨c16, c⟩ := He.ba c
  obtain ⟨c17, c⟩ := He.ba c
  obtain ⟨c18, c19⟩ := He.ba c
  refine ⟨qF l, nsF, He.ga G.W.K x, He.ga G.W.K y, fIn G.W.K x, hg, ⟨clsB_ok c1, He.eqO_ok c2, He.eqO_ok c3, He.eqO_ok c4, He.eqO_ok c5, of_decide_eq_true c6, c7, of_decide_eq_true c8, of_decide_eq_true c9, He.eqO_ok c10, He.eqO_ok c11, c12, of_decide_eq_true c13, He.eqO_ok c14, He.eqO_ok c15, ?_, of_decide_eq_true c17, He.eqO_ok c18, ht, fn_of e c19⟩, nsF_ok, L⟩
  cases q : PySem.W.clsIn G.W.K (He.ga G.W.K y) with
  | none => rw [q] at c16; cases c16
  | some cd => exact ⟨cd, rfl⟩
/-! ### the Hook: from the globals and the statics -/
def asY (g : Addr → Option Obj) : Nat → List Addr
  | 0 => [mainGlobals, cStatics]
  | n + 1 => He.growD g (asY g n)
abbrev AlY : Type := He.AlT × Bool × FnF
/-- fa, fn: the facts; tf: the defs with tables; ex: more; x: the own error class -/
def obsY (n : Nat) (fa : List He.Fa) (fn : List He.DefD) (tf : List He.Defn) (ex : PySem.W.Frag → Bool) (x : Str) (g : Addr → Option Obj) : AlY :=
  (He.obsT fa fn [] (He.frT g (asY g n)), ex (He.frT g (asY g n)) && He.tabsB g tf (He.frT g (asY g n)), obsF (He.frT g (asY g n)) x)
def valY (fn : List He.DefD) (l : Nat) (w : World) : AlY := (He.valT fn [] w, true, valF l)
structure SaysY (fa : List He.Fa) (fn : List He.DefD) (tf : List He.Defn) (ex : PySem.W.Frag → Bool) (x : Str) (l : Nat) (w : World) (h : Heap) (K : PySem.W.Frag) : Prop where
  sx : He.SaysX fa fn [] tf ex w h K
  sf : obsF K x = valF l
theorem saysY_of {n : Nat} {fa : List He.Fa} {fn : List He.DefD} {tf : List He.Defn} {ex : PySem.W.Frag → Bool} {x : Str} {l : Nat} {w : World} {h : Heap} (e : obsY n fa fn tf ex x h.get? = valY fn l w) : SaysY fa fn tf ex x l w h (He.frT h.get? (asY h.get? n)) := by
  generalize ek : He.frT h.get? (asY h.get? n) = K at e
  have e0 : (He.obsT fa fn [] K, ex K && He.tabsB h.get? tf K, obsF K x) = (He.valT fn [] w, true, valF l) := by
    rw [← ek]
    exact e
  have e1 : He.obsT fa fn [] K = He.valT fn [] w := congrArg (fun z : AlY => z.1) e0
  have e2 : (ex K && He.tabsB h.get? tf K) = true := congrArg (fun z : AlY => z.2.1) e0
  have e3 : obsF K x = valF l := congrArg (fun z : AlY => z.2.2) e0
  obtain ⟨h1, h2⟩ := He.ba e2
  have key : ∀ p ∈ tf, PySem.W.codeHdIn K (He.cT K p).1 (He.cT K p).2 = true ∧ ∃ o, h.get? (He.cT K p).2 = some o ∧ He.emptyTab o = true := fun p hp => by
    obtain ⟨h3, h4⟩ := He.ba (List.all_eq_true.mp h2 p hp)
    cases q : h.get? (He.cT K p).2 with
    | none => rw [q] at h4; cases h4
    | some o => rw [q] at h4; exact ⟨h3, o, rfl, h4⟩
  refine ⟨⟨e1, h1, fun p hp => (key p hp).1, fun p hp => ?_, fun p hp => ?_⟩, e3⟩
  · obtain ⟨_, o, q, z⟩ := key p hp
    have := He.frT_none (as := asY h.get? n) q z
    rw [ek] at this
    exact this
  · obtain ⟨_, o, q, z⟩ := key p hp
    rw [q, He.emptyTab_eq z]
def hookY (n : Nat) (fa : List He.Fa) (fn : List He.DefD) (tf : List He.Defn) (ex : PySem.W.Frag → Bool) (x : Str) (l : Nat) : PySem.W.Hook where
  α := AlY
  obs := fun s => obsY n fa fn tf ex x s.heap.get?
  val := fun w => valY fn l w
  says := fun w h => ∃ K : PySem.W.Frag, K.In h ∧ SaysY fa fn tf ex x l w h K
  of := fun _ _ e => ⟨_, He.frT_in, saysY_of e⟩
  keeps := fun _ _ _ ⟨K, hK, c⟩ k => ⟨K, PySem.W.Frag.In.keeps hK k, ⟨⟨c.sx.t, c.sx.more, c.sx.hd, c.sx.out, fun p hp => k _ _ (c.sx.empty p hp)⟩, c.sf⟩⟩
theorem obsY_eq {n : Nat} {fa : List He.Fa} {fn : List He.DefD} {tf : List He.Defn} {ex : PySem.W.Frag → Bool} {x : Str} {l : Nat} {g : Addr → Option Obj} {s : Shared} (h : ∀ a, g a = s.heap.get? a) : obsY n fa fn tf ex x g = (hookY n fa fn tf ex x l).obs s := by
  rw [show g = s.heap.get? from funext h]
  rfl
end HY
set_option Elab.async false
set_option linter.all false
set_option maxRecDepth 100000
set_option maxHeartbeats 0
namespace K76
open PySem PySem.Spec PyProof.Rows L2
abbrev LW : PySem.W.OpenLaw := PySem.Challenge.rw_mostwebs_k76_faults_of_wide_webs
abbrev R : PySem.W.OpenRow := PySem.W.OpenLaw.row LW
def tfL : List He.Defn := [("is_item", none), ("is_menu", none)]
def exL (K : PySem.W.Frag) : Bool := He.tupB K "RESERVED" (resS.map He.Dv.str) && (HY.fltB LW.prog K "BadKind" "Faulty" && ((He.Fa.exm "BadKind" "BadKind" true).ok K && ((He.Fa.exm "Nothing" "BadKind" false).ok K && ((He.Fa.exm "Nothing" "Nothing" true).ok K && ((He.Fa.exc "Nothing").ok K && (decide ((He.cT K ("is_item", none)).2 ≠ (He.cT K ("is_menu", none)).2) &&
  (HY.fltB LW.prog K "BadWeb" "Faulty" && (decide (HY.fIn K "BadWeb" = HY.fIn K "BadKind") && ((He.Fa.exm "BadWeb" "BadWeb" true).ok K && (He.Fa.exm "Nothing" "BadWeb" false).ok K)))))))))
abbrev hk : PySem.W.Hook := HY.hookY 5 faL fnL tfL exL "BadKind" 11
def ob (s : PySem.W.SharedT) : HY.AlY := HY.obsY 5 faL fnL tfL exL "BadKind" (HandSHeadRun.getT s)
theorem ob_eq (s : PySem.W.SharedT) : ob s = hk.obs s.abs := HY.obsY_eq (HandSHeadRun.getT_eq s)
theorem run (w : World) : HandSHeadRun.RunEq R (PySem.W.view R.prog [67]) hk ob 6000 looseL w := by
  intro os
  kernel_rfl
end K76
set_option Elab.async false
set_option linter.all false
set_option maxRecDepth 100000
set_option maxHeartbeats 4000000
set_option autoImplicit false
namespace K76
open PySem PySem.Spec PyProof.Rows L2
local macro_rules | `(tactic| walk_at "nm") => `(tactic| (refine Dl.d_nm (s := ?nmS) ?nmA ?nmB ?_; (case nmA => rfl); (case nmB => rfl)))
local macro_rules | `(tactic| walk_at "fr") => `(tactic| first | assumption)
local macro_rules | `(tactic| walk_at "name") => `(tactic| first
  | walk_at "nm"
  | ((with_reducible show Dl.dE _ _ (Expr.Name "int" _) _ _ _); refine Dl.d_t_int ?frA ?frB ?_; (case frA => walk_at "fr"); (case frB => rfl))
  | ((with_reducible show Dl.dE _ _ (Expr.Name "tuple" _) _ _ _); refine Dl.d_t_tuple ?frA ?frB ?_; (case frA => walk_at "fr"); (case frB => rfl))
  | ((with_reducible show Dl.dE _ _ (Expr.Name "list" _) _ _ _); refine Dl.d_t_list ?frA ?frB ?_; (case frA => walk_at "fr"); (case frB => rfl))
  | ((with_reducible show Dl.dE _ _ (Expr.Name "str" _) _ _ _); refine Dl.d_t_str ?frA ?frB ?_; (case frA => walk_at "fr"); (case frB => rfl))
  | ((with_reducible show Dl.dE _ _ (Expr.Name "bool" _) _ _ _); refine Dl.d_t_bool ?frA ?frB ?_; (case frA => walk_at "fr"); (case frB => rfl))
  | ((with_reducible show Dl.dE _ _ (Expr.Name "set" _) _ _ _); refine Dl.d_t_set ?frA ?frB ?_; (case frA => walk_at "fr"); (case frB => rfl))
  | walk_at "glob")
local macro_rules | `(tactic| walk_at "glob") => `(tactic| first
  | (refine Dl.d_globInt (i := ?gI) ?gA ?gB ?_; (case gA => rfl); (case gB => assumption))
  | (refine Dl.d_globStr (i := ?gI) ?gA ?gB ?_; (case gA => rfl); (case gB => assumption)))
local macro_rules | `(tactic| walk_at "call") => `(tactic| first
  | ((with_reducible show Dl.dE _ _ (Expr.Call (Expr.Name "isinstance" _) _ _ _) _ _ _); refine Dl.d_b_isinstance ?frA ?frB ?_; (case frA => walk_at "fr"); (case frB => rfl))
  | ((with_reducible show Dl.dE _ _ (Expr.Call (Expr.Name "len" _) _ _ _) _ _ _); refine Dl.d_b_len ?frA ?frB ?_; (case frA => walk_at "fr"); (case frB => rfl))
  | ((with_reducible show Dl.dE _ _ (Expr.Call (Expr.Name "all" _) _ _ _) _ _ _); refine Dl.d_b_all ?frA ?frB ?_; (case frA => walk_at "fr"); (case frB => rfl))
  | ((with_reducible show Dl.dE _ _ (Expr.Call (Expr.Name "any" _) _ _ _) _ _ _); refine Dl.d_b_any ?frA ?frB ?_; (case frA => walk_at "fr"); (case frB => rfl))
  | ((with_reducible show Dl.dE _ _ (Expr.Call (Expr.Name "abs" _) _ _ _) _ _ _); refine Dl.d_b_abs ?frA ?frB ?_; (case frA => walk_at "fr"); (case frB => rfl))
  | ((with_reducible show Dl.dE _ _ (Expr.Call (Expr.Name "sum" _) _ _ _) _ _ _); refine Dl.d_b_sum ?frA ?frB ?_; (case frA => walk_at "fr"); (case frB => rfl))
  | ((with_reducible show Dl.dE _ _ (Expr.Call (Expr.Name "min" _) _ _ _) _ _ _); refine Dl.d_b_min ?frA ?frB ?_; (case frA => walk_at "fr"); (case frB => rfl))
  | ((with_reducible show Dl.dE _ _ (Expr.Call (Expr.Name "max" _) _ _ _) _ _ _); refine Dl.d_b_max ?frA ?frB ?_; (case frA => walk_at "fr"); (case frB => rfl))
  | ((with_reducible show Dl.dE _ _ (Expr.Call (Expr.Name "sorted" _) _ _ _) _ _ _); refine Dl.d_b_sorted ?frA ?frB ?_; (case frA => walk_at "fr"); (case frB => rfl))
  | ((with_reducible show Dl.dE _ _ (Expr.Call (Expr.Name "int" _) _ _ _) _ _ _); refine Dl.d_c_int ?frA ?frB ?_; (case frA => walk_at "fr"); (case frB => rfl))
  | ((with_reducible show Dl.dE _ _ (Expr.Call (Expr.Name "tuple" _) _ _ _) _ _ _); refine Dl.d_c_tuple ?frA ?frB ?_; (case frA => walk_at "fr"); (case frB => rfl))
  | ((with_reducible show Dl.dE _ _ (Expr.Call (Expr.Name "list" _) _ _ _) _ _ _); refine Dl.d_c_list ?frA ?frB ?_; (case frA => walk_at "fr"); (case frB => rfl))
  | ((with_reducible show Dl.dE _ _ (Expr.Call (Expr.Name "str" _) _ _ _) _ _ _); refine Dl.d_c_str ?frA ?frB ?_; (case frA => walk_at "fr"); (case frB => rfl))
  | ((with_reducible show Dl.dE _ _ (Expr.Call (Expr.Name "bool" _) _ _ _) _ _ _); refine Dl.d_c_bool ?frA ?frB ?_; (case frA => walk_at "fr"); (case frB => rfl))
  | ((with_reducible show Dl.dE _ _ (Expr.Call (Expr.Name "set" _) _ _ _) _ _ _); refine Dl.d_c_set ?frA ?frB ?_; (case frA => walk_at "fr"); (case frB => rfl))
  | (refine Dl.d_fn (j := ?fnJ) (S := ?fnS) ?fnA ?fnB ?fnC ?_; (case fnA => assumption); (case fnB => exact Nat.le_of_ble_eq_true rfl); (case fnC => rfl)))
local macro_rules | `(tactic| walk_at "ed") => `(tactic| ((with_reducible show Dl.dE _ _ _ _ _ _); first
  | ((with_reducible show Dl.dE _ _ (Expr.Name _ _) _ _ _); walk_at "name")
  | ((with_reducible show Dl.dE _ _ (Expr.Constant (Const.int _) _ _) _ _ _); refine Dl.d_int ?_)
  | ((with_reducible show Dl.dE _ _ (Expr.Constant (Const.str _) _ _) _ _ _); refine Dl.d_str ?_)
  | ((with_reducible show Dl.dE _ _ (Expr.Constant (Const.bool _) _ _) _ _ _); refine Dl.d_bool ?_)
  | ((with_reducible show Dl.dE _ _ (Expr.Constant Const.none _ _) _ _ _); refine Dl.d_none ?_)
  | ((with_reducible show Dl.dE _ _ (Expr.Call (Expr.Name _ _) [_, Expr.Tuple [Expr.Name _ _, Expr.Name _ _] _ _] _ _) _ _ _); (refine Dl.d_isi2 ?frA ?frB ?frC ?frD ?frE ?frF ?_; (case frA => walk_at "fr"); (case frB => walk_at "fr"); (case frC => walk_at "fr"); (case frD => rfl); (case frE => rfl); (case frF => rfl)))
  | ((with_reducible show Dl.dE _ _ (Expr.Call (Expr.Name _ _) _ _ _) _ _ _); walk_at "call")
  | ((with_reducible show Dl.dE _ _ (Expr.BoolOp _ [_] _) _ _ _); refine Dl.d_one ?_)
  | ((with_reducible show Dl.dE _ _ (Expr.BoolOp BoolOp.And _ _) _ _ _); refine Dl.d_and ?_)
  | ((with_reducible show Dl.dE _ _ (Expr.BoolOp BoolOp.Or _ _) _ _ _); refine Dl.d_or ?_)
  | ((with_reducible show Dl.dE _ _ (Expr.UnaryOp UnaryOp.Not _ _) _ _ _); refine Dl.d_not ?_)
  | ((with_reducible show Dl.dE _ _ (Expr.UnaryOp UnaryOp.USub _ _) _ _ _); refine Dl.d_neg ?_)
  | ((with_reducible show Dl.dE _ _ (Expr.BinOp _ _ _ _) _ _ _); refine Dl.d_bin ?_)
  | ((with_reducible show Dl.dE _ _ (Expr.Compare _ [_] _ _) _ _ _); refine Dl.d_cmp ?_)
  | ((with_reducible show Dl.dE _ _ (Expr.Compare _ [_, _] _ _) _ _ _); refine Dl.d_chain ?_)
  | ((with_reducible show Dl.dE _ _ (Expr.IfExp _ _ _ _) _ _ _); refine Dl.d_if ?_)
  | ((with_reducible show Dl.dE _ _ (Expr.Tuple _ _ _) _ _ _); refine Dl.d_tup ?_)
  | ((with_reducible show Dl.dE _ _ (Expr.List _ _) _ _ _); refine Dl.d_lst ?_)
  | ((with_reducible show Dl.dE _ _ (Expr.Subscript _ (Expr.Slice _ _ _ _) _) _ _ _); refine Dl.d_slice ?_)
  | ((with_reducible show Dl.dE _ _ (Expr.Subscript _ _ _) _ _ _); refine Dl.d_ix ?_)))
local macro_rules | `(tactic| walk_at "ad") => `(tactic| ((with_reducible show Dl.dA _ _ _ _ _ _); first | refine Dl.a_nil ?_ | refine Dl.a_cons ?_))
local macro_rules | `(tactic| walk_at "td") => `(tactic| first
  | ((with_reducible show Dl.dT _ _ (Expr.UnaryOp UnaryOp.Not _ _) _ _ _); refine Dl.t_not ?_)
  | ((with_reducible show Dl.dT _ _ (Expr.BoolOp _ _ _) _ _ _); refine Dl.t_bool ?_)
  | ((with_reducible show Dl.dT _ _ (Expr.Compare _ [_] _ _) _ _ _); refine Dl.t_cmp ?_)
  | ((with_reducible show Dl.dT _ _ (Expr.Compare _ [_, _] _ _) _ _ _); refine Dl.t_chain ?_)
  | ((with_reducible show Dl.dT _ _ (_) _ _ _); refine Dl.t_val ?_)
  | ((with_reducible show Dl.dW _ _ (Expr.BoolOp BoolOp.And [_] _) _ _ _); refine Dl.w_and1 ?_)
  | ((with_reducible show Dl.dW _ _ (Expr.BoolOp BoolOp.Or [_] _) _ _ _); refine Dl.w_or1 ?_)
  | ((with_reducible show Dl.dW _ _ (Expr.BoolOp BoolOp.And _ _) _ _ _); refine Dl.w_and ?_)
  | ((with_reducible show Dl.dW _ _ (Expr.BoolOp BoolOp.Or _ _) _ _ _); refine Dl.w_or ?_))
local macro_rules | `(tactic| walk_at "od") => `(tactic| ((with_reducible show Dl.OpD _ _ _ _ _ _); first
  | refine Dl.o_add ?_ | refine Dl.o_sub ?_ | refine Dl.o_lt ?_ | refine Dl.o_le ?_ | refine Dl.o_gt ?_ | refine Dl.o_ge ?_ | refine Dl.o_eq ?_ | refine Dl.o_ne ?_ | refine Dl.o_eqS ?_ | refine Dl.o_mul ?_ ?_ | refine Dl.o_mod ?_ ?_ | refine Dl.o_fdivW ?_ ?_ | refine Dl.o_inS ?_ | refine Dl.o_notInS ?_
  | refine Dl.o_isN ?_ | refine Dl.o_notN ?_))
local macro_rules | `(tactic| walk_at "cd") => `(tactic| ((with_reducible show Dl.CallD _ _ _ _ _); first
  | refine Dl.c_lenT ?_ | refine Dl.c_lenL ?_ | refine Dl.c_lenO ?_ | refine Dl.c_abs ?_ | refine Dl.c_int ?_ | refine Dl.c_lenS ?_ ?_ | refine Dl.c_allT ?_
  | refine Dl.c_isInt ?_ | refine Dl.c_isBool ?_ | refine Dl.c_isStr ?_ | refine Dl.c_isTuple ?_ | refine Dl.c_isList ?_
  | refine Dl.c_allF ?_ | refine Dl.c_tupL ?_ | refine Dl.c_tupT ?_))
local macro_rules | `(tactic| walk_at "sd") => `(tactic| first
  | ((with_reducible show Dl.dS _ _ _ (Stmt.Return (some _) _) _ _ _ _); refine Dl.s_ret ?_)
  | ((with_reducible show Dl.dS _ _ _ (Stmt.Assign [Expr.Tuple [Expr.Name _ _, Expr.Name _ _] _ _] (Expr.Tuple [_, _] _ _) _) _ _ _ _); (refine Dl.s_pr (i := ?stI) (j := ?stJ) ?stA ?stB ?stC ?stD ?stE ?_; (case stA => rfl); (case stB => rfl); (case stC => rfl); (case stD => rfl); (case stE => rfl)))
  | ((with_reducible show Dl.dS _ _ _ (Stmt.If _ _ _ _) _ _ _ _); refine Dl.s_if ?_)
  | ((with_reducible show Dl.dS _ _ _ (Stmt.Assign [Expr.Name _ _] _ _) _ _ _ _); (refine Dl.s_st (i := ?stI) ?stA ?stB ?stC ?_; (case stA => rfl); (case stB => rfl); (case stC => rfl)))
  | ((with_reducible show Dl.dS _ _ _ (Stmt.Expr _ _) _ _ _ _); refine Dl.s_expr ?_)
  | ((with_reducible show Dl.dSs _ _ _ _ _ _ _ _); first | refine Dl.s_cons ?_ | refine Dl.s_nil ?_))
local macro_rules | `(tactic| walk_at "xd") => `(tactic| ((with_reducible show Dl.IxD _ _ _ _ _); first | (refine Dl.x_T (d := ?ixD) ?ixE ?_; (case ixE => rfl)) | (refine Dl.x_L (d := ?ixD) ?ixE ?_; (case ixE => rfl)) | (refine Dl.x_O (d := ?ixD) ?ixE ?_; (case ixE => rfl))))
local macro_rules | `(tactic| walk_at "ds") => `(tactic| (refine Dl.ex_dats (ds := ?dsW) ?dsA ?dsB ?_; (case dsA => rfl); (case dsB => rfl)))
local macro_rules | `(tactic| walk_at "dl") => `(tactic| first
  | walk_at "ds"
  | walk_at "ed"
  | walk_at "ad"
  | walk_at "td"
  | walk_at "od"
  | walk_at "cd"
  | walk_at "sd"
  | walk_at "xd"
  | ((with_reducible refine ⟨_, rfl, fun hc => ?_, fun hc => ?_⟩) <;> (first | contradiction | (exfalso; revert hc; simp [Dl.isTy, Dl.tyD]; done) | skip))
  | ((with_reducible refine ⟨fun hc => ?_, fun hc => ?_⟩) <;> (first | contradiction | (exfalso; revert hc; simp [Dl.isTy, Dl.tyD]; done) | skip))
  | (refine ⟨_, _, rfl, rfl, ?_⟩)
  | (refine ⟨rfl, ?_⟩)
  | (with_reducible refine ⟨_, rfl, ?_⟩)
  | (refine ⟨(_, _), rfl, ?_⟩)
  | (refine ⟨(_, _, _), rfl, ?_⟩)
  | (refine ⟨True.intro, fun _ hs => ?_, fun _ hx => False.elim hx⟩; replace hs : _ = Dl.Sl.dat _ := hs; subst hs)
  | (refine ⟨by assumption, fun _ hs => ?_, fun _ hx => False.elim hx⟩; replace hs : _ = Dl.Sl.dat _ := hs; subst hs)
  | fail)
/-! ### the head's facts, as the walk wants them -/
theorem ln_he {p1 p2 p3 p4 p5 p6 : Pos} {env : Env} (hl : (p3.endLine == p6.line) = true) : eval (.Call (.Attribute (.Call (.Name "super" p1) [] [] p2) "__init__" p3) [.Name "where" p4, .Name "fault" p5] [] p6) env = (do
      let ov ← attributeBase (.Call (.Name "super" p1) [] [] p2) "__init__" env (eval (.Call (.Name "super" p1) [] [] p2) env)
      standAt p3.atName
      let (f, first) ← holding [ov] (getMethod ov "__init__" (pure false))
      callWith p6 f first (backTo p6 (starEach [.Name "where" p4, .Name "fault" p5] env)) []) := by
  have e : ∀ ov, methodCall (.Call (.Name "super" p1) [] [] p2) "__init__" p3 p6 env ov 2 (backTo p6 (starEach [.Name "where" p4, .Name "fault" p5] env)) [] = (do
      let (f, first) ← holding [ov] (getMethod ov "__init__" (pure false))
      callWith p6 f first (backTo p6 (starEach [.Name "where" p4, .Name "fault" p5] env)) []) := fun ov => by
    rw [mcall_line (by rfl) hl]
    rfl
  simp only [← e]
  rfl
theorem lnOk : FlX.LnOk LW.prog (HY.qF 11) HY.nsF := ⟨fun env => ln_he rfl, fun env => rfl⟩
def qLam (x : Str) : Str := (x ++ ".<locals>.") ++ "<lambda>"
def tblT (K : PySem.W.Frag) : List (Addr × Str) := [((He.cT K ("is_item", none)).2, qLam "is_item"), ((He.cT K ("is_menu", none)).2, qLam "is_menu")]
theorem sup_top : (LW.prog.main.scope.names.lookup ("super" : Str)).isSome = false := by kernel_rfl
theorem dvAll_str {K : PySem.W.Frag} {M : List Addr} {H : Hp} : ∀ l : List Str, Dl.DvAll K M H ((l.map He.Dv.str).map (He.Dv.v K)) (l.map .str)
  | [] => .nil
  | x :: l => .cons (.str x) (dvAll_str l)
theorem mkLam_of {G : Dl.Gd} {x : Str} {d : He.DefD} (D : He.SaysD faL fnL G.W.K) (i : Nat) (hd : fnL[i]? = some d) (ha : d.at_ = (x, none)) (hTB : LamX.TabB G.base G.mg (He.cT G.W.K (x, none)).1 (He.cT G.W.K (x, none)).2) (hin : ((He.cT G.W.K (x, none)).2, qLam x) ∈ G.W.T) (hu : ∀ p ∈ G.W.T, p.1 = (He.cT G.W.K (x, none)).2 → p.2 = qLam x) : Dl.MkLam G x := by
  obtain ⟨fd, F⟩ := D.def_ i hd
  obtain ⟨oc, od, dV, kV, doc, pm, an, cdv, ct, osl, rfl, lk, hcd, _, _⟩ := F.ex
  rw [ha] at lk
  obtain ⟨c, rfl⟩ := He.codeIn_ref hcd
  have ec : He.codeOf G.W.K (x, none) = c := He.codeOf_eq lk rfl
  refine ⟨fun oc' od' fd' osl' h => ?_⟩
  have e := lk.symm.trans h
  injection e with e
  injection e with e1 e2 e3 e4
  injection e3 with e3
  subst e3
  refine ⟨(He.cT G.W.K (x, none)).1, (He.cT G.W.K (x, none)).2, ?_, hTB, hin, hu⟩
  show Value.ref c = Value.ref (He.codeOf G.W.K (x, none))
  rw [ec]
theorem tops_of {G : Dl.Gd} {w : World} {h : Heap} (hP : G.P = LW.prog) (kin : G.W.K.In G.base) (ns : G.base.Ns mainGlobals G.mg) (S : HY.SaysY faL fnL tfL exL "BadKind" 11 w h G.W.K) (hT : G.W.T = tblT G.W.K) (hTB : ∀ p ∈ tfL.map (He.cT G.W.K), LamX.TabB G.base G.mg p.1 p.2) : Top G ∧ Ext G := by
  have D : He.SaysD faL fnL G.W.K := S.sx.t.d
  have T : Top G := ⟨kin, ns, D⟩
  obtain ⟨m1, m⟩ := He.ba S.sx.more
  obtain ⟨m2, m⟩ := He.ba m
  obtain ⟨m3, m⟩ := He.ba m
  obtain ⟨m4, m⟩ := He.ba m
  obtain ⟨m5, m⟩ := He.ba m
  obtain ⟨m6, m⟩ := He.ba m
  obtain ⟨m7, m⟩ := He.ba m
  obtain ⟨m8, m⟩ := He.ba m
  obtain ⟨m9, m⟩ := He.ba m
  obtain ⟨m10, m11⟩ := He.ba m
  have m7 := of_decide_eq_true m7
  have m9 := of_decide_eq_true m9
  have eW : HY.obsF G.W.K "BadWeb" = HY.valF 11 := by
    rw [← S.sf]
    unfold HY.obsF
    rw [m9]
  have gB : G.mg "BadKind" = some (.ref (He.ga G.W.K "BadKind")) := T.glo 50
  have gN : G.mg "Nothing" = some (.ref (He.ga G.W.K "Nothing")) := T.glo 52
  have gR : G.mg "RESERVED" = some (.ref (He.ga G.W.K "RESERVED")) := T.glo 59
  have qB : ∀ C, G.mg "BadKind" = some (.ref C) → C = He.ga G.W.K "BadKind" := fun C hC => by
    have e := hC.symm.trans gB
    injection e with e
    injection e with e
  have gW : G.mg "BadWeb" = some (.ref (He.ga G.W.K "BadWeb")) := T.glo 51
  have qW : ∀ C, G.mg "BadWeb" = some (.ref C) → C = He.ga G.W.K "BadWeb" := fun C hC => by
    have e := hC.symm.trans gW
    injection e with e
    injection e with e
  have qN : ∀ C, G.mg "Nothing" = some (.ref C) → C = He.ga G.W.K "Nothing" := fun C hC => by
    have e := hC.symm.trans gN
    injection e with e
    injection e with e
  refine ⟨T, ⟨⟨_, _, gR, fun H => He.tupB_ok m1 H, fun M H => dvAll_str resS⟩, ⟨HY.flOk S.sf (by rw [hP]; exact m2) gB (by rw [hP]; exact sup_top) (by rw [hP]; exact lnOk), ⟨_, gN⟩, fun C hC => ?_, fun C C' hC hC' => ?_, fun C hC => ?_⟩, ⟨HY.flOk eW (by rw [hP]; exact m8) gW (by rw [hP]; exact sup_top) (by rw [hP]; exact lnOk), ⟨_, gN⟩, fun C hC => ?_, fun C C' hC hC' => ?_, fun C hC => ?_⟩, ⟨_, gN, He.exc_ok m6⟩, ?_, ?_⟩⟩
  · rw [qB C hC]; exact He.exm_ok m3
  · rw [qB C hC, qN C' hC']; exact He.exm_ok m4
  · rw [qN C hC]; exact He.exm_ok m5
  · rw [qW C hC]; exact He.exm_ok m10
  · rw [qW C hC, qN C' hC']; exact He.exm_ok m11
  · rw [qN C hC]; exact He.exm_ok m5
  · refine mkLam_of D 11 (d := d_is_item) rfl rfl (hTB _ (List.mem_cons_self)) (by rw [hT]; exact List.mem_cons_self) fun p hp e => ?_
    rw [hT] at hp
    rcases List.mem_cons.mp hp with rfl | hp
    · rfl
    · rw [List.mem_singleton.mp hp] at e
      exact absurd e.symm m7
  · refine mkLam_of D 12 (d := d_is_menu) rfl rfl (hTB _ (List.mem_cons_of_mem _ List.mem_cons_self)) (by rw [hT]; exact List.mem_cons_of_mem _ List.mem_cons_self) fun p hp e => ?_
    rw [hT] at hp
    rcases List.mem_cons.mp hp with rfl | hp
    · exact absurd e m7
    · rw [List.mem_singleton.mp hp]
end K76
set_option Elab.async false
set_option linter.all false
set_option maxRecDepth 100000
set_option maxHeartbeats 4000000
set_option autoImplicit false
namespace K76
open PySem PySem.Spec PyProof.Rows L2
local macro_rules | `(tactic| walk_at "nm") => `(tactic| (refine Dl.d_nm (s := ?nmS) ?nmA ?nmB ?_; (case nmA => rfl); (case nmB => rfl)))
local macro_rules | `(tactic| walk_at "fr") => `(tactic| first | assumption)
local macro_rules | `(tactic| walk_at "name") => `(tactic| first
  | walk_at "nm"
  | ((with_reducible show Dl.dE _ _ (Expr.Name "int" _) _ _ _); refine Dl.d_t_int ?frA ?frB ?_; (case frA => walk_at "fr"); (case frB => rfl))
  | ((with_reducible show Dl.dE _ _ (Expr.Name "tuple" _) _ _ _); refine Dl.d_t_tuple ?frA ?frB ?_; (case frA => walk_at "fr"); (case frB => rfl))
  | ((with_reducible show Dl.dE _ _ (Expr.Name "list" _) _ _ _); refine Dl.d_t_list ?frA ?frB ?_; (case frA => walk_at "fr"); (case frB => rfl))
  | ((with_reducible show Dl.dE _ _ (Expr.Name "str" _) _ _ _); refine Dl.d_t_str ?frA ?frB ?_; (case frA => walk_at "fr"); (case frB => rfl))
  | ((with_reducible show Dl.dE _ _ (Expr.Name "bool" _) _ _ _); refine Dl.d_t_bool ?frA ?frB ?_; (case frA => walk_at "fr"); (case frB => rfl))
  | ((with_reducible show Dl.dE _ _ (Expr.Name "set" _) _ _ _); refine Dl.d_t_set ?frA ?frB ?_; (case frA => walk_at "fr"); (case frB => rfl))
  | walk_at "glob")
local macro_rules | `(tactic| walk_at "glob") => `(tactic| first
  | (refine Dl.d_globInt (i := ?gI) ?gA ?gB ?_; (case gA => rfl); (case gB => assumption))
  | (refine Dl.d_globStr (i := ?gI) ?gA ?gB ?_; (case gA => rfl); (case gB => assumption)))
local macro_rules | `(tactic| walk_at "call") => `(tactic| first
  | ((with_reducible show Dl.dE _ _ (Expr.Call (Expr.Name "isinstance" _) _ _ _) _ _ _); refine Dl.d_b_isinstance ?frA ?frB ?_; (case frA => walk_at "fr"); (case frB => rfl))
  | ((with_reducible show Dl.dE _ _ (Expr.Call (Expr.Name "len" _) _ _ _) _ _ _); refine Dl.d_b_len ?frA ?frB ?_; (case frA => walk_at "fr"); (case frB => rfl))
  | ((with_reducible show Dl.dE _ _ (Expr.Call (Expr.Name "all" _) _ _ _) _ _ _); refine Dl.d_b_all ?frA ?frB ?_; (case frA => walk_at "fr"); (case frB => rfl))
  | ((with_reducible show Dl.dE _ _ (Expr.Call (Expr.Name "any" _) _ _ _) _ _ _); refine Dl.d_b_any ?frA ?frB ?_; (case frA => walk_at "fr"); (case frB => rfl))
  | ((with_reducible show Dl.dE _ _ (Expr.Call (Expr.Name "abs" _) _ _ _) _ _ _); refine Dl.d_b_abs ?frA ?frB ?_; (case frA => walk_at "fr"); (case frB => rfl))
  | ((with_reducible show Dl.dE _ _ (Expr.Call (Expr.Name "sum" _) _ _ _) _ _ _); refine Dl.d_b_sum ?frA ?frB ?_; (case frA => walk_at "fr"); (case frB => rfl))
  | ((with_reducible show Dl.dE _ _ (Expr.Call (Expr.Name "min" _) _ _ _) _ _ _); refine Dl.d_b_min ?frA ?frB ?_; (case frA => walk_at "fr"); (case frB => rfl))
  | ((with_reducible show Dl.dE _ _ (Expr.Call (Expr.Name "max" _) _ _ _) _ _ _); refine Dl.d_b_max ?frA ?frB ?_; (case frA => walk_at "fr"); (case frB => rfl))
  | ((with_reducible show Dl.dE _ _ (Expr.Call (Expr.Name "sorted" _) _ _ _) _ _ _); refine Dl.d_b_sorted ?frA ?frB ?_; (case frA => walk_at "fr"); (case frB => rfl))
  | ((with_reducible show Dl.dE _ _ (Expr.Call (Expr.Name "int" _) _ _ _) _ _ _); refine Dl.d_c_int ?frA ?frB ?_; (case frA => walk_at "fr"); (case frB => rfl))
  | ((with_reducible show Dl.dE _ _ (Expr.Call (Expr.Name "tuple" _) _ _ _) _ _ _); refine Dl.d_c_tuple ?frA ?frB ?_; (case frA => walk_at "fr"); (case frB => rfl))
  | ((with_reducible show Dl.dE _ _ (Expr.Call (Expr.Name "list" _) _ _ _) _ _ _); refine Dl.d_c_list ?frA ?frB ?_; (case frA => walk_at "fr"); (case frB => rfl))
  | ((with_reducible show Dl.dE _ _ (Expr.Call (Expr.Name "str" _) _ _ _) _ _ _); refine Dl.d_c_str ?frA ?frB ?_; (case frA => walk_at "fr"); (case frB => rfl))
  | ((with_reducible show Dl.dE _ _ (Expr.Call (Expr.Name "bool" _) _ _ _) _ _ _); refine Dl.d_c_bool ?frA ?frB ?_; (case frA => walk_at "fr"); (case frB => rfl))
  | ((with_reducible show Dl.dE _ _ (Expr.Call (Expr.Name "set" _) _ _ _) _ _ _); refine Dl.d_c_set ?frA ?frB ?_; (case frA => walk_at "fr"); (case frB => rfl))
  | (refine Dl.d_fn (j := ?fnJ) (S := ?fnS) ?fnA ?fnB ?fnC ?_; (case fnA => assumption); (case fnB => exact Nat.le_of_ble_eq_true rfl); (case fnC => rfl)))
local macro_rules | `(tactic| walk_at "ed") => `(tactic| ((with_reducible show Dl.dE _ _ _ _ _ _); first
  | ((with_reducible show Dl.dE _ _ (Expr.Name _ _) _ _ _); walk_at "name")
  | ((with_reducible show Dl.dE _ _ (Expr.Constant (Const.int _) _ _) _ _ _); refine Dl.d_int ?_)
  | ((with_reducible show Dl.dE _ _ (Expr.Constant (Const.str _) _ _) _ _ _); refine Dl.d_str ?_)
  | ((with_reducible show Dl.dE _ _ (Expr.Constant (Const.bool _) _ _) _ _ _); refine Dl.d_bool ?_)
  | ((with_reducible show Dl.dE _ _ (Expr.Constant Const.none _ _) _ _ _); refine Dl.d_none ?_)
  | ((with_reducible show Dl.dE _ _ (Expr.Call (Expr.Name _ _) [_, Expr.Tuple [Expr.Name _ _, Expr.Name _ _] _ _] _ _) _ _ _); (refine Dl.d_isi2 ?frA ?frB ?frC ?frD ?frE ?frF ?_; (case frA => walk_at "fr"); (case frB => walk_at "fr"); (case frC => walk_at "fr"); (case frD => rfl); (case frE => rfl); (case frF => rfl)))
  | ((with_reducible show Dl.dE _ _ (Expr.Call (Expr.Name _ _) _ _ _) _ _ _); walk_at "call")
  | ((with_reducible show Dl.dE _ _ (Expr.BoolOp _ [_] _) _ _ _); refine Dl.d_one ?_)
  | ((with_reducible show Dl.dE _ _ (Expr.BoolOp BoolOp.And _ _) _ _ _); refine Dl.d_and ?_)
  | ((with_reducible show Dl.dE _ _ (Expr.BoolOp BoolOp.Or _ _) _ _ _); refine Dl.d_or ?_)
  | ((with_reducible show Dl.dE _ _ (Expr.UnaryOp UnaryOp.Not _ _) _ _ _); refine Dl.d_not ?_)
  | ((with_reducible show Dl.dE _ _ (Expr.UnaryOp UnaryOp.USub _ _) _ _ _); refine Dl.d_neg ?_)
  | ((with_reducible show Dl.dE _ _ (Expr.BinOp _ _ _ _) _ _ _); refine Dl.d_bin ?_)
  | ((with_reducible show Dl.dE _ _ (Expr.Compare _ [_] _ _) _ _ _); refine Dl.d_cmp ?_)
  | ((with_reducible show Dl.dE _ _ (Expr.Compare _ [_, _] _ _) _ _ _); refine Dl.d_chain ?_)
  | ((with_reducible show Dl.dE _ _ (Expr.IfExp _ _ _ _) _ _ _); refine Dl.d_if ?_)
  | ((with_reducible show Dl.dE _ _ (Expr.Tuple _ _ _) _ _ _); refine Dl.d_tup ?_)
  | ((with_reducible show Dl.dE _ _ (Expr.List _ _) _ _ _); refine Dl.d_lst ?_)
  | ((with_reducible show Dl.dE _ _ (Expr.Subscript _ (Expr.Slice _ _ _ _) _) _ _ _); refine Dl.d_slice ?_)
  | ((with_reducible show Dl.dE _ _ (Expr.Subscript _ _ _) _ _ _); refine Dl.d_ix ?_)))
local macro_rules | `(tactic| walk_at "ad") => `(tactic| ((with_reducible show Dl.dA _ _ _ _ _ _); first | refine Dl.a_nil ?_ | refine Dl.a_cons ?_))
local macro_rules | `(tactic| walk_at "td") => `(tactic| first
  | ((with_reducible show Dl.dT _ _ (Expr.UnaryOp UnaryOp.Not _ _) _ _ _); refine Dl.t_not ?_)
  | ((with_reducible show Dl.dT _ _ (Expr.BoolOp _ _ _) _ _ _); refine Dl.t_bool ?_)
  | ((with_reducible show Dl.dT _ _ (Expr.Compare _ [_] _ _) _ _ _); refine Dl.t_cmp ?_)
  | ((with_reducible show Dl.dT _ _ (Expr.Compare _ [_, _] _ _) _ _ _); refine Dl.t_chain ?_)
  | ((with_reducible show Dl.dT _ _ (_) _ _ _); refine Dl.t_val ?_)
  | ((with_reducible show Dl.dW _ _ (Expr.BoolOp BoolOp.And [_] _) _ _ _); refine Dl.w_and1 ?_)
  | ((with_reducible show Dl.dW _ _ (Expr.BoolOp BoolOp.Or [_] _) _ _ _); refine Dl.w_or1 ?_)
  | ((with_reducible show Dl.dW _ _ (Expr.BoolOp BoolOp.And _ _) _ _ _); refine Dl.w_and ?_)
  | ((with_reducible show Dl.dW _ _ (Expr.BoolOp BoolOp.Or _ _) _ _ _); refine Dl.w_or ?_))
local macro_rules | `(tactic| walk_at "od") => `(tactic| ((with_reducible show Dl.OpD _ _ _ _ _ _); first
  | refine Dl.o_add ?_ | refine Dl.o_sub ?_ | refine Dl.o_lt ?_ | refine Dl.o_le ?_ | refine Dl.o_gt ?_ | refine Dl.o_ge ?_ | refine Dl.o_eq ?_ | refine Dl.o_ne ?_ | refine Dl.o_eqS ?_ | refine Dl.o_mul ?_ ?_ | refine Dl.o_mod ?_ ?_ | refine Dl.o_fdivW ?_ ?_ | refine Dl.o_inS ?_ | refine Dl.o_notInS ?_
  | refine Dl.o_isN ?_ | refine Dl.o_notN ?_))
local macro_rules | `(tactic| walk_at "cd") => `(tactic| ((with_reducible show Dl.CallD _ _ _ _ _); first
  | refine Dl.c_lenT ?_ | refine Dl.c_lenL ?_ | refine Dl.c_lenO ?_ | refine Dl.c_abs ?_ | refine Dl.c_int ?_ | refine Dl.c_lenS ?_ ?_ | refine Dl.c_allT ?_
  | refine Dl.c_isInt ?_ | refine Dl.c_isBool ?_ | refine Dl.c_isStr ?_ | refine Dl.c_isTuple ?_ | refine Dl.c_isList ?_
  | refine Dl.c_allF ?_ | refine Dl.c_tupL ?_ | refine Dl.c_tupT ?_))
local macro_rules | `(tactic| walk_at "sd") => `(tactic| first
  | ((with_reducible show Dl.dS _ _ _ (Stmt.Return (some _) _) _ _ _ _); refine Dl.s_ret ?_)
  | ((with_reducible show Dl.dS _ _ _ (Stmt.Assign [Expr.Tuple [Expr.Name _ _, Expr.Name _ _] _ _] (Expr.Tuple [_, _] _ _) _) _ _ _ _); (refine Dl.s_pr (i := ?stI) (j := ?stJ) ?stA ?stB ?stC ?stD ?stE ?_; (case stA => rfl); (case stB => rfl); (case stC => rfl); (case stD => rfl); (case stE => rfl)))
  | ((with_reducible show Dl.dS _ _ _ (Stmt.If _ _ _ _) _ _ _ _); refine Dl.s_if ?_)
  | ((with_reducible show Dl.dS _ _ _ (Stmt.Assign [Expr.Name _ _] _ _) _ _ _ _); (refine Dl.s_st (i := ?stI) ?stA ?stB ?stC ?_; (case stA => rfl); (case stB => rfl); (case stC => rfl)))
  | ((with_reducible show Dl.dS _ _ _ (Stmt.Expr _ _) _ _ _ _); refine Dl.s_expr ?_)
  | ((with_reducible show Dl.dSs _ _ _ _ _ _ _ _); first | refine Dl.s_cons ?_ | refine Dl.s_nil ?_))
local macro_rules | `(tactic| walk_at "xd") => `(tactic| ((with_reducible show Dl.IxD _ _ _ _ _); first | (refine Dl.x_T (d := ?ixD) ?ixE ?_; (case ixE => rfl)) | (refine Dl.x_L (d := ?ixD) ?ixE ?_; (case ixE => rfl)) | (refine Dl.x_O (d := ?ixD) ?ixE ?_; (case ixE => rfl))))
local macro_rules | `(tactic| walk_at "ds") => `(tactic| (refine Dl.ex_dats (ds := ?dsW) ?dsA ?dsB ?_; (case dsA => rfl); (case dsB => rfl)))
local macro_rules | `(tactic| walk_at "dl") => `(tactic| first
  | walk_at "ds"
  | walk_at "ed"
  | walk_at "ad"
  | walk_at "td"
  | walk_at "od"
  | walk_at "cd"
  | walk_at "sd"
  | walk_at "xd"
  | ((with_reducible refine ⟨_, rfl, fun hc => ?_, fun hc => ?_⟩) <;> (first | contradiction | (exfalso; revert hc; simp [Dl.isTy, Dl.tyD]; done) | skip))
  | ((with_reducible refine ⟨fun hc => ?_, fun hc => ?_⟩) <;> (first | contradiction | (exfalso; revert hc; simp [Dl.isTy, Dl.tyD]; done) | skip))
  | (refine ⟨_, _, rfl, rfl, ?_⟩)
  | (refine ⟨rfl, ?_⟩)
  | (with_reducible refine ⟨_, rfl, ?_⟩)
  | (refine ⟨(_, _), rfl, ?_⟩)
  | (refine ⟨(_, _, _), rfl, ?_⟩)
  | (refine ⟨True.intro, fun _ hs => ?_, fun _ hx => False.elim hx⟩; replace hs : _ = Dl.Sl.dat _ := hs; subst hs)
  | (refine ⟨by assumption, fun _ hs => ?_, fun _ hx => False.elim hx⟩; replace hs : _ = Dl.Sl.dat _ := hs; subst hs)
  | fail)
/-! ### the law keeps its promise -/
def spLaw (K : PySem.W.Frag) : Sp := fun vs H Q _ => ∃ (a : Addr) (ns : List Int), vs = [V.ref a] ∧ ns.length ≤ 63 ∧ (∀ p ∈ tfL.map (He.cT K), H p.2 = some (.tbl #[])) ∧ SqL K H a (ns.map V.int) ∧ ∀ H', Q (.bl true) H'
theorem law_body : defBody s_law = (defBody s_law).headD (.Pass ⟨0, 0, 0, 0⟩) :: (defBody s_law).drop 1 := by kernel_rfl
theorem ok_law {w : World} {K : PySem.W.Frag} {mg : Str → Option Value} {base : Heap} {f fB : Addr} {fd fdB : FuncData} (F : FunD K "law" "law" (defArgs s_law) (defBody s_law) (defScope s_law) [] [] f fd) (FB : FunD K "_law_bag" "_law_bag" (defArgs s__law_bag) (defBody s__law_bag) (defScope s__law_bag) [] [] fB fdB)
    (gB : mg "_law_bag" = some (.ref fB)) (ga : mg "abs" = none) (hTop : ∀ W : Dl.Wd, W.K = K → W.T = tblT K → Top ⟨LW.prog, w, W, mg, base⟩ ∧ Ext ⟨LW.prog, w, W, mg, base⟩) : FnOk LW.prog w K mg base (L2.CX LW.prog w) 16 f fd ["script"] (spLaw K) := by
  have GB : FnOk LW.prog w K mg base (L2.CX LW.prog w) 1 fB fdB ["script"] (spBag K) := ok_bag FB ga
  have bB : Binds K fdB ["script"] [] := FB.bindsN fun _ _ _ _ _ _ us hl => match us, hl with | [_], _ => rfl
  obtain ⟨oc, od, dV, kV, doc, pm, an, cdv, ct, osl, rfl, lk, hcd, _, _⟩ := F.ex
  refine fn_of lk hcd sc_law (fun vs H Q E hs => ?_) (fun A outer s H vs Q E hr hs => ?_)
  · obtain ⟨a, ns, rfl, _⟩ := hs
    rfl
  obtain ⟨a, ns, rfl, hl, hTb, hS, hq⟩ := hs
  have tk : Takes (cxOf (L2.CX LW.prog w) LW.prog w K mg base N_law "law" (defScope s_law) f cdv A outer s H E) (fun cls d _ H => E cls d H) := takes_of rfl rfl rfl rfl
  refine ⟨_, pss_cons (ps_set (i := 1) sc_law.nd rfl (Or.inl rfl) (pe_callS GB (hr.mono (by decide)) rfl gB FB.kp bB (fun σ => passAt tk σ) (pa_cons (pe_var (i := 0) rfl (.inl rfl) (by decide) (by decide)) pa_nil))) (Dl.pss _ ((defBody s_law).drop 1)), ?_⟩
  refine ⟨V.ref a, rfl, a, ns, rfl, hS, hl, fun H' b q cells keep _ _ nq hcell hbag pos few => ?_⟩
  have c : Dl.Cpt (Dl.Gd.fn ⟨LW.prog, w, ⟨K, b, q, cells, tblT K⟩, mg, base⟩ N_law (defScope s_law) 15 "law" cdv) (cxOf (L2.CX LW.prog w) LW.prog w K mg base N_law "law" (defScope s_law) f cdv A outer s H E) :=
    ⟨rfl, rfl, rfl, rfl, rfl, rfl, rfl, hr, rfl, sc_law.nd, fun _ _ => rfl, passes_of rfl, fun q e => by cases e; exact ⟨rfl, rfl⟩, fun _ => ⟨rfl, rfl⟩, fun _ _ => rfl⟩
  obtain ⟨T, X⟩ := hTop ⟨K, b, q, cells, tblT K⟩ rfl rfl
  have good : Dl.Good ⟨K, b, q, cells, tblT K⟩ H' := by
    refine ⟨⟨⟨0, 1234567891, 0, hbag, by decide, by decide, by decide⟩, hcell, nq, pos, few⟩, fun p hp => ?_⟩
    have hp : p ∈ tblT K := hp
    unfold tblT at hp
    rcases List.mem_cons.mp hp with rfl | hp
    · exact LamX.TabS.nil (keep _ _ (hTb _ (List.mem_cons_self)))
    · rw [List.mem_singleton.mp hp]
      exact LamX.TabS.nil (keep _ _ (hTb _ (List.mem_cons_of_mem _ List.mem_cons_self)))
  have hbM : b ∈ [b] := List.mem_singleton.mpr rfl
  have trk : ∀ m ∈ [b], ∃ xs, H' m = some (.lst xs) := fun m hm => by rw [List.mem_singleton.mp hm]; exact ⟨_, hbag⟩
  have env : Dl.EnvOk ⟨K, b, q, cells, tblT K⟩ [b] [none, some .bag, none, none, none, none, none, none, none, none, none, none, none] ((L2.start N_law [V.ref a]).set 1 (some (V.ref b))) H' := by
    refine ⟨good, rfl, hbM, trk, fun i s h => ?_⟩
    match i, h with
    | 0, h => cases h
    | 1, h => cases h; exact ⟨_, rfl, .bag⟩
    | 2, h => cases h
    | 3, h => cases h
    | 4, h => cases h
    | 5, h => cases h
    | 6, h => cases h
    | 7, h => cases h
    | 8, h => cases h
    | 9, h => cases h
    | 10, h => cases h
    | 11, h => cases h
    | 12, h => cases h
    | i + 13, h => simp at h
  refine ok_rest T X cdv _ c (fun _ _ => True) Dl.Frame.true H' _ H' _ ⟨env, env.hk, Dl.Evo.refl H', fun _ h => h, fun _ h => .inl h, True.intro⟩ ⟨_, tk, fun x cls d σ H' e ok' q => q.elim⟩ (fun M' Γ' σ' H' s' q => q.elim) (fun v t H2 e ok' q => ?_)
  subst q
  cases ok' with
  | dat h =>
    cases h
    exact hq H2
end K76
set_option Elab.async false
set_option linter.all false
set_option maxRecDepth 100000
set_option maxHeartbeats 4000000
set_option autoImplicit false
namespace K76
open PySem PySem.Spec PyProof.Rows L2
local macro_rules | `(tactic| walk_at "nm") => `(tactic| (refine Dl.d_nm (s := ?nmS) ?nmA ?nmB ?_; (case nmA => rfl); (case nmB => rfl)))
local macro_rules | `(tactic| walk_at "fr") => `(tactic| first | assumption)
local macro_rules | `(tactic| walk_at "name") => `(tactic| first
  | walk_at "nm"
  | ((with_reducible show Dl.dE _ _ (Expr.Name "int" _) _ _ _); refine Dl.d_t_int ?frA ?frB ?_; (case frA => walk_at "fr"); (case frB => rfl))
  | ((with_reducible show Dl.dE _ _ (Expr.Name "tuple" _) _ _ _); refine Dl.d_t_tuple ?frA ?frB ?_; (case frA => walk_at "fr"); (case frB => rfl))
  | ((with_reducible show Dl.dE _ _ (Expr.Name "list" _) _ _ _); refine Dl.d_t_list ?frA ?frB ?_; (case frA => walk_at "fr"); (case frB => rfl))
  | ((with_reducible show Dl.dE _ _ (Expr.Name "str" _) _ _ _); refine Dl.d_t_str ?frA ?frB ?_; (case frA => walk_at "fr"); (case frB => rfl))
  | ((with_reducible show Dl.dE _ _ (Expr.Name "bool" _) _ _ _); refine Dl.d_t_bool ?frA ?frB ?_; (case frA => walk_at "fr"); (case frB => rfl))
  | ((with_reducible show Dl.dE _ _ (Expr.Name "set" _) _ _ _); refine Dl.d_t_set ?frA ?frB ?_; (case frA => walk_at "fr"); (case frB => rfl))
  | walk_at "glob")
local macro_rules | `(tactic| walk_at "glob") => `(tactic| first
  | (refine Dl.d_globInt (i := ?gI) ?gA ?gB ?_; (case gA => rfl); (case gB => assumption))
  | (refine Dl.d_globStr (i := ?gI) ?gA ?gB ?_; (case gA => rfl); (case gB => assumption)))
local macro_rules | `(tactic| walk_at "call") => `(tactic| first
  | ((with_reducible show Dl.dE _ _ (Expr.Call (Expr.Name "isinstance" _) _ _ _) _ _ _); refine Dl.d_b_isinstance ?frA ?frB ?_; (case frA => walk_at "fr"); (case frB => rfl))
  | ((with_reducible show Dl.dE _ _ (Expr.Call (Expr.Name "len" _) _ _ _) _ _ _); refine Dl.d_b_len ?frA ?frB ?_; (case frA => walk_at "fr"); (case frB => rfl))
  | ((with_reducible show Dl.dE _ _ (Expr.Call (Expr.Name "all" _) _ _ _) _ _ _); refine Dl.d_b_all ?frA ?frB ?_; (case frA => walk_at "fr"); (case frB => rfl))
  | ((with_reducible show Dl.dE _ _ (Expr.Call (Expr.Name "any" _) _ _ _) _ _ _); refine Dl.d_b_any ?frA ?frB ?_; (case frA => walk_at "fr"); (case frB => rfl))
  | ((with_reducible show Dl.dE _ _ (Expr.Call (Expr.Name "abs" _) _ _ _) _ _ _); refine Dl.d_b_abs ?frA ?frB ?_; (case frA => walk_at "fr"); (case frB => rfl))
  | ((with_reducible show Dl.dE _ _ (Expr.Call (Expr.Name "sum" _) _ _ _) _ _ _); refine Dl.d_b_sum ?frA ?frB ?_; (case frA => walk_at "fr"); (case frB => rfl))
  | ((with_reducible show Dl.dE _ _ (Expr.Call (Expr.Name "min" _) _ _ _) _ _ _); refine Dl.d_b_min ?frA ?frB ?_; (case frA => walk_at "fr"); (case frB => rfl))
  | ((with_reducible show Dl.dE _ _ (Expr.Call (Expr.Name "max" _) _ _ _) _ _ _); refine Dl.d_b_max ?frA ?frB ?_; (case frA => walk_at "fr"); (case frB => rfl))
  | ((with_reducible show Dl.dE _ _ (Expr.Call (Expr.Name "sorted" _) _ _ _) _ _ _); refine Dl.d_b_sorted ?frA ?frB ?_; (case frA => walk_at "fr"); (case frB => rfl))
  | ((with_reducible show Dl.dE _ _ (Expr.Call (Expr.Name "int" _) _ _ _) _ _ _); refine Dl.d_c_int ?frA ?frB ?_; (case frA => walk_at "fr"); (case frB => rfl))
  | ((with_reducible show Dl.dE _ _ (Expr.Call (Expr.Name "tuple" _) _ _ _) _ _ _); refine Dl.d_c_tuple ?frA ?frB ?_; (case frA => walk_at "fr"); (case frB => rfl))
  | ((with_reducible show Dl.dE _ _ (Expr.Call (Expr.Name "list" _) _ _ _) _ _ _); refine Dl.d_c_list ?frA ?frB ?_; (case frA => walk_at "fr"); (case frB => rfl))
  | ((with_reducible show Dl.dE _ _ (Expr.Call (Expr.Name "str" _) _ _ _) _ _ _); refine Dl.d_c_str ?frA ?frB ?_; (case frA => walk_at "fr"); (case frB => rfl))
  | ((with_reducible show Dl.dE _ _ (Expr.Call (Expr.Name "bool" _) _ _ _) _ _ _); refine Dl.d_c_bool ?frA ?frB ?_; (case frA => walk_at "fr"); (case frB => rfl))
  | ((with_reducible show Dl.dE _ _ (Expr.Call (Expr.Name "set" _) _ _ _) _ _ _); refine Dl.d_c_set ?frA ?frB ?_; (case frA => walk_at "fr"); (case frB => rfl))
  | (refine Dl.d_fn (j := ?fnJ) (S := ?fnS) ?fnA ?fnB ?fnC ?_; (case fnA => assumption); (case fnB => exact Nat.le_of_ble_eq_true rfl); (case fnC => rfl)))
local macro_rules | `(tactic| walk_at "ed") => `(tactic| ((with_reducible show Dl.dE _ _ _ _ _ _); first
  | ((with_reducible show Dl.dE _ _ (Expr.Name _ _) _ _ _); walk_at "name")
  | ((with_reducible show Dl.dE _ _ (Expr.Constant (Const.int _) _ _) _ _ _); refine Dl.d_int ?_)
  | ((with_reducible show Dl.dE _ _ (Expr.Constant (Const.str _) _ _) _ _ _); refine Dl.d_str ?_)
  | ((with_reducible show Dl.dE _ _ (Expr.Constant (Const.bool _) _ _) _ _ _); refine Dl.d_bool ?_)
  | ((with_reducible show Dl.dE _ _ (Expr.Constant Const.none _ _) _ _ _); refine Dl.d_none ?_)
  | ((with_reducible show Dl.dE _ _ (Expr.Call (Expr.Name _ _) [_, Expr.Tuple [Expr.Name _ _, Expr.Name _ _] _ _] _ _) _ _ _); (refine Dl.d_isi2 ?frA ?frB ?frC ?frD ?frE ?frF ?_; (case frA => walk_at "fr"); (case frB => walk_at "fr"); (case frC => walk_at "fr"); (case frD => rfl); (case frE => rfl); (case frF => rfl)))
  | ((with_reducible show Dl.dE _ _ (Expr.Call (Expr.Name _ _) _ _ _) _ _ _); walk_at "call")
  | ((with_reducible show Dl.dE _ _ (Expr.BoolOp _ [_] _) _ _ _); refine Dl.d_one ?_)
  | ((with_reducible show Dl.dE _ _ (Expr.BoolOp BoolOp.And _ _) _ _ _); refine Dl.d_and ?_)
  | ((with_reducible show Dl.dE _ _ (Expr.BoolOp BoolOp.Or _ _) _ _ _); refine Dl.d_or ?_)
  | ((with_reducible show Dl.dE _ _ (Expr.UnaryOp UnaryOp.Not _ _) _ _ _); refine Dl.d_not ?_)
  | ((with_reducible show Dl.dE _ _ (Expr.UnaryOp UnaryOp.USub _ _) _ _ _); refine Dl.d_neg ?_)
  | ((with_reducible show Dl.dE _ _ (Expr.BinOp _ _ _ _) _ _ _); refine Dl.d_bin ?_)
  | ((with_reducible show Dl.dE _ _ (Expr.Compare _ [_] _ _) _ _ _); refine Dl.d_cmp ?_)
  | ((with_reducible show Dl.dE _ _ (Expr.Compare _ [_, _] _ _) _ _ _); refine Dl.d_chain ?_)
  | ((with_reducible show Dl.dE _ _ (Expr.IfExp _ _ _ _) _ _ _); refine Dl.d_if ?_)
  | ((with_reducible show Dl.dE _ _ (Expr.Tuple _ _ _) _ _ _); refine Dl.d_tup ?_)
  | ((with_reducible show Dl.dE _ _ (Expr.List _ _) _ _ _); refine Dl.d_lst ?_)
  | ((with_reducible show Dl.dE _ _ (Expr.Subscript _ (Expr.Slice _ _ _ _) _) _ _ _); refine Dl.d_slice ?_)
  | ((with_reducible show Dl.dE _ _ (Expr.Subscript _ _ _) _ _ _); refine Dl.d_ix ?_)))
local macro_rules | `(tactic| walk_at "ad") => `(tactic| ((with_reducible show Dl.dA _ _ _ _ _ _); first | refine Dl.a_nil ?_ | refine Dl.a_cons ?_))
local macro_rules | `(tactic| walk_at "td") => `(tactic| first
  | ((with_reducible show Dl.dT _ _ (Expr.UnaryOp UnaryOp.Not _ _) _ _ _); refine Dl.t_not ?_)
  | ((with_reducible show Dl.dT _ _ (Expr.BoolOp _ _ _) _ _ _); refine Dl.t_bool ?_)
  | ((with_reducible show Dl.dT _ _ (Expr.Compare _ [_] _ _) _ _ _); refine Dl.t_cmp ?_)
  | ((with_reducible show Dl.dT _ _ (Expr.Compare _ [_, _] _ _) _ _ _); refine Dl.t_chain ?_)
  | ((with_reducible show Dl.dT _ _ (_) _ _ _); refine Dl.t_val ?_)
  | ((with_reducible show Dl.dW _ _ (Expr.BoolOp BoolOp.And [_] _) _ _ _); refine Dl.w_and1 ?_)
  | ((with_reducible show Dl.dW _ _ (Expr.BoolOp BoolOp.Or [_] _) _ _ _); refine Dl.w_or1 ?_)
  | ((with_reducible show Dl.dW _ _ (Expr.BoolOp BoolOp.And _ _) _ _ _); refine Dl.w_and ?_)
  | ((with_reducible show Dl.dW _ _ (Expr.BoolOp BoolOp.Or _ _) _ _ _); refine Dl.w_or ?_))
local macro_rules | `(tactic| walk_at "od") => `(tactic| ((with_reducible show Dl.OpD _ _ _ _ _ _); first
  | refine Dl.o_add ?_ | refine Dl.o_sub ?_ | refine Dl.o_lt ?_ | refine Dl.o_le ?_ | refine Dl.o_gt ?_ | refine Dl.o_ge ?_ | refine Dl.o_eq ?_ | refine Dl.o_ne ?_ | refine Dl.o_eqS ?_ | refine Dl.o_mul ?_ ?_ | refine Dl.o_mod ?_ ?_ | refine Dl.o_fdivW ?_ ?_ | refine Dl.o_inS ?_ | refine Dl.o_notInS ?_
  | refine Dl.o_isN ?_ | refine Dl.o_notN ?_))
local macro_rules | `(tactic| walk_at "cd") => `(tactic| ((with_reducible show Dl.CallD _ _ _ _ _); first
  | refine Dl.c_lenT ?_ | refine Dl.c_lenL ?_ | refine Dl.c_lenO ?_ | refine Dl.c_abs ?_ | refine Dl.c_int ?_ | refine Dl.c_lenS ?_ ?_ | refine Dl.c_allT ?_
  | refine Dl.c_isInt ?_ | refine Dl.c_isBool ?_ | refine Dl.c_isStr ?_ | refine Dl.c_isTuple ?_ | refine Dl.c_isList ?_
  | refine Dl.c_allF ?_ | refine Dl.c_tupL ?_ | refine Dl.c_tupT ?_))
local macro_rules | `(tactic| walk_at "sd") => `(tactic| first
  | ((with_reducible show Dl.dS _ _ _ (Stmt.Return (some _) _) _ _ _ _); refine Dl.s_ret ?_)
  | ((with_reducible show Dl.dS _ _ _ (Stmt.Assign [Expr.Tuple [Expr.Name _ _, Expr.Name _ _] _ _] (Expr.Tuple [_, _] _ _) _) _ _ _ _); (refine Dl.s_pr (i := ?stI) (j := ?stJ) ?stA ?stB ?stC ?stD ?stE ?_; (case stA => rfl); (case stB => rfl); (case stC => rfl); (case stD => rfl); (case stE => rfl)))
  | ((with_reducible show Dl.dS _ _ _ (Stmt.If _ _ _ _) _ _ _ _); refine Dl.s_if ?_)
  | ((with_reducible show Dl.dS _ _ _ (Stmt.Assign [Expr.Name _ _] _ _) _ _ _ _); (refine Dl.s_st (i := ?stI) ?stA ?stB ?stC ?_; (case stA => rfl); (case stB => rfl); (case stC => rfl)))
  | ((with_reducible show Dl.dS _ _ _ (Stmt.Expr _ _) _ _ _ _); refine Dl.s_expr ?_)
  | ((with_reducible show Dl.dSs _ _ _ _ _ _ _ _); first | refine Dl.s_cons ?_ | refine Dl.s_nil ?_))
local macro_rules | `(tactic| walk_at "xd") => `(tactic| ((with_reducible show Dl.IxD _ _ _ _ _); first | (refine Dl.x_T (d := ?ixD) ?ixE ?_; (case ixE => rfl)) | (refine Dl.x_L (d := ?ixD) ?ixE ?_; (case ixE => rfl)) | (refine Dl.x_O (d := ?ixD) ?ixE ?_; (case ixE => rfl))))
local macro_rules | `(tactic| walk_at "ds") => `(tactic| (refine Dl.ex_dats (ds := ?dsW) ?dsA ?dsB ?_; (case dsA => rfl); (case dsB => rfl)))
local macro_rules | `(tactic| walk_at "dl") => `(tactic| first
  | walk_at "ds"
  | walk_at "ed"
  | walk_at "ad"
  | walk_at "td"
  | walk_at "od"
  | walk_at "cd"
  | walk_at "sd"
  | walk_at "xd"
  | ((with_reducible refine ⟨_, rfl, fun hc => ?_, fun hc => ?_⟩) <;> (first | contradiction | (exfalso; revert hc; simp [Dl.isTy, Dl.tyD]; done) | skip))
  | ((with_reducible refine ⟨fun hc => ?_, fun hc => ?_⟩) <;> (first | contradiction | (exfalso; revert hc; simp [Dl.isTy, Dl.tyD]; done) | skip))
  | (refine ⟨_, _, rfl, rfl, ?_⟩)
  | (refine ⟨rfl, ?_⟩)
  | (with_reducible refine ⟨_, rfl, ?_⟩)
  | (refine ⟨(_, _), rfl, ?_⟩)
  | (refine ⟨(_, _, _), rfl, ?_⟩)
  | (refine ⟨True.intro, fun _ hs => ?_, fun _ hx => False.elim hx⟩; replace hs : _ = Dl.Sl.dat _ := hs; subst hs)
  | (refine ⟨by assumption, fun _ hs => ?_, fun _ hx => False.elim hx⟩; replace hs : _ = Dl.Sl.dat _ := hs; subst hs)
  | fail)
/-! ### the end -/
theorem facts {w : World} {h : Heap} {K : PySem.W.Frag} {mg : Str → Option Value} {fa : Addr} (X : K.In h) (G : h.Ns mainGlobals mg) (hfa : mg ("law" : Str) = some (.ref fa)) (S : HY.SaysY faL fnL tfL exL "BadKind" 11 w h K) :
    LamX.LawAtS LW w K (L2.CX LW.prog w) 16 63 "script" mg fa h := by
  have D : He.SaysD faL fnL K := S.sx.t.d
  obtain ⟨fdB, FB⟩ := D.def_ 31 (d := d__law_bag) rfl
  obtain ⟨fd, F⟩ := D.def_ 47 (d := d_law) rfl
  have e := hfa.symm.trans (He.glo_ok X G (D.fact 47 (f := .glo "law") rfl))
  injection e with e
  injection e with e
  subst e
  refine ⟨fd, tfL.map (He.cT K), spLaw K, fun p hp => ?_, fun p hp => ?_, fun p hp => ?_, fun s v => FunD.bindsA (ps := ["script"]) F (fun _ _ _ _ _ _ us hl => match us, hl with | [_], _ => rfl) s [v] rfl, fun H a ns hl _ hT hS => ⟨a, ns, rfl, hl, hT, hS, fun _ => rfl⟩, fun base kin ns hTB => ?_⟩
  · obtain ⟨q, hq, rfl⟩ := List.mem_map.mp hp
    exact S.sx.empty q hq
  · obtain ⟨q, hq, rfl⟩ := List.mem_map.mp hp
    exact S.sx.out q hq
  · obtain ⟨q, hq, rfl⟩ := List.mem_map.mp hp
    exact PySem.W.codeHd_of_K X (S.sx.hd q hq)
  · exact ok_law F FB (He.glo_ok X G (D.fact 31 (f := .glo "_law_bag") rfl)) (He.free_ok X G (D.fact 62 (f := .free "abs") rfl)) fun W hW hWT => by
      subst hW
      exact tops_of (G := ⟨LW.prog, w, W, mg, base⟩) rfl kin ns S hWT hTB
theorem cx_no (w : World) (H : Hp) (s : Shared) (e : Value) (s' : Shared) (h : L2.CX LW.prog w [] H s (fun _ _ _ => False) e s') : False := by
  unfold L2.CX at h
  obtain ⟨_, _, _, _, _, _, _, _, _, _, _, _, z⟩ := h
  exact z
end K76
open PySem PySem.W PySem.Calls PyProof.Rows
set_option maxHeartbeats 0 in
theorem PySem.Challenge.cw_mostwebs_k76_faults_of_wide_webs_holds : PySem.Challenge.rw_mostwebs_k76_faults_of_wide_webs.Holds := by
  w_on; o_law
  refine HandSHeadRun.head_any (r := OpenLaw.row PySem.Challenge.rw_mostwebs_k76_faults_of_wide_webs) (q := view (OpenLaw.row PySem.Challenge.rw_mostwebs_k76_faults_of_wide_webs).prog [67]) (H := K76.hk) (ob := K76.ob) (M := 6000) (loose := K76.looseL) (d := HandSHeadRun.topDef (OpenLaw.row PySem.Challenge.rw_mostwebs_k76_faults_of_wide_webs).prog 67) (kwd := []) K76.ob_eq
    (by kernel_rfl) (fun s => by kernel_rfl) K76.run (by kernel_rfl) (by kernel_rfl) (by kernel_rfl) (by rfl) (by first | assumption | decide +kernel) (by decide +kernel) ⟨rfl, rfl, rfl, rfl, rfl, by decide +kernel⟩ ?hw ?hc
  case hw => w_witness2
  case hc =>
    refine LamX.walk_ofTsE (l := PySem.Challenge.rw_mostwebs_k76_faults_of_wide_webs) (n := 63) (k := 16) (x := "script") (CX := fun w => L2.CX (PySem.Challenge.rw_mostwebs_k76_faults_of_wide_webs).prog w) rfl (by decide) (by kernel_rfl) ⟨rfl, by decide, by decide⟩ ?F K76.cx_no
    intro w mg fa h Y G hmg0
    obtain ⟨K, KX, S⟩ := Y
    have hmg : mg ("law" : PySem.Str) = some (.ref fa) := by
      have e : (HandSHeadRun.topDef (OpenLaw.row PySem.Challenge.rw_mostwebs_k76_faults_of_wide_webs).prog 67).name = ("law" : PySem.Str) := by kernel_rfl
      rw [← e]
      exact hmg0
    exact ⟨K, KX, K76.facts KX G hmg S⟩
