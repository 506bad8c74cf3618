import PyProof.Rows.All
import Wide.All
import OpenK.AllK
import Wide.FinOn
import HandS.ForMost
import HandS.ForExc
import HandS.Lambda
import HandS.IsInst
import HandS.Wide
import HandS.TupAny
import HandS.TupLe
import HandS.Flow
import KE.DataCmp
import KE.DataEq
import HandS.Zip
import HandS.Style
import HandS.SortInts
import KE.KTupSum
import PyProof.Rows.SeqMore
import HandS.TupMul
import PyProof.ReprReads
import PyProof.ReprRoads
import KE.SortData
import HandS.SetFor
import HandS.RaiseMore
import HandS.SortKw
import KE.DataMinMax
import KE.DataFind
import HandS.FStrTup
import KE.GoesMore
import PyProof.ReprLen
import KE.KRevSl
import HandS.ExcIs
import HandS.TryOnly
import HandS.Codes
import HandS.EndTab
import KE.KNestM
import KE.KLam
import PySem.Challenge.RW_emptierbox_k04_products_and_what_is_over
set_option Elab.async false
set_option linter.all false
set_option maxRecDepth 100000
set_option maxHeartbeats 4000000
/-! A small machine by values: what Python's text does with data, as total functions; each construct's rule over the hand layer. -/
namespace Vm
open PySem L2

abbrev D := PyData
abbrev Fg := PySem.W.Frag
/-- a dict's key as data -/
def kD : L2.Key → D
  | .inl i => .int i
  | .inr x => .str x

/-- a tuple of keys as data -/
def tupK (ks : List L2.Key) : D := .tuple (ks.map kD)
/-- ahead of the entries of a dict whose keys are tuples -/
def tagT : D × D := (.list [], .none)
def isTag : List (D × D) → Bool
  | (.list _, _) :: _ => true
  | _ => false
/-! ### a value stands for data -/
mutual
inductive Rp (K : Fg) (H : Hp) : V → PyData → Prop
  | non : Rp K H .non .none
  | bl (b : Bool) : Rp K H (.bl b) (.bool b)
  | int (i : Int) : Rp K H (.int i) (.int i)
  | str (x : Str) : Rp K H (.str x) (.str x)
  | lst {a : Addr} {xs : List V} {ds : List PyData} : SqL K H a xs → RpAll K H xs ds → Rp K H (.ref a) (.list ds)
  | tup {a : Addr} {xs : List V} {ds : List PyData} : H a = some (.tup xs) → RpAll K H xs ds → Rp K H (.ref a) (.tuple ds)
  | dct {a : Addr} {ws : List (L2.Key × V)} {es : List (PyData × PyData)} : H a = some (.dK ws) → RpKv K H ws es → Rp K H (.ref a) (.dict es)
  | dctT {a : Addr} {od : Obj} {ws : List (List L2.Key × V)} {es : List (PyData × PyData)} : H a = some (.frz od (.dT ws)) → RpKt K H ws es → Rp K H (.ref a) (.dict (tagT :: es))
inductive RpAll (K : Fg) (H : Hp) : List V → List PyData → Prop
  | nil : RpAll K H [] []
  | cons {v : V} {vs : List V} {d : PyData} {ds : List PyData} : Rp K H v d → RpAll K H vs ds → RpAll K H (v :: vs) (d :: ds)
inductive RpKv (K : Fg) (H : Hp) : List (L2.Key × V) → List (PyData × PyData) → Prop
  | nil : RpKv K H [] []
  | cons {k : L2.Key} {v : V} {ws : List (L2.Key × V)} {d : PyData} {es : List (PyData × PyData)} : Rp K H v d → RpKv K H ws es → RpKv K H ((k, v) :: ws) ((kD k, d) :: es)
inductive RpKt (K : Fg) (H : Hp) : List (List L2.Key × V) → List (PyData × PyData) → Prop
  | nil : RpKt K H [] []
  | cons {k : List L2.Key} {v : V} {ws : List (List L2.Key × V)} {d : PyData} {es : List (PyData × PyData)} : Rp K H v d → RpKt K H ws es → RpKt K H ((k, v) :: ws) ((tupK k, d) :: es)
end

section
variable {K : Fg} {G H : Hp}
theorem sqT_mono {a : Addr} {xs : List V} (e : Same G H) (h : SqT K G a xs) : SqT K H a xs := by
  rcases h with (h | ⟨o, h⟩) | h
  · exact .inl (.inl (e _ _ h))
  · exact .inl (.inr ⟨o, e _ _ h⟩)
  · exact .inr h
mutual
theorem Rp.mono (e : Same G H) : ∀ (d : PyData) (v : V), Rp K G v d → Rp K H v d
  | .none, _, h => by cases h; exact .non
  | .bool _, _, h => by cases h; exact .bl _
  | .int _, _, h => by cases h; exact .int _
  | .str _, _, h => by cases h; exact .str _
  | .list ds, _, h => by
    cases h with
    | lst hs ha => exact .lst (e.seq hs) (RpAll.mono e ds _ ha)
  | .tuple ds, _, h => by
    cases h with
    | tup hs ha => exact .tup (e _ _ hs) (RpAll.mono e ds _ ha)
  | .dict es, _, h => by
    cases h with
    | dct hs ha => exact .dct (e _ _ hs) (RpKv.mono e es _ ha)
    | dctT hs ha => exact .dctT (e _ _ hs) (RpKt.mono e _ _ ha)
theorem RpAll.mono (e : Same G H) : ∀ (ds : List PyData) (vs : List V), RpAll K G vs ds → RpAll K H vs ds
  | [], _, h => by cases h; exact .nil
  | d :: ds, _, h => by
    cases h with
    | cons h1 h2 => exact .cons (Rp.mono e d _ h1) (RpAll.mono e ds _ h2)
theorem RpKv.mono (e : Same G H) : ∀ (es : List (PyData × PyData)) (ws : List (L2.Key × V)), RpKv K G ws es → RpKv K H ws es
  | [], _, h => by cases h; exact .nil
  | (_, d) :: es, _, h => by
    cases h with
    | cons h1 h2 => exact .cons (Rp.mono e d _ h1) (RpKv.mono e es _ h2)
theorem RpKt.mono (e : Same G H) : ∀ (es : List (PyData × PyData)) (ws : List (List L2.Key × V)), RpKt K G ws es → RpKt K H ws es
  | [], _, h => by cases h; exact .nil
  | (_, d) :: es, _, h => by
    cases h with
    | cons h1 h2 => exact .cons (Rp.mono e d _ h1) (RpKt.mono e es _ h2)
end
theorem RpAll.length : ∀ {vs : List V} {ds : List PyData}, RpAll K H vs ds → vs.length = ds.length
  | _, _, .nil => rfl
  | _, _, .cons _ t => congrArg (· + 1) t.length
theorem RpAll.get : ∀ {vs : List V} {ds : List PyData} {i : Nat} {d : PyData}, RpAll K H vs ds → ds[i]? = some d → ∃ v, vs[i]? = some v ∧ Rp K H v d
  | _, _, _, _, .nil, e => by simp at e
  | _, _, 0, _, .cons r _, e => by
    simp at e
    subst e
    exact ⟨_, rfl, r⟩
  | _, _, i + 1, d, .cons _ t, e => by
    obtain ⟨v, h1, h2⟩ := RpAll.get (i := i) (d := d) t (by simpa using e)
    exact ⟨v, by simpa using h1, h2⟩
theorem RpAll.append : ∀ {vs ws : List V} {ds es : List PyData}, RpAll K H vs ds → RpAll K H ws es → RpAll K H (vs ++ ws) (ds ++ es)
  | _, _, _, _, .nil, s => s
  | _, _, _, _, .cons r t, s => .cons r (t.append s)
theorem RpAll.set {v : V} {d : PyData} (r : Rp K H v d) : ∀ {vs : List V} {ds : List PyData} (i : Nat), RpAll K H vs ds → RpAll K H (vs.set i v) (ds.set i d)
  | _, _, _, .nil => .nil
  | _, _, 0, .cons _ t => .cons r t
  | _, _, i + 1, .cons q t => .cons q (RpAll.set r i t)
theorem RpAll.take : ∀ {vs : List V} {ds : List PyData} (n : Nat), RpAll K H vs ds → RpAll K H (vs.take n) (ds.take n)
  | _, _, 0, _ => .nil
  | _, _, _ + 1, .nil => .nil
  | _, _, n + 1, .cons r t => .cons r (t.take n)
theorem RpAll.drop : ∀ {vs : List V} {ds : List PyData} (n : Nat), RpAll K H vs ds → RpAll K H (vs.drop n) (ds.drop n)
  | _, _, 0, r => r
  | _, _, _ + 1, .nil => .nil
  | _, _, n + 1, .cons _ t => t.drop n
theorem RpAll.reverse : ∀ {vs : List V} {ds : List PyData}, RpAll K H vs ds → RpAll K H vs.reverse ds.reverse
  | _, _, .nil => .nil
  | _, _, .cons r t => by
    rw [List.reverse_cons, List.reverse_cons]
    exact t.reverse.append (.cons r .nil)
end

/-! ### cells, slots, states -/
/-- what a mutable object holds; gone: it became data -/
inductive Cell where
  | l (ds : List D)
  | k (kvs : List (L2.Key × D))
  | t (kvs : List (List L2.Key × D))
  | r (ks : List (List L2.Key))
  | i (n j : Nat) (ds : List D)
  | gone
/-- a name's slot: without value (or forgotten), data, a cell -/
inductive Sl where
  | u
  | d (x : D)
  | c (n : Nat)
  | x (n : String)
  | f
structure S where
  v : List Sl
  m : List Cell
/-- a value: data, an object just made that nobody else holds, a cell -/
inductive Rv where
  | d (x : D)
  | new (c : Cell)
  | ref (n : Nat)
inductive R (α : Type) where
  | ok (a : α) (s : S)
  | ex (e : String) (s : S)
  | bad
def R.bind {α β : Type} (r : R α) (k : α → S → R β) : R β :=
  match r with
  | .ok a s => k a s
  | .ex e s => .ex e s
  | .bad => .bad
def Res {α : Type} (P : α → S → Prop) (E : String → S → Prop) : R α → Prop
  | .ok a s => P a s
  | .ex e s => E e s
  | .bad => False
theorem Res.bind {α β : Type} {P : β → S → Prop} {E : String → S → Prop} {r : R α} {k : α → S → R β} (h : Res P E (r.bind k)) : Res (fun a s => Res P E (k a s)) E r := by
  cases r <;> exact h
theorem Res.mono {α : Type} {P P' : α → S → Prop} {E E' : String → S → Prop} {r : R α} (h : Res P E r) (hp : ∀ a s, P a s → P' a s) (he : ∀ e s, E e s → E' e s) : Res P' E' r := by
  cases r with
  | ok a s => exact hp a s h
  | ex e s => exact he e s h
  | bad => exact h

def KvAll (K : Fg) (G : Hp) {κ : Type} : List (κ × V) → List (κ × D) → Prop := Paired fun (p : κ × V) (q : κ × D) => p.1 = q.1 ∧ Rp K G p.2 q.2
def COk (K : Fg) (G H : Hp) (p : Addr) : Cell → Prop
  | .l ds => G p = none ∧ ∃ vs, H p = some (.lst vs) ∧ RpAll K G vs ds
  | .k kvs => G p = none ∧ ∃ ws, H p = some (.dK ws) ∧ KvAll K G ws kvs
  | .t kvs => G p = none ∧ ∃ ws, H p = some (.dT ws) ∧ KvAll K G ws kvs
  | .r ks => G p = none ∧ ∃ ws : List (List L2.Key × V), H p = some (.dT ws) ∧ ws.map (·.1) = ks
  | .i _ _ ds => G p = none ∧ ∃ vs, H p = some (.lst vs) ∧ RpAll K G vs ds
  | .gone => ∃ o, G p = some o
/-- the ground (what never changes), the cells' addresses, what others hold, the heap -/
structure Wd where
  G : Hp
  r : List Addr
  F : Addr → Prop
  H : Hp
def NoTb (o : HO) : Prop := ∀ ps, o ≠ .tbl ps
/-- the world went on: the ground grew, what is no cell stands as it stood, cells came -/
structure Le (w w' : Wd) : Prop where
  g : Same w.G w'.G
  k : ∀ a o, w.H a = some o → a ∉ w.r → ∃ o', w'.H a = some o' ∧ (NoTb o → o' = o)
  p : w.r <+: w'.r
  f : ∀ p, p ∈ w'.r → p ∈ w.r ∨ w.H p = none
  s : w'.F = w.F
theorem Le.kN {w w' : Wd} (a : Le w w') {p : Addr} {o : HO} (e : w.H p = some o) (n : p ∉ w.r) (h : NoTb o) : w'.H p = some o := by
  obtain ⟨o', e1, e2⟩ := a.k p o e n
  rw [e1, e2 h]
theorem Le.kX {w w' : Wd} (a : Le w w') {p : Addr} {o : HO} (e : w.H p = some o) (n : p ∉ w.r) : ∃ o', w'.H p = some o' := by
  obtain ⟨o', e1, _⟩ := a.k p o e n
  exact ⟨o', e1⟩
theorem keepsK {H H' : Hp} {p : Addr} {o : HO} (e : H' p = some o) : ∃ o', H' p = some o' ∧ (NoTb o → o' = o) := ⟨o, e, fun _ => rfl⟩
def NoTG (G : Hp) : Prop := ∀ b o, G b = some o → NoTb o
theorem noTG_upd {G : Hp} {p : Addr} {o : HO} (h : NoTG G) (n : NoTb o) : NoTG (upd G p o) := fun b u e => by
  by_cases hb : b = p
  · subst hb
    rw [upd_same] at e
    cases e
    exact n
  · rw [upd_ne hb] at e
    exact h b u e
theorem noTb_tup {vs : List V} : NoTb (.tup vs) := fun _ z => by cases z
theorem noTb_l {vs : List V} : NoTb (.lst vs) := fun _ z => by cases z
theorem noTb_k {vs : List (L2.Key × V)} : NoTb (.dK vs) := fun _ z => by cases z
theorem noTb_t {vs : List (List L2.Key × V)} : NoTb (.dT vs) := fun _ z => by cases z
theorem Le.refl (w : Wd) : Le w w := ⟨Same.refl _, fun _ _ e _ => ⟨_, e, fun _ => rfl⟩, List.prefix_refl _, fun _ h => .inl h, rfl⟩
theorem Le.trans {w w1 w2 : Wd} (a : Le w w1) (b : Le w1 w2) : Le w w2 where
  g := a.g.trans b.g
  k := fun c o e n => by
    obtain ⟨o1, e1, q1⟩ := a.k c o e n
    obtain ⟨o2, e2, q2⟩ := b.k c o1 e1 fun m => by
      rcases a.f c m with h | h
      · exact n h
      · rw [e] at h; cases h
    exact ⟨o2, e2, fun hn => by
      have := q1 hn
      subst this
      exact q2 hn⟩
  p := a.p.trans b.p
  f := fun c h => by
    rcases b.f c h with h1 | h1
    · exact a.f c h1
    · by_cases hm : c ∈ w.r
      · exact .inl hm
      · right
        cases q : w.H c with
        | none => rfl
        | some o =>
          obtain ⟨_, this, _⟩ := a.k c o q hm
          rw [h1] at this; cases this
  s := b.s.trans a.s
theorem Le.cell {w w' : Wd} (a : Le w w') {n : Nat} {p : Addr} (h : w.r[n]? = some p) : w'.r[n]? = some p := by
  obtain ⟨t, e⟩ := a.p
  rw [← e]
  rw [List.getElem?_append_left]
  · exact h
  · exact (List.getElem?_eq_some_iff.mp h).1

theorem Le.mem {w w' : Wd} (a : Le w w') {p : Addr} (h : p ∈ w.r) : p ∈ w'.r := by
  obtain ⟨t, e⟩ := a.p
  rw [← e]
  exact List.mem_append_left _ h
abbrev Wd.f (w : Wd) (F : Addr → Prop) : Wd := ⟨w.G, w.r, F, w.H⟩
theorem Le.ch {w w' : Wd} (a : Le w w') (F : Addr → Prop) : Le (w.f F) (w'.f F) := ⟨a.g, a.k, a.p, a.f, rfl⟩
/-- an object that stays, where no cell is -/
theorem Le.stays {w w' : Wd} (a : Le w w') {p : Addr} {o : HO} (n : p ∉ w.r) (e : w.H p = some o) (h : NoTb o) : p ∉ w'.r ∧ w'.H p = some o := by
  refine ⟨fun m => ?_, a.kN e n h⟩
  rcases a.f p m with z | z
  · exact n z
  · rw [e] at z
    cases z
/-- the world ahead of all -/
def bot : Wd := ⟨fun _ => none, [], fun _ => False, fun _ => none⟩
theorem Le.bot (w : Wd) : Le bot (w.f bot.F) := ⟨fun _ _ e => (nomatch (show (none : Option HO) = some _ from e)), fun _ _ e _ => (nomatch (show (none : Option HO) = some _ from e)), List.nil_prefix, fun _ _ => .inr rfl, rfl⟩
/-- exceptions by the names of their classes; the tables of code objects of the defs that hold lambdas -/
structure EC where
  f : String → Addr
  T : List (Addr × Str)
  X : List String
  w : Wd
  lf : Addr
instance : CoeFun EC fun _ => String → Addr := ⟨EC.f⟩
def TabOk (ec : EC) (F : Addr → Prop) (H : Hp) : Prop := ∀ q, q ∈ ec.T → F q.1 ∧ LamX.TabS H q.1 q.2
theorem TabOk.ext {ec : EC} {F : Addr → Prop} {H H' : Hp} (t : TabOk ec F H) (h : ∀ b o, H b = some o → H' b = some o) : TabOk ec F H' := fun q hq => ⟨(t q hq).1, (t q hq).2.ext h⟩
theorem TabOk.back {ec : EC} {F F' : Addr → Prop} {H H' : Hp} (t : TabOk ec F H) (t' : TabOk ec F' H') : TabOk ec F H' := fun q hq => ⟨(t q hq).1, (t' q hq).2⟩
theorem TabOk.f {ec : EC} {F F' : Addr → Prop} {H : Hp} (t : TabOk ec F H) (h : ∀ p, F p → F' p) : TabOk ec F' H := fun q hq => ⟨h _ (t q hq).1, (t q hq).2⟩
/-- an object that is no table and no code object is written -/
theorem TabOk.put {ec : EC} {F : Addr → Prop} {H : Hp} {p : Addr} {o o' : HO} (t : TabOk ec F H) (ho : H p = some o) (h1 : NoTb o) (h2 : ∀ f, o ≠ .ext f) : TabOk ec F (upd H p o') := fun q hq => by
  obtain ⟨a, ps, e1, e2, e3⟩ := t q hq
  have n1 : q.1 ≠ p := fun z => by
    rw [z, ho] at e1
    exact h1 ps (Option.some.inj e1)
  refine ⟨a, ps, by rw [upd_ne n1]; exact e1, e2, fun pos cv hc => ?_⟩
  obtain ⟨c, e4, e5⟩ := e3 pos cv hc
  have n2 : c ≠ p := fun z => by
    rw [z, ho] at e5
    unfold LamX.CodeO at e5
    exact h2 _ (Option.some.inj e5)
  exact ⟨c, e4, by rw [upd_ne n2]; exact e5⟩
/-- the lists within a dict of lists stand where the dict says -/
def RfL (w : Wd) (m : List Cell) : Prop := ∀ (t : Nat) (q : Addr) (n j : Nat) (ds : List D), w.r[t]? = some q → m[t]? = some (.i n j ds) → n < t ∧ ∀ (p : Addr) (ks : List (List L2.Key)), w.r[n]? = some p → m[n]? = some (.r ks) → ∃ (ws : List (List L2.Key × V)) (k : List L2.Key), w.H p = some (.dT ws) ∧ ws[j]? = some (k, .ref q)
def NoTup (o : HO) : Prop := ∀ vs, o ≠ .tup vs
/-- what others hold is no tuple -/
def FT (ec : EC) (w : Wd) : Prop := ∀ p, w.F p → p ∈ ec.T.map (·.1) ∨ ∃ o, w.H p = some o ∧ NoTb o ∧ NoTup o
def NV (ec : EC) (w : Wd) (m : List Cell) : Prop := RfL w m ∧ FT ec w
structure Mem (ec : EC) (K : Fg) (w : Wd) (m : List Cell) : Prop where
  ext : Same w.G w.H
  len : w.r.length = m.length
  nd : w.r.Nodup
  cell : ∀ (n : Nat) (p : Addr) (c : Cell), w.r[n]? = some p → m[n]? = some c → COk K w.G w.H p c
  fo : ∀ p, w.F p → w.G p = none ∧ p ∉ w.r ∧ ∃ o, w.H p = some o
  tab : TabOk ec w.F w.H
  inv : Le ec.w (w.f ec.w.F)
  gt : NoTG w.G
  nv : NV ec w m
/-- a caught exception of the class at C -/
def ExO (a C : Addr) : HO := .ext fun h => ∃ oe, PySem.W.InstAt h a oe C none
theorem noTb_x {a C : Addr} : NoTb (ExO a C) := fun _ z => by
  unfold ExO at z
  cases z
def SlOk (ec : EC) (K : Fg) (w : Wd) (y : Option (Option V)) : Sl → Prop
  | .u => True
  | .d x => ∃ v, y = some (some v) ∧ Rp K w.G v x
  | .c n => ∃ p, y = some (some (.ref p)) ∧ w.r[n]? = some p
  | .x n => n ∈ ec.X ∧ ∃ a, y = some (some (.ref a)) ∧ a ∉ w.r ∧ w.H a = some (ExO a (ec.f n))
  | .f => y = some (some (.ref ec.lf))
structure Rel (ec : EC) (K : Fg) (w : Wd) (σ : St) (s : S) : Prop where
  mem : Mem ec K w s.m
  len : σ.length = s.v.length
  slot : ∀ (i : Nat) (sl : Sl), s.v[i]? = some sl → SlOk ec K w σ[i]? sl
def RvOk (K : Fg) (w : Wd) (x : V) : Rv → Prop
  | .d d => Rp K w.G x d
  | .new c => ∃ p, x = .ref p ∧ (p ∉ w.r ∧ ¬ w.F p) ∧ COk K w.G w.H p c
  | .ref n => ∃ p, x = .ref p ∧ w.r[n]? = some p
theorem slOk_mono {ec : EC} {K : Fg} {w w' : Wd} (a : Le w w') {y : Option (Option V)} {sl : Sl} (h : SlOk ec K w y sl) : SlOk ec K w' y sl := by
  cases sl with
  | u => trivial
  | d x =>
    obtain ⟨v, e, r⟩ := h
    exact ⟨v, e, r.mono a.g⟩
  | c n =>
    obtain ⟨p, e, r⟩ := h
    exact ⟨p, e, a.cell r⟩
  | x n =>
    obtain ⟨q, b, e, r, z⟩ := h
    obtain ⟨r', z'⟩ := a.stays r z noTb_x
    exact ⟨q, b, e, r', z'⟩
  | f => exact h

/-! ### the readings -/
/-- an object just made was not there ahead -/
def FrR (w : Wd) (x : V) (rv : Rv) : Prop := ∀ c, rv = .new c → ∀ p, x = .ref p → w.H p = none
theorem FrR.d {w : Wd} {x : V} {d : D} : FrR w x (.d d) := fun _ e => by cases e
theorem FrR.ref {w : Wd} {x : V} {n : Nat} : FrR w x (.ref n) := fun _ e => by cases e
/-- fresh later is fresh earlier -/
theorem FrR.back {K : Fg} {w w1 w' : Wd} {x : V} {rv : Rv} (a : Le w w1) (b : Le w1 w') (hr : RvOk K w' x rv) (h : FrR w1 x rv) : FrR w x rv := fun c e p ex => by
  have h1 := h c e p ex
  subst e
  obtain ⟨q, eq, ⟨hq, _⟩, _⟩ := hr
  rw [ex] at eq
  cases eq
  cases hh : w.H p with
  | none => rfl
  | some o =>
    obtain ⟨_, this, _⟩ := a.k p o hh fun m => hq (b.mem (a.mem m))
    rw [h1] at this
    cases this
def okV (ec : EC) (K : Fg) (w : Wd) (σ : St) (Q : VK) : Rv → S → Prop := fun rv s' => ∀ x w', Le w w' → Rel ec K w' σ s' → RvOk K w' x rv → FrR w x rv → Q x w'.H
abbrev CE := S → R Rv
abbrev CT := S → R Bool
def rd (K : Fg) (ec : EC) (W : WX) (c : CE) : TE := fun σ H Q => ∃ w s, w.H = H ∧ Rel ec K w σ s ∧ Res (okV ec K w σ Q) (fun e s' => ∀ w', Le w w' → Rel ec K w' σ s' → W (.ref (ec e)) none σ w'.H) (c s)
def rdT (K : Fg) (ec : EC) (W : WX) (c : CT) : TT := fun σ H Q => ∃ w s, w.H = H ∧ Rel ec K w σ s ∧ Res (fun b s' => ∀ w', Le w w' → Rel ec K w' σ s' → Q b w'.H) (fun e s' => ∀ w', Le w w' → Rel ec K w' σ s' → W (.ref (ec e)) none σ w'.H) (c s)
/-- what is wanted of an exception out of an expression -/
abbrev okE (K : Fg) (ec : EC) (W : WX) (σ : St) (w : Wd) : String → S → Prop := fun e s' => ∀ w', Le w w' → Rel ec K w' σ s' → W (.ref (ec e)) none σ w'.H

/-! ### weakening -/
theorem _root_.L2.PE.imp {X : Cx} {e : Expr} {t t' : TE} (h : PE X e t) (i : ∀ σ H Q, t' σ H Q → t σ H Q) : PE X e t' := ⟨fun pins s σ H Q I q => h.run pins s σ H Q I (i _ _ _ q)⟩
theorem _root_.L2.PT.imp {X : Cx} {e : Expr} {t t' : TT} (h : PT X e t) (i : ∀ σ H Q, t' σ H Q → t σ H Q) : PT X e t' := ⟨fun pins s σ H Q I q => h.run pins s σ H Q I (i _ _ _ q)⟩
theorem _root_.L2.PS.imp {X : Cx} {e : Stmt} {t t' : TS} (h : PS X e t) (i : ∀ D σ H, t' D σ H → t D σ H) : PS X e t' := ⟨fun pins s σ H D I q => h.run pins s σ H D I (i _ _ _ q)⟩
theorem _root_.L2.PSs.imp {X : Cx} {e : List Stmt} {t t' : TS} (h : PSs X e t) (i : ∀ D σ H, t' D σ H → t D σ H) : PSs X e t' := ⟨fun pins s σ H D I q => h.run pins s σ H D I (i _ _ _ q)⟩

/-! ### an object just made becomes data -/
def Cell.D? : Cell → Option D
  | .l ds => some (.list ds)
  | .k kvs => some (.dict (kvs.map fun p => (kD p.1, p.2)))
  | _ => none
theorem rpKv_of {K : Fg} {G : Hp} : ∀ {ws : List (L2.Key × V)} {kvs : List (L2.Key × D)}, KvAll K G ws kvs → RpKv K G ws (kvs.map fun p => (kD p.1, p.2))
  | _, _, .nil => .nil
  | (k, v) :: ws, (k', d) :: kvs, .cons r t => by
    obtain ⟨e, r⟩ := r
    have e : k = k' := e
    subst e
    exact .cons r (rpKv_of t)
theorem cOk_mono {K : Fg} {G G' H H' : Hp} {p : Addr} {c : Cell} (g : Same G G') (hp : c ≠ .gone → G' p = none) (h : ∀ o, c ≠ .gone → H p = some o → H' p = some o) (r : COk K G H p c) : COk K G' H' p c := by
  cases c with
  | l ds =>
    obtain ⟨_, vs, e, q⟩ := r
    exact ⟨hp (by intro z; cases z), vs, h _ (by intro z; cases z) e, q.mono g⟩
  | k kvs =>
    obtain ⟨_, vs, e, q⟩ := r
    exact ⟨hp (by intro z; cases z), vs, h _ (by intro z; cases z) e, Paired.mapP q fun a b z => ⟨z.1, z.2.mono g⟩⟩
  | t kvs =>
    obtain ⟨_, vs, e, q⟩ := r
    exact ⟨hp (by intro z; cases z), vs, h _ (by intro z; cases z) e, Paired.mapP q fun a b z => ⟨z.1, z.2.mono g⟩⟩
  | r ks =>
    obtain ⟨_, vs, e, q⟩ := r
    exact ⟨hp (by intro z; cases z), vs, h _ (by intro z; cases z) e, q⟩
  | i n j ds =>
    obtain ⟨_, vs, e, q⟩ := r
    exact ⟨hp (by intro z; cases z), vs, h _ (by intro z; cases z) e, q.mono g⟩
  | gone =>
    obtain ⟨o, e⟩ := r
    exact ⟨o, g _ _ e⟩
/-- the ground takes p in -/
theorem ground_in {ec : EC} {K : Fg} {w : Wd} {σ : St} {s : S} {p : Addr} {o : HO} (r : Rel ec K w σ s) (hp : p ∉ w.r ∧ ¬ w.F p) (hg : w.G p = none) (hh : w.H p = some o) (nb : NoTb o) :
    Rel ec K ⟨upd w.G p o, w.r, w.F, w.H⟩ σ s ∧ Le w ⟨upd w.G p o, w.r, w.F, w.H⟩ := by
  have sg : Same w.G (upd w.G p o) := fun b u e => by
    rw [upd_ne (ne_of_none e hg)]
    exact e
  have le : Le w ⟨upd w.G p o, w.r, w.F, w.H⟩ := ⟨sg, fun _ _ e _ => ⟨_, e, fun _ => rfl⟩, List.prefix_refl _, fun _ h => .inl h, rfl⟩
  refine ⟨⟨⟨fun b u e => ?_, r.mem.len, r.mem.nd, fun n q c h1 h2 => ?_, fun q hq => ?_, r.mem.tab, r.mem.inv.trans (le.ch _), noTG_upd r.mem.gt nb, r.mem.nv⟩, r.len, fun i sl h => slOk_mono le (r.slot i sl h)⟩, le⟩
  · by_cases hb : b = p
    · subst hb
      have e : upd w.G b o b = some u := e
      rw [upd_same] at e
      cases e
      exact hh
    · have e : upd w.G p o b = some u := e
      rw [upd_ne hb] at e
      exact r.mem.ext b u e
  · have hq : q ≠ p := fun z => hp.1 (z ▸ List.mem_of_getElem? h1)
    have c0 := r.mem.cell n q c h1 h2
    refine cOk_mono sg (fun hc => ?_) (fun _ _ e => e) c0
    show upd w.G p o q = none
    rw [upd_ne hq]
    cases c with
    | l ds => exact c0.1
    | k kvs => exact c0.1
    | t kvs => exact c0.1
    | r ks => exact c0.1
    | i n j ds => exact c0.1
    | gone => exact absurd rfl hc
  · obtain ⟨h1, h2⟩ := r.mem.fo q hq
    refine ⟨?_, h2⟩
    show upd w.G p o q = none
    have hne : q ≠ p := by
      intro z
      subst z
      exact hp.2 hq
    rw [upd_ne hne]
    exact h1
def Rv.D? : Rv → Option D
  | .d x => some x
  | .new c => c.D?
  | .ref _ => none
theorem freeze {ec : EC} {K : Fg} {w : Wd} {σ : St} {s : S} {x : V} {rv : Rv} {d : D} (r : Rel ec K w σ s) (h : RvOk K w x rv) (e : rv.D? = some d) :
    ∃ G', Rel ec K ⟨G', w.r, w.F, w.H⟩ σ s ∧ Le w ⟨G', w.r, w.F, w.H⟩ ∧ Rp K G' x d := by
  cases rv with
  | d y =>
    cases e
    exact ⟨w.G, r, Le.refl w, h⟩
  | ref n => cases e
  | new c =>
    obtain ⟨p, rfl, hp, hc⟩ := h
    cases c with
    | l ds =>
      cases e
      obtain ⟨hg, vs, hv, ra⟩ := hc
      obtain ⟨r', le⟩ := ground_in r hp hg hv noTb_l
      exact ⟨_, r', le, .lst (SqL.of upd_same) (ra.mono le.g)⟩
    | k kvs =>
      cases e
      obtain ⟨hg, vs, hv, ra⟩ := hc
      obtain ⟨r', le⟩ := ground_in r hp hg hv noTb_k
      exact ⟨_, r', le, .dct upd_same ((rpKv_of ra).mono le.g)⟩
    | t kvs => cases e
    | r ks => cases e
    | i n j ds => cases e
    | gone => cases e
end Vm

namespace Vm
open PySem L2

/-! ### operands -/
/-- what an operand is when the operation comes: data (a cell's list too), or a cell's dict -/
inductive Od where
  | d (x : D)
  | c (c : Cell)
def Rv.od (m : List Cell) : Rv → Option Od
  | .d x => some (.d x)
  | .new _ => none
  | .ref n => match m[n]? with
    | some (.l ds) => some (.d (.list ds))
    | some (.k kvs) => some (.c (.k kvs))
    | some (.t kvs) => some (.c (.t kvs))
    | some (.r ks) => some (.c (.r ks))
    | _ => none
def OdOk (K : Fg) (w : Wd) (x : V) : Od → Prop
  | .d d => Rp K w.G x d ∨ ∃ p vs ds, x = .ref p ∧ d = .list ds ∧ w.H p = some (.lst vs) ∧ RpAll K w.G vs ds
  | .c c => ∃ p, x = .ref p ∧ COk K w.G w.H p c ∧ p ∈ w.r
/-- an expression's value, an object just made become data -/
def cv (c : CE) : CE := fun s => (c s).bind fun rv s1 => match rv with
  | .new c => match c.D? with
    | some d => .ok (.d d) s1
    | none => .bad
  | rv => .ok rv s1
def opt {α β : Type} (o : Option α) (k : α → R β) : R β := match o with
  | some a => k a
  | none => .bad
def cOp1 (f : Od → Option Rv) (a : CE) : CE := fun s => (cv a s).bind fun x s1 => opt (x.od s1.m) fun o => opt (f o) fun rv => .ok rv s1
def cOp2 (f : Od → Od → Option Rv) (a b : CE) : CE := fun s => (cv a s).bind fun x s1 => (cv b s1).bind fun y s2 => opt (x.od s2.m) fun o => opt (y.od s2.m) fun o' => opt (f o o') fun rv => .ok rv s2
theorem Res.opt {α β : Type} {P : β → S → Prop} {E : String → S → Prop} {o : Option α} {k : α → R β} (h : Res P E (opt o k)) : ∃ a, o = some a ∧ Res P E (k a) := by
  cases o with
  | none => exact h.elim
  | some a => exact ⟨a, rfl, h⟩

section
variable {K : Fg} {ec : EC} {W : WX} {σ : St} {w w1 : Wd} {Q : VK} {s : S}
/-- what is wanted of a run from w on -/
abbrev FinV (K : Fg) (ec : EC) (W : WX) (σ : St) (Q : VK) (w : Wd) (r : R Rv) : Prop := Res (okV ec K w σ Q) (okE K ec W σ w) r
abbrev FinT (K : Fg) (ec : EC) (W : WX) (σ : St) (Q : Bool → Hp → Prop) (w : Wd) (r : R Bool) : Prop := Res (fun b s' => ∀ w', Le w w' → Rel ec K w' σ s' → Q b w'.H) (okE K ec W σ w) r
theorem okE_le (a : Le w w1) {e : String} {s' : S} (h : okE K ec W σ w e s') : okE K ec W σ w1 e s' := fun w' b r => h w' (a.trans b) r
theorem FinV.le {r : R Rv} (a : Le w w1) (h : FinV K ec W σ Q w r) : FinV K ec W σ Q w1 r := Res.mono h (fun rv s' q x w' b r o f => q x w' (a.trans b) r o (f.back a b o)) fun e s' q => okE_le a q
theorem FinT.le {Q : Bool → Hp → Prop} {r : R Bool} (a : Le w w1) (h : FinT K ec W σ Q w r) : FinT K ec W σ Q w1 r := Res.mono h (fun rv s' q w' b => q w' (a.trans b)) fun e s' q => okE_le a q

/-- an argument runs, then the rest -/
theorem run_cv {α : Type} {c : CE} {k : Rv → S → R α} {P : α → S → Prop} (hr : Rel ec K w σ s) (h : Res P (okE K ec W σ w) ((cv c s).bind k))
    (hk : ∀ x w1 s1 a, Le w w1 → Rel ec K w1 σ s1 → RvOk K w1 x a → (∀ c, a ≠ .new c) → Res P (okE K ec W σ w) (k a s1) → Q x w1.H) : rd K ec W c σ w.H Q := by
  refine ⟨w, s, rfl, hr, ?_⟩
  unfold cv at h
  cases e : c s with
  | bad =>
    rw [e] at h
    exact h
  | ex n s' =>
    rw [e] at h
    exact h
  | ok rv s' =>
    rw [e] at h
    intro x w' le r' ok _
    cases rv with
    | d y => exact hk x w' s' (.d y) le r' ok (by intro c z; cases z) h
    | ref n => exact hk x w' s' (.ref n) le r' ok (by intro c z; cases z) h
    | new cc =>
      cases ed : cc.D? with
      | none =>
        simp only [R.bind, ed] at h
        exact h.elim
      | some d =>
        simp only [R.bind, ed] at h
        obtain ⟨G', r2, le2, rp⟩ := freeze r' ok (d := d) ed
        exact hk x ⟨G', w'.r, w'.F, w'.H⟩ s' (.d d) (le.trans le2) r2 rp (by intro c z; cases z) h
theorem RvOk.le {x : V} {a : Rv} (hn : ∀ c, a ≠ .new c) (le : Le w w1) (h : RvOk K w x a) : RvOk K w1 x a := by
  cases a with
  | d y => exact Rp.mono le.g _ _ h
  | ref n =>
    obtain ⟨p, e, q⟩ := h
    exact ⟨p, e, le.cell q⟩
  | new c => exact absurd rfl (hn c)
theorem od_of {x : V} {a : Rv} {o : Od} (hr : Rel ec K w σ s) (h : RvOk K w x a) (e : a.od s.m = some o) : OdOk K w x o := by
  cases a with
  | d y =>
    cases e
    exact .inl h
  | new c => cases e
  | ref n =>
    obtain ⟨p, rfl, q⟩ := h
    unfold Rv.od at e
    dsimp only at e
    split at e
    · rename_i ds hc
      cases e
      obtain ⟨hg, vs, hv, ra⟩ := hr.mem.cell n p _ q hc
      exact .inr ⟨p, vs, ds, rfl, rfl, hv, ra⟩
    · rename_i kvs hc
      cases e
      exact ⟨p, rfl, hr.mem.cell n p _ q hc, List.mem_of_getElem? q⟩
    · rename_i kvs hc
      cases e
      exact ⟨p, rfl, hr.mem.cell n p _ q hc, List.mem_of_getElem? q⟩
    · rename_i kvs hc
      cases e
      exact ⟨p, rfl, hr.mem.cell n p _ q hc, List.mem_of_getElem? q⟩
    · cases e

/-! ### what an operation leaves -/
/-- the world grew by new objects alone -/
structure Gr (w w' : Wd) : Prop where
  r : w'.r = w.r
  f : w'.F = w.F
  g : Same w.G w'.G
  h : Same w.H w'.H
  e : Same w.G w.H → Same w'.G w'.H
  n : ∀ p o, w.H p = some o → NoTup o → w.G p = none → w'.G p = none
  t : NoTG w.G → NoTG w'.G
theorem Gr.refl (w : Wd) : Gr w w := ⟨rfl, rfl, Same.refl _, Same.refl _, fun h => h, fun _ _ _ _ h => h, fun h => h⟩
theorem Rel.live (r : Rel ec K w σ s) {p : Addr} (h : p ∈ w.r) : ∃ o, w.H p = some o := by
  obtain ⟨n, e⟩ := List.getElem?_of_mem h
  have hn : n < s.m.length := by
    rw [← r.mem.len]
    exact (List.getElem?_eq_some_iff.mp e).1
  have c := r.mem.cell n p _ e (List.getElem?_eq_getElem hn)
  cases q : s.m[n] with
  | l ds =>
    rw [q] at c
    obtain ⟨_, vs, hv, _⟩ := c
    exact ⟨_, hv⟩
  | k ds =>
    rw [q] at c
    obtain ⟨_, vs, hv, _⟩ := c
    exact ⟨_, hv⟩
  | t ds =>
    rw [q] at c
    obtain ⟨_, vs, hv, _⟩ := c
    exact ⟨_, hv⟩
  | r ds =>
    rw [q] at c
    obtain ⟨_, vs, hv, _⟩ := c
    exact ⟨_, hv⟩
  | i n' j' ds =>
    rw [q] at c
    obtain ⟨_, vs, hv, _⟩ := c
    exact ⟨_, hv⟩
  | gone =>
    rw [q] at c
    obtain ⟨o, e⟩ := c
    exact ⟨o, r.mem.ext _ _ e⟩
theorem Rel.liveN (r : Rel ec K w σ s) {n : Nat} {p : Addr} (e : w.r[n]? = some p) (hg : w.G p = none) : ∃ o, w.H p = some o ∧ NoTb o ∧ ∀ f, o ≠ .ext f := by
  have hn : n < s.m.length := by
    rw [← r.mem.len]
    exact (List.getElem?_eq_some_iff.mp e).1
  have c := r.mem.cell n p _ e (List.getElem?_eq_getElem hn)
  cases q : s.m[n] with
  | l ds =>
    rw [q] at c
    obtain ⟨_, vs, hv, _⟩ := c
    exact ⟨_, hv, noTb_l, fun f z => by cases z⟩
  | k ds =>
    rw [q] at c
    obtain ⟨_, vs, hv, _⟩ := c
    exact ⟨_, hv, noTb_k, fun f z => by cases z⟩
  | t ds =>
    rw [q] at c
    obtain ⟨_, vs, hv, _⟩ := c
    exact ⟨_, hv, noTb_t, fun f z => by cases z⟩
  | r ds =>
    rw [q] at c
    obtain ⟨_, vs, hv, _⟩ := c
    exact ⟨_, hv, noTb_t, fun f z => by cases z⟩
  | i n' j' ds =>
    rw [q] at c
    obtain ⟨_, vs, hv, _⟩ := c
    exact ⟨_, hv, noTb_l, fun f z => by cases z⟩
  | gone =>
    rw [q] at c
    obtain ⟨o, e⟩ := c
    rw [hg] at e
    cases e
theorem Rel.liveT (r : Rel ec K w σ s) {n : Nat} {p : Addr} (e : w.r[n]? = some p) (hg : w.G p = none) : ∃ o, w.H p = some o ∧ NoTb o ∧ NoTup o := by
  have hn : n < s.m.length := by
    rw [← r.mem.len]
    exact (List.getElem?_eq_some_iff.mp e).1
  have c := r.mem.cell n p _ e (List.getElem?_eq_getElem hn)
  cases q : s.m[n] with
  | gone =>
    rw [q] at c
    obtain ⟨o, e⟩ := c
    rw [hg] at e
    cases e
  | l ds =>
    rw [q] at c
    obtain ⟨_, vs, hv, _⟩ := c
    exact ⟨_, hv, noTb_l, fun f z => by cases z⟩
  | k ds =>
    rw [q] at c
    obtain ⟨_, vs, hv, _⟩ := c
    exact ⟨_, hv, noTb_k, fun f z => by cases z⟩
  | t ds =>
    rw [q] at c
    obtain ⟨_, vs, hv, _⟩ := c
    exact ⟨_, hv, noTb_t, fun f z => by cases z⟩
  | r ds =>
    rw [q] at c
    obtain ⟨_, vs, hv, _⟩ := c
    exact ⟨_, hv, noTb_t, fun f z => by cases z⟩
  | i n' j' ds =>
    rw [q] at c
    obtain ⟨_, vs, hv, _⟩ := c
    exact ⟨_, hv, noTb_l, fun f z => by cases z⟩
theorem nv_grow {m : List Cell} (a : Gr w w1) (h : NV ec w m) : NV ec w1 m := by
  refine ⟨fun t q n j ds e1 e2 => ?_, fun p hp => ?_⟩
  · rw [a.r] at e1
    obtain ⟨h1, h2⟩ := h.1 t q n j ds e1 e2
    refine ⟨h1, fun p ks e3 e4 => ?_⟩
    rw [a.r] at e3
    obtain ⟨ws, k, e5, e6⟩ := h2 p ks e3 e4
    exact ⟨ws, k, a.h _ _ e5, e6⟩
  · rw [a.f] at hp
    rcases h.2 p hp with z | ⟨o, e, z⟩
    · exact .inl z
    · exact .inr ⟨o, a.h _ _ e, z⟩
theorem Gr.le (a : Gr w w1) : Le w w1 := ⟨a.g, fun _ _ e _ => ⟨_, a.h _ _ e, fun _ => rfl⟩, by rw [a.r]; exact List.prefix_refl _, fun _ h => .inl (a.r ▸ h), a.f⟩
theorem Rel.grow (r : Rel ec K w σ s) (a : Gr w w1) : Rel ec K w1 σ s := by
  refine ⟨⟨a.e r.mem.ext, by rw [a.r]; exact r.mem.len, by rw [a.r]; exact r.mem.nd, fun n p c h1 h2 => ?_, fun p hp => ?_, by rw [a.f]; exact r.mem.tab.ext a.h, r.mem.inv.trans (a.le.ch _), a.t r.mem.gt, nv_grow a r.mem.nv⟩, r.len, fun i sl h => slOk_mono a.le (r.slot i sl h)⟩
  rotate_left
  · rw [a.f] at hp
    obtain ⟨h1, h2, o, ho⟩ := r.mem.fo p hp
    have nt : NoTup o := by
      rcases r.mem.nv.2 p hp with z | ⟨o', e, _, z⟩
      · obtain ⟨q, hq, e⟩ := List.mem_map.mp z
        obtain ⟨ps, e1, _⟩ := (r.mem.tab q hq).2
        rw [e, ho] at e1
        intro vs z
        rw [z] at e1
        cases e1
      · rw [ho] at e
        cases e
        exact z
    exact ⟨a.n p o ho nt h1, by rw [a.r]; exact h2, o, a.h _ _ ho⟩
  rw [a.r] at h1
  have c0 := r.mem.cell n p c h1 h2
  refine cOk_mono a.g (fun hc => ?_) (fun o _ e => a.h _ _ e) c0
  have hg : w.G p = none := by
    cases c with
    | l ds => exact c0.1
    | k kvs => exact c0.1
    | t kvs => exact c0.1
    | r ks => exact c0.1
    | i n j ds => exact c0.1
    | gone => exact absurd rfl hc
  obtain ⟨o, ho, _, nt⟩ := r.liveT h1 hg
  exact a.n p o ho nt hg
def RvN (K : Fg) (w w' : Wd) (z : V) : Rv → Prop
  | .d d => Rp K w'.G z d
  | .new c => ∃ p, z = .ref p ∧ w.H p = none ∧ COk K w'.G w'.H p c
  | .ref _ => False
def Post (K : Fg) (w : Wd) (rv : Rv) (Q : VK) : Prop := ∀ z w', Gr w w' → RvN K w w' z rv → Q z w'.H
theorem post_of {rv : Rv} (hr : Rel ec K w σ s) (h : okV ec K w σ Q rv s) : Post K w rv Q := fun z w' g n => by
  refine h z w' g.le (hr.grow g) ?_ fun c ec p ez => ?_
  rotate_left
  · subst ec
    obtain ⟨p', e, hp, hc⟩ := n
    rw [ez] at e
    cases e
    exact hp
  cases rv with
  | d d => exact n
  | ref _ => exact n.elim
  | new c =>
    obtain ⟨p, e, hp, hc⟩ := n
    refine ⟨p, e, ⟨fun hm => ?_, fun hm => ?_⟩, hc⟩
    · rw [g.r] at hm
      obtain ⟨o, ho⟩ := hr.live hm
      rw [hp] at ho
      cases ho
    · rw [g.f] at hm
      obtain ⟨_, _, o, ho⟩ := hr.mem.fo p hm
      rw [hp] at ho
      cases ho
theorem post_d {d : D} {z : V} (h : Post K w (.d d) Q) (r : Rp K w.G z d) : Q z w.H := h z w (Gr.refl w) r
theorem post_int {i : Int} (h : Post K w (.d (.int i)) Q) : Q (.int i) w.H := post_d h (.int i)
theorem post_bool {i : Bool} (h : Post K w (.d (.bool i)) Q) : Q (.bl i) w.H := post_d h (.bl i)
theorem post_str {i : Str} (h : Post K w (.d (.str i)) Q) : Q (.str i) w.H := post_d h (.str i)
theorem same_upd {H : Hp} {p : Addr} {o : HO} (h : H p = none) : Same H (upd H p o) := fun b x e => by
  rw [upd_ne (ne_of_none e h)]
  exact e
theorem same_upd2 {G H : Hp} {p : Addr} {o : HO} (h : Same G H) : Same (upd G p o) (upd H p o) := fun b x e => by
  by_cases hb : b = p
  · subst hb
    rw [upd_same] at e ⊢
    exact e
  · rw [upd_ne hb] at e ⊢
    exact h b x e
theorem post_tup {ds : List D} {vs : List V} {p : Addr} (h : Post K w (.d (.tuple ds)) Q) (r : RpAll K w.G vs ds) (hp : w.H p = none) (hx : Same w.G w.H) : Q (.ref p) (upd w.H p (.tup vs)) := by
  have hg : w.G p = none := hx.free hp
  exact h (.ref p) ⟨upd w.G p (.tup vs), w.r, w.F, upd w.H p (.tup vs)⟩ ⟨rfl, rfl, same_upd hg, same_upd hp, fun e => same_upd2 e, fun q o e _ n => by
    show upd w.G p (.tup vs) q = none
    rw [upd_ne (ne_of_none e hp)]
    exact n, fun h => noTG_upd h noTb_tup⟩ (.tup upd_same (r.mono (same_upd hg)))
theorem gr_new {p : Addr} {o : HO} (hp : w.H p = none) : Gr w ⟨w.G, w.r, w.F, upd w.H p o⟩ := ⟨rfl, rfl, Same.refl _, same_upd hp, fun e => e.trans (same_upd hp), fun _ _ _ _ n => n, fun h => h⟩
theorem post_lst {ds : List D} {vs : List V} {p : Addr} (h : Post K w (.new (.l ds)) Q) (r : RpAll K w.G vs ds) (hp : w.H p = none) (hx : Same w.G w.H) : Q (.ref p) (upd w.H p (.lst vs)) :=
  h (.ref p) ⟨w.G, w.r, w.F, upd w.H p (.lst vs)⟩ (gr_new hp) ⟨p, rfl, hp, hx.free hp, vs, upd_same, r⟩

/-- an operation on values does what the function on data says -/
def Op1S (K : Fg) (r : V → Hp → VK → Prop) (f : Od → Option Rv) : Prop := ∀ (w : Wd) (x : V) (o : Od) (rv : Rv) (Q : VK), Same w.G w.H → OdOk K w x o → f o = some rv → Post K w rv Q → r x w.H Q
def Op2S (K : Fg) (r : R2) (f : Od → Od → Option Rv) : Prop := ∀ (w : Wd) (x y : V) (o o' : Od) (rv : Rv) (Q : VK), Same w.G w.H → OdOk K w x o → OdOk K w y o' → f o o' = some rv → Post K w rv Q → r x y w.H Q
theorem op1 {r : V → Hp → VK → Prop} {f : Od → Option Rv} (hs : Op1S K r f) {c : CE} {H : Hp} (h : rd K ec W (cOp1 f c) σ H Q) : rd K ec W c σ H fun x H1 => r x H1 Q := by
  obtain ⟨w, s, rfl, hr, h⟩ := h
  refine run_cv hr h fun x w1 s1 a le1 hr1 ha hn h1 => ?_
  obtain ⟨o, e1, h2⟩ := h1.opt
  obtain ⟨rv, e2, h3⟩ := h2.opt
  exact hs w1 x o rv Q hr1.mem.ext (od_of hr1 ha e1) e2 (post_of hr1 fun z w' le r' o f => h3 z w' (le1.trans le) r' o (f.back le1 le o))
theorem op2 {r : R2} {f : Od → Od → Option Rv} (hs : Op2S K r f) {ca cb : CE} {H : Hp} (h : rd K ec W (cOp2 f ca cb) σ H Q) : rd K ec W ca σ H fun x H1 => rd K ec W cb σ H1 fun y H2 => r x y H2 Q := by
  obtain ⟨w, s, rfl, hr, h⟩ := h
  refine run_cv hr h fun x w1 s1 a le1 hr1 ha hn h1 => ?_
  refine run_cv hr1 (Res.mono h1 (fun _ _ q => q) fun _ _ q => okE_le le1 q) fun y w2 s2 b le2 hr2 hb hn2 h2 => ?_
  obtain ⟨o, e1, h2⟩ := h2.opt
  obtain ⟨o', e2, h2⟩ := h2.opt
  obtain ⟨rv, e3, h3⟩ := h2.opt
  exact hs w2 x y o o' rv Q hr2.mem.ext (od_of hr2 (ha.le hn le2) e1) (od_of hr2 hb e2) e3 (post_of hr2 fun z w' le r' o f => h3 z w' ((le1.trans le2).trans le) r' o (f.back (le1.trans le2) le o))

/-! ### what operands are -/
theorem OdOk.rp {x : V} {d : D} (hx : Same w.G w.H) (h : OdOk K w x (.d d)) : Rp K w.H x d := by
  rcases h with h | ⟨p, vs, ds, rfl, rfl, hv, ra⟩
  · exact h.mono hx
  · exact .lst (SqL.of hv) (ra.mono hx)
theorem OdOk.int {x : V} {i : Int} (h : OdOk K w x (.d (.int i))) : x = .int i := by
  rcases h with h | ⟨p, vs, ds, rfl, e, _⟩
  · cases h
    rfl
  · cases e
theorem OdOk.bool {x : V} {i : Bool} (h : OdOk K w x (.d (.bool i))) : x = .bl i := by
  rcases h with h | ⟨p, vs, ds, rfl, e, _⟩
  · cases h
    rfl
  · cases e
theorem OdOk.str {x : V} {i : Str} (h : OdOk K w x (.d (.str i))) : x = .str i := by
  rcases h with h | ⟨p, vs, ds, rfl, e, _⟩
  · cases h
    rfl
  · cases e
theorem OdOk.none {x : V} (h : OdOk K w x (.d .none)) : x = .non := by
  rcases h with h | ⟨p, vs, ds, rfl, e, _⟩
  · cases h
    rfl
  · cases e
theorem OdOk.tup {x : V} {ds : List D} (h : OdOk K w x (.d (.tuple ds))) : ∃ p vs, x = .ref p ∧ w.G p = some (.tup vs) ∧ RpAll K w.G vs ds := by
  rcases h with h | ⟨p, vs, ds, rfl, e, _⟩
  · cases h with
    | tup a b => exact ⟨_, _, rfl, a, b⟩
  · cases e
theorem OdOk.list {x : V} {ds : List D} (hx : Same w.G w.H) (h : OdOk K w x (.d (.list ds))) : ∃ p vs, x = .ref p ∧ SqL K w.H p vs ∧ RpAll K w.G vs ds := by
  rcases h with h | ⟨p, vs, ds, rfl, e, hv, ra⟩
  · cases h with
    | lst a b => exact ⟨_, _, rfl, hx.seq a, b⟩
  · cases e
    exact ⟨p, vs, rfl, SqL.of hv, ra⟩
theorem OdOk.dict {x : V} {es : List (D × D)} (hx : Same w.G w.H) (h : OdOk K w x (.d (.dict es))) (nt : isTag es = false) : ∃ p ws, x = .ref p ∧ w.H p = some (.dK ws) ∧ RpKv K w.G ws es := by
  rcases h with h | ⟨p, vs, ds, rfl, e, hv, ra⟩
  · cases h with
    | dct a b => exact ⟨_, _, rfl, hx _ _ a, b⟩
    | dctT a b => cases nt
  · cases e
theorem kD_tag {k : L2.Key} : kD k ≠ .list [] := by
  cases k <;> exact fun z => by cases z
theorem OdOk.dictT {x : V} {es : List (D × D)} (h : OdOk K w x (.d (.dict (tagT :: es)))) : ∃ p od ws, x = .ref p ∧ w.G p = some (.frz od (.dT ws)) ∧ RpKt K w.G ws es := by
  rcases h with h | ⟨p, vs, ds, rfl, e, hv, ra⟩
  · generalize hE : tagT :: es = E at h
    cases h with
    | dct a b =>
      cases b with
      | nil => cases hE
      | cons r t =>
        have hE := congrArg (fun l : List (D × D) => l.head?.map (·.1)) hE
        exact absurd (Option.some.inj hE).symm kD_tag
    | dctT a b =>
      cases hE
      exact ⟨_, _, _, rfl, a, b⟩
  · cases e
/-- a tracked tuple joins the ground -/
theorem gr_tup {q : Addr} {vs : List V} {ds : List D} (hx : Same w.G w.H) (hq : w.H q = some (.tup vs)) (ra : RpAll K w.G vs ds) : ∃ w2, Gr w w2 ∧ w2.H = w.H ∧ Rp K w2.G (.ref q) (.tuple ds) := by
  cases e : w.G q with
  | some o =>
    have := hx _ _ e
    rw [hq] at this
    cases this
    exact ⟨w, Gr.refl w, rfl, .tup e ra⟩
  | none =>
    refine ⟨⟨upd w.G q (.tup vs), w.r, w.F, w.H⟩, ⟨rfl, rfl, same_upd e, Same.refl _, fun _ b o e1 => ?_, fun p o e1 nt e2 => ?_, fun h => noTG_upd h noTb_tup⟩, rfl, .tup upd_same (ra.mono (same_upd e))⟩
    · have e1 : upd w.G q (.tup vs) b = some o := e1
      by_cases hb : b = q
      · subst hb
        rw [upd_same] at e1
        cases e1
        exact hq
      · rw [upd_ne hb] at e1
        exact hx _ _ e1
    · show upd w.G q (.tup vs) p = none
      have hp : p ≠ q := fun z => by
        subst z
        rw [hq] at e1
        cases e1
        exact nt vs rfl
      rw [upd_ne hp]
      exact e2
theorem Gr.trans {w w1 w2 : Wd} (a : Gr w w1) (b : Gr w1 w2) : Gr w w2 := ⟨b.r.trans a.r, b.f.trans a.f, a.g.trans b.g, a.h.trans b.h, fun h => b.e (a.e h), fun p o e nt g => b.n p o (a.h _ _ e) nt (a.n p o e nt g), fun h => b.t (a.t h)⟩
theorem rp_kD {K : Fg} {H : Hp} {k : L2.Key} : Rp K H (kV k) (kD k) := by
  cases k with
  | inl i => exact .int i
  | inr x => exact .str x
theorem rpAll_kD {K : Fg} {H : Hp} : ∀ {ks : List L2.Key}, RpAll K H (ks.map kV) (ks.map kD)
  | [] => .nil
  | _ :: _ => .cons rp_kD rpAll_kD
/-- so do many -/
theorem gr_tups : ∀ {bs : List Addr} {ks : List (List L2.Key)} {w : Wd}, Same w.G w.H → Paired (fun b k => w.H b = some (.tup (k.map kV))) bs ks → ∃ w2, Gr w w2 ∧ w2.H = w.H ∧ RpAll K w2.G (bs.map V.ref) (ks.map tupK)
  | _, _, w, _, .nil => ⟨w, Gr.refl w, rfl, .nil⟩
  | b :: bs, k :: ks, w, hx, .cons r t => by
    obtain ⟨w1, g1, e1, r1⟩ := gr_tup (ds := k.map kD) hx r (rpAll_kD (K := K))
    obtain ⟨w2, g2, e2, r2⟩ := gr_tups (w := w1) (g1.e hx) (Paired.mapP t fun _ _ z => by rw [e1]; exact z)
    exact ⟨w2, g1.trans g2, e2.trans e1, .cons (r1.mono g2.g) r2⟩
end
end Vm

namespace Vm
open PySem L2

section
variable {K : Fg} {w : Wd}
/-! ### reading the whole heap: Reads of what stands for data -/
mutual
theorem Rp.reads {X : Cx} {pins : List (Addr × Obj)} {σ : St} {H : Hp} {s : Shared} (I : Inv X pins σ H s) : ∀ (d : PyData) (v : V) (u : Value), d.plain = true → Rp X.K H v d → RelV v u → ∃ as, Reads s.heap u d as
  | .none, _, _, _, h, r => by
    cases h
    cases r
    exact ⟨_, Reads.none⟩
  | .bool b, _, _, _, h, r => by
    cases h
    cases r
    exact ⟨_, Reads.bool b⟩
  | .int i, _, _, _, h, r => by
    cases h
    obtain ⟨t, rfl⟩ := r
    exact ⟨_, Reads.int i t⟩
  | .str x, _, _, _, h, r => by
    cases h
    obtain ⟨t, rfl⟩ := r
    exact ⟨_, Reads.str x t⟩
  | .list ds, _, _, hp, h, r => by
    cases h with
    | lst hs ha =>
      cases r
      obtain ⟨its, rv, ⟨o, n, ho, hc, _, hd⟩, _⟩ := I.list hs
      obtain ⟨as, hr⟩ := RpAll.reads I ds _ its (by simpa [PyData.plain] using hp) ha rv
      exact ⟨_, Reads.list ho hc hd hr⟩
  | .tuple ds, _, _, hp, h, r => by
    cases h with
    | tup hs ha =>
      cases r
      obtain ⟨its, rv, ⟨o, ho, hc, n, hd⟩, _⟩ := I.tuple (SqT.of (K := X.K) hs)
      obtain ⟨as, hr⟩ := RpAll.reads I ds _ its (by simpa [PyData.plain] using hp) ha rv
      exact ⟨_, Reads.tuple ho hc hd hr⟩
  | .dict _, _, _, hp, _, _ => by simp [PyData.plain] at hp
theorem RpAll.reads {X : Cx} {pins : List (Addr × Obj)} {σ : St} {H : Hp} {s : Shared} (I : Inv X pins σ H s) : ∀ (ds : List PyData) (vs : List V) (us : List Value), PyData.plainAll ds = true → RpAll X.K H vs ds → Vals vs us → ∃ as, ReadsAll s.heap us ds as
  | [], _, _, _, h, r => by
    cases h
    cases r
    exact ⟨_, ReadsAll.nil⟩
  | d :: ds, _, _, hp, h, r => by
    have hp' : d.plain = true ∧ PyData.plainAll ds = true := by simpa [PyData.plainAll] using hp
    cases h with
    | cons h1 h2 =>
      cases r with
      | cons r1 r2 =>
        obtain ⟨as, q1⟩ := Rp.reads I d _ _ hp'.1 h1 r1
        obtain ⟨bs, q2⟩ := RpAll.reads I ds _ _ hp'.2 h2 r2
        exact ⟨_, ReadsAll.cons q1 q2⟩
end
end

section
variable {X : Cx} {ec : EC} {W : WX}
/-- the judgement: the expression does what the closure does -/
abbrev Ex (X : Cx) (ec : EC) (W : WX) (e : Expr) (c : CE) : Prop := PE X e (rd X.K ec W c)
abbrev Tx (X : Cx) (ec : EC) (W : WX) (e : Expr) (c : CT) : Prop := PT X e (rdT X.K ec W c)

/-! ### names, constants -/
def cVar (i : Nat) : CE := fun s => match s.v[i]? with
  | some (.d x) => .ok (.d x) s
  | some (.c n) => .ok (.ref n) s
  | _ => .bad
theorem e_var (i : Nat) {x : Str} {pos : Pos} (hN : X.N[i]? = some x := by rfl) (hv : Vis X.env.scope x := by first | exact Or.inl rfl | exact Or.inr (Or.inl rfl) | exact Or.inr (Or.inr rfl)) (hd : (x == ("__debug__" : Str)) = false := by decide)
    (hcd : (x == ("__classdict__" : Str)) = false := by decide) : Ex X ec W (.Name x pos) (cVar i) := (pe_var hN hv hd hcd).imp fun σ H Q h => by
  obtain ⟨w, s, rfl, hr, h⟩ := h
  unfold cVar at h
  split at h
  · rename_i y e
    obtain ⟨v, e2, rp⟩ := hr.slot i _ e
    exact ⟨v, e2, h v w (Le.refl w) hr rp .d⟩
  · rename_i n e
    obtain ⟨p, e2, rp⟩ := hr.slot i _ e
    exact ⟨.ref p, e2, h (.ref p) w (Le.refl w) hr ⟨p, rfl, rp⟩ .ref⟩
  · exact h.elim
def cC (d : D) : CE := fun s => .ok (.d d) s
theorem e_const {v : V} {d : D} {e : Expr} (he : PE X e (tC v)) (hd : ∀ H, Rp X.K H v d) : Ex X ec W e (cC d) := he.imp fun σ H Q h => by
  obtain ⟨w, s, rfl, hr, h⟩ := h
  exact h v w (Le.refl w) hr (hd _) .d
theorem e_int {i j pos} : Ex X ec W (.Constant (.int i) j pos) (cC (.int i)) := e_const pe_int fun _ => .int i
theorem e_bool {i j pos} : Ex X ec W (.Constant (.bool i) j pos) (cC (.bool i)) := e_const pe_bl fun _ => .bl i
theorem e_none {j pos} : Ex X ec W (.Constant .none j pos) (cC .none) := e_const pe_non fun _ => .non
theorem e_str {i j pos} : Ex X ec W (.Constant (.str i) j pos) (cC (.str i)) := e_const pe_str fun _ => .str i
/-- a module's constant -/
theorem e_glob {x : Str} {v : V} {u : Value} {d : D} {pos : Pos} (hm : X.mg x = some u) (r : RelV v u) (hd : ∀ H, Rp X.K H v d) (hg : Gl X x := by rfl) (hb : (x == ("__debug__" : Str)) = false := by decide) : Ex X ec W (.Name x pos) (cC d) := e_const (pe_glob hg hm r hb) hd

/-! ### argument lists that become data -/
abbrev CA := S → R (List D)
def cNil : CA := fun s => .ok [] s
def cCons (c : CE) (ca : CA) : CA := fun s => (cv c s).bind fun a s1 => match a with
  | .d x => (ca s1).bind fun xs s2 => .ok (x :: xs) s2
  | _ => .bad
def rdA (K : Fg) (ec : EC) (W : WX) (c : CA) : TA := fun σ H Q => ∃ w s, w.H = H ∧ Rel ec K w σ s ∧ Res (fun ds s' => ∀ vs w', Le w w' → Rel ec K w' σ s' → RpAll K w'.G vs ds → Q vs w'.H) (okE K ec W σ w) (c s)
theorem _root_.L2.PA.imp {X : Cx} {es : List Expr} {t t' : TA} (h : PA X es t) (i : ∀ σ H Q, t' σ H Q → t σ H Q) : PA X es t' := ⟨fun pos pins s σ H Q I q => h.run pos pins s σ H Q I (i _ _ _ q)⟩
theorem a_nil : PA X [] (rdA X.K ec W cNil) := PA.imp pa_nil fun σ H Q h => by
  obtain ⟨w, s, rfl, hr, h⟩ := h
  exact h [] w (Le.refl w) hr .nil
theorem a_cons {e : Expr} {es : List Expr} {c : CE} {ca : CA} (h1 : Ex X ec W e c) (h2 : PA X es (rdA X.K ec W ca)) (hs : starEach (e :: es) X.env = (false, eval e X.env) :: starEach es X.env := by rfl) : PA X (e :: es) (rdA X.K ec W (cCons c ca)) :=
  PA.imp (pa_cons h1 h2 hs) fun σ H Q h => by
    obtain ⟨w, s, rfl, hr, h⟩ := h
    show rd X.K ec W c σ w.H _
    refine run_cv hr h fun x w1 s1 a le1 hr1 ha hn h1 => ?_
    cases a with
    | ref n => exact h1.elim
    | new c => exact absurd rfl (hn c)
    | d y =>
      refine ⟨w1, s1, rfl, hr1, ?_⟩
      refine Res.mono h1.bind (fun ds s2 h2 vs w2 le2 hr2 rp => ?_) fun _ _ q => okE_le le1 q
      exact h2 (x :: vs) w2 (le1.trans le2) hr2 (.cons (Rp.mono le2.g _ _ ha) rp)
def cTup (ca : CA) : CE := fun s => (ca s).bind fun ds s1 => .ok (.d (.tuple ds)) s1
def cLst (ca : CA) : CE := fun s => (ca s).bind fun ds s1 => .ok (.new (.l ds)) s1
theorem sz1000 {n : Nat} (h : n ≤ 1000) : n ≤ sizeLine := Nat.le_trans h (by decide)
theorem e_tup {es : List Expr} {ca : CA} {x1} {pos : Pos} (h : PA X es (rdA X.K ec W ca)) (hl : ∀ s ds s', ca s = .ok ds s' → ds.length ≤ 1000) : Ex X ec W (.Tuple es x1 pos) (cTup ca) := (pe_tup h).imp fun σ H Q h => by
  obtain ⟨w, s, rfl, hr, h⟩ := h
  refine ⟨w, s, rfl, hr, ?_⟩
  unfold cTup at h
  cases e : ca s with
  | bad => rw [e] at h; exact h
  | ex n s' => rw [e] at h; exact h
  | ok ds s' =>
    rw [e] at h
    intro vs w' le r' rp
    have hz : vs.length ≤ sizeLine := by
      rw [rp.length]
      exact sz1000 (hl _ _ _ e)
    exact ⟨hz, fun p hp => post_tup (post_of r' fun z w2 le2 r2 o f => h z w2 (le.trans le2) r2 o (f.back le le2 o)) rp hp r'.mem.ext⟩
theorem e_lst {es : List Expr} {ca : CA} {pos : Pos} (h : PA X es (rdA X.K ec W ca)) (hl : ∀ s ds s', ca s = .ok ds s' → ds.length ≤ 1000) : Ex X ec W (.List es pos) (cLst ca) := (pe_lst h).imp fun σ H Q h => by
  obtain ⟨w, s, rfl, hr, h⟩ := h
  refine ⟨w, s, rfl, hr, ?_⟩
  unfold cLst at h
  cases e : ca s with
  | bad => rw [e] at h; exact h
  | ex n s' => rw [e] at h; exact h
  | ok ds s' =>
    rw [e] at h
    intro vs w' le r' rp
    have hz : vs.length ≤ sizeLine := by
      rw [rp.length]
      exact sz1000 (hl _ _ _ e)
    exact ⟨hz, fun p hp => post_lst (post_of r' fun z w2 le2 r2 o f => h z w2 (le.trans le2) r2 o (f.back le le2 o)) rp hp r'.mem.ext⟩
/-- a written list of arguments has its length -/
def CLen (n : Nat) (ca : CA) : Prop := ∀ s ds s', ca s = .ok ds s' → ds.length = n
theorem cl_nil : CLen 0 cNil := fun s ds s' e => by
  cases e
  rfl
theorem cl_cons {n : Nat} {c : CE} {ca : CA} (h : CLen n ca) : CLen (n + 1) (cCons c ca) := fun s ds s' e => by
  unfold cCons at e
  cases e1 : cv c s with
  | bad => rw [e1] at e; cases e
  | ex _ _ => rw [e1] at e; cases e
  | ok a s1 =>
    rw [e1] at e
    cases a with
    | ref _ => cases e
    | new _ => cases e
    | d x =>
      simp only [R.bind] at e
      cases e2 : ca s1 with
      | bad => rw [e2] at e; cases e
      | ex _ _ => rw [e2] at e; cases e
      | ok xs s2 =>
        rw [e2] at e
        cases e
        show xs.length + 1 = n + 1
        rw [h _ _ _ e2]
theorem CLen.le {n : Nat} {ca : CA} (h : CLen n ca) (hn : n ≤ 1000) : ∀ s ds s', ca s = .ok ds s' → ds.length ≤ 1000 := fun s ds s' e => by
  rw [h s ds s' e]
  exact hn

/-! ### tests -/
def truthy : Od → Option Bool
  | .d .none => some false
  | .d (.bool b) => some b
  | .d (.int i) => some (i != 0)
  | .d (.list ds) => some (!ds.isEmpty)
  | .d (.tuple ds) => some (!ds.isEmpty)
  | .c (.k kvs) => some (!kvs.isEmpty)
  | _ => none
def cTru (c : CE) : CT := fun s => (cv c s).bind fun a s1 => opt (a.od s1.m) fun o => opt (truthy o) fun b => .ok b s1
theorem isEmpty_len {α β : Type} {xs : List α} {ys : List β} (h : xs.length = ys.length) : xs.isEmpty = ys.isEmpty := by
  cases xs <;> cases ys <;> simp_all
theorem paired_len {α β : Type} {F : α → β → Prop} {xs : List α} {ys : List β} (h : Paired F xs ys) : xs.length = ys.length := Paired.length h
theorem truthy_ok {K : Fg} {w : Wd} {x : V} {o : Od} {b : Bool} (hx : Same w.G w.H) (h : OdOk K w x o) (e : truthy o = some b) : TruV K x w.H b := by
  unfold truthy at e
  split at e
  · cases e
    rw [h.none]
    exact rfl
  · cases e
    rw [h.bool]
    exact rfl
  · cases e
    rw [h.int]
    exact rfl
  · cases e
    obtain ⟨p, vs, rfl, hs, ra⟩ := h.list hx
    exact .inl ⟨vs, hs, by rw [isEmpty_len ra.length]⟩
  · cases e
    obtain ⟨p, vs, rfl, hs, ra⟩ := h.tup
    exact .inr (.inl ⟨vs, SqT.of (hx _ _ hs), by rw [isEmpty_len ra.length]⟩)
  · cases e
    obtain ⟨p, rfl, ⟨_, ws, hw, ra⟩, _⟩ := h
    exact .inr (.inr ⟨ws, hw, by rw [isEmpty_len (paired_len ra)]⟩)
  · cases e
theorem t_of {e : Expr} {c : CE} (h : Ex X ec W e c) (he : ∀ whole, isTrue e X.env whole = (do let v ← whole; standAt e.pos; holding [v] (PySem.truthy v)) := by intro _; rfl) : Tx X ec W e (cTru c) :=
  (pt_truth h he).imp fun σ H Q h => by
    obtain ⟨w, s, rfl, hr, h⟩ := h
    refine run_cv hr h fun x w1 s1 a le1 hr1 ha hn h1 => ?_
    obtain ⟨o, e1, h2⟩ := h1.opt
    obtain ⟨b, e2, h3⟩ := h2.opt
    exact ⟨b, truthy_ok hr1.mem.ext (od_of hr1 ha e1) e2, h3 w1 le1 hr1⟩
def tAnd' (a b : CT) : CT := fun s => (a s).bind fun x s1 => if x = true then b s1 else .ok false s1
def tOr' (a b : CT) : CT := fun s => (a s).bind fun x s1 => if x = true then .ok true s1 else b s1
def tNot' (a : CT) : CT := fun s => (a s).bind fun x s1 => .ok (!x) s1
abbrev Px (X : Cx) (ec : EC) (W : WX) (e : Expr) (c : CT) : Prop := PW X e (rdT X.K ec W c)
theorem _root_.L2.PW.imp {X : Cx} {e : Expr} {t t' : TT} (h : PW X e t) (i : ∀ σ H Q, t' σ H Q → t σ H Q) : PW X e t' := ⟨fun wh pins s σ H Q I q => h.run wh pins s σ H Q I (i _ _ _ q)⟩
theorem p_and1 {a : Expr} {c : CT} {pos : Pos} (ha : Tx X ec W a c) : Px X ec W (.BoolOp .And [a] pos) c := pw_and1 ha
theorem p_or1 {a : Expr} {c : CT} {pos : Pos} (ha : Tx X ec W a c) : Px X ec W (.BoolOp .Or [a] pos) c := pw_or1 ha
theorem run_t {K : Fg} {σ : St} {w : Wd} {s : S} {α : Type} {c : CT} {k : Bool → S → R α} {P : α → S → Prop} {Q : Bool → Hp → Prop} (hr : Rel ec K w σ s) (h : Res P (okE K ec W σ w) ((c s).bind k))
    (hk : ∀ b w1 s1, Le w w1 → Rel ec K w1 σ s1 → Res P (okE K ec W σ w) (k b s1) → Q b w1.H) : rdT K ec W c σ w.H Q := by
  refine ⟨w, s, rfl, hr, ?_⟩
  cases e : c s with
  | bad => rw [e] at h; exact h
  | ex n s' => rw [e] at h; exact h
  | ok b s' =>
    rw [e] at h
    exact fun w' le r' => hk b w' s' le r' h
theorem p_and {a b : Expr} {rest : List Expr} {c d : CT} {pos : Pos} (ha : Tx X ec W a c) (hb : Px X ec W (.BoolOp .And (b :: rest) pos) d) : Px X ec W (.BoolOp .And (a :: b :: rest) pos) (tAnd' c d) := PW.imp (pw_and ha hb) fun σ H Q h => by
  obtain ⟨w, s, rfl, hr, h⟩ := h
  refine run_t hr h fun x w1 s1 le1 hr1 h1 => ?_
  cases x with
  | true => exact iteT ⟨w1, s1, rfl, hr1, FinT.le le1 h1⟩
  | false => exact iteF (h1 w1 le1 hr1)
theorem p_or {a b : Expr} {rest : List Expr} {c d : CT} {pos : Pos} (ha : Tx X ec W a c) (hb : Px X ec W (.BoolOp .Or (b :: rest) pos) d) : Px X ec W (.BoolOp .Or (a :: b :: rest) pos) (tOr' c d) := PW.imp (pw_or ha hb) fun σ H Q h => by
  obtain ⟨w, s, rfl, hr, h⟩ := h
  refine run_t hr h fun x w1 s1 le1 hr1 h1 => ?_
  cases x with
  | true => exact iteT (h1 w1 le1 hr1)
  | false => exact iteF ⟨w1, s1, rfl, hr1, FinT.le le1 h1⟩
theorem t_bop {e : Expr} {c : CT} (h : Px X ec W e c) : Tx X ec W e c := h.pt
theorem t_not {a : Expr} {c : CT} {pos : Pos} (ha : Tx X ec W a c) : Tx X ec W (.UnaryOp .Not a pos) (tNot' c) := (pt_not ha).imp fun σ H Q h => by
  obtain ⟨w, s, rfl, hr, h⟩ := h
  exact run_t hr h fun x w1 s1 le1 hr1 h1 => h1 w1 le1 hr1
/-! ### as values: and, or, not; a if t else b -/
def cB (c : CE) : CT := fun s => (cv c s).bind fun a s1 => match a with
  | .d (.bool b) => .ok b s1
  | _ => .bad
def cAnd (a b : CE) : CE := fun s => (cB a s).bind fun x s1 => if x = true then b s1 else .ok (.d (.bool false)) s1
def cOr (a b : CE) : CE := fun s => (cB a s).bind fun x s1 => if x = true then .ok (.d (.bool true)) s1 else b s1
def cNot (a : CE) : CE := fun s => (cB a s).bind fun x s1 => .ok (.d (.bool (!x))) s1
theorem run_b {K : Fg} {σ : St} {w : Wd} {s : S} {α : Type} {c : CE} {k : Bool → S → R α} {P : α → S → Prop} {Q : VK} (hr : Rel ec K w σ s) (h : Res P (okE K ec W σ w) ((cB c s).bind k))
    (hk : ∀ b w1 s1, Le w w1 → Rel ec K w1 σ s1 → Res P (okE K ec W σ w) (k b s1) → Q (.bl b) w1.H) : rd K ec W c σ w.H Q := by
  have h' : Res P (okE K ec W σ w) ((cv c s).bind fun a s1 => (match a with
    | .d (.bool b) => R.ok b s1
    | _ => R.bad).bind k) := by
    unfold cB at h
    cases e : cv c s with
    | bad => rw [e] at h; exact h
    | ex n s' => rw [e] at h; exact h
    | ok a s' => rw [e] at h; exact h
  refine run_cv hr h' fun x w1 s1 a le1 hr1 ha hn h1 => ?_
  cases a with
  | ref n => exact h1.elim
  | new c => exact h1.elim
  | d y =>
    cases y with
    | bool b =>
      have e : x = .bl b := by
        have ha : Rp K w1.G x (.bool b) := ha
        cases ha
        rfl
      rw [e]
      exact hk b w1 s1 le1 hr1 h1
    | none => exact h1.elim
    | int _ => exact h1.elim
    | str _ => exact h1.elim
    | list _ => exact h1.elim
    | tuple _ => exact h1.elim
    | dict _ => exact h1.elim
theorem e_one {op} {a : Expr} {c : CE} {pos : Pos} (ha : Ex X ec W a c) : Ex X ec W (.BoolOp op [a] pos) c := pe_one ha
theorem e_and {a b : Expr} {rest : List Expr} {c d : CE} {pos : Pos} (ha : Ex X ec W a c) (hb : Ex X ec W (.BoolOp .And (b :: rest) pos) d) : Ex X ec W (.BoolOp .And (a :: b :: rest) pos) (cAnd c d) := (pe_and ha hb).imp fun σ H Q h => by
  obtain ⟨w, s, rfl, hr, h⟩ := h
  refine run_b hr h fun x w1 s1 le1 hr1 h1 => ⟨x, rfl, ?_⟩
  cases x with
  | true => exact iteT ⟨w1, s1, rfl, hr1, FinV.le le1 h1⟩
  | false => exact iteF (h1 (.bl false) w1 le1 hr1 (.bl false) .d)
theorem e_or {a b : Expr} {rest : List Expr} {c d : CE} {pos : Pos} (ha : Ex X ec W a c) (hb : Ex X ec W (.BoolOp .Or (b :: rest) pos) d) : Ex X ec W (.BoolOp .Or (a :: b :: rest) pos) (cOr c d) := (pe_or ha hb).imp fun σ H Q h => by
  obtain ⟨w, s, rfl, hr, h⟩ := h
  refine run_b hr h fun x w1 s1 le1 hr1 h1 => ⟨x, rfl, ?_⟩
  cases x with
  | true => exact iteT (h1 (.bl true) w1 le1 hr1 (.bl true) .d)
  | false => exact iteF ⟨w1, s1, rfl, hr1, FinV.le le1 h1⟩
theorem e_not {a : Expr} {c : CE} {pos : Pos} (ha : Ex X ec W a c) : Ex X ec W (.UnaryOp .Not a pos) (cNot c) := (pe_not ha).imp fun σ H Q h => by
  obtain ⟨w, s, rfl, hr, h⟩ := h
  exact run_b hr h fun x w1 s1 le1 hr1 h1 => ⟨x, rfl, h1 (.bl (!x)) w1 le1 hr1 (.bl _) .d⟩
def cIf (t : CT) (a b : CE) : CE := fun s => (t s).bind fun x s1 => if x = true then a s1 else b s1
theorem e_if {t a b : Expr} {ct : CT} {ca cb : CE} {pos : Pos} (ht : Tx X ec W t ct) (ha : Ex X ec W a ca) (hb : Ex X ec W b cb) : Ex X ec W (.IfExp t a b pos) (cIf ct ca cb) := (pe_ifExp ht ha hb).imp fun σ H Q h => by
  obtain ⟨w, s, rfl, hr, h⟩ := h
  refine run_t hr h fun x w1 s1 le1 hr1 h1 => ?_
  cases x with
  | true => exact iteT ⟨w1, s1, rfl, hr1, FinV.le le1 h1⟩
  | false => exact iteF ⟨w1, s1, rfl, hr1, FinV.le le1 h1⟩

/-! ### operators, calls by values -/
theorem e_bin {op : Operator} {a b : Expr} {ca cb : CE} {r : R2} {f : Od → Od → Option Rv} {pos : Pos} (ho : OpR X (binaryOp op) r) (hs : Op2S X.K r f) (ha : Ex X ec W a ca) (hb : Ex X ec W b cb) : Ex X ec W (.BinOp a op b pos) (cOp2 f ca cb) :=
  (pe_op ho ha hb).imp fun _ _ _ h => op2 hs h
theorem e_cmp {op : CmpOp} {a b : Expr} {ca cb : CE} {r : R2} {f : Od → Od → Option Rv} {pos : Pos} (ho : OpR X (compareOp op) r) (hs : Op2S X.K r f) (ha : Ex X ec W a ca) (hb : Ex X ec W b cb) (hm : behindInMarks op b = false := by first | exact nomark _ | rfl) : Ex X ec W (.Compare a [op] [b] pos) (cOp2 f ca cb) :=
  (pe_cmpR ho ha hb hm).imp fun _ _ _ h => op2 hs h
theorem e_un {op : UnaryOp} {a : Expr} {ca : CE} {r : V → Hp → VK → Prop} {f : Od → Option Rv} {pos : Pos} (ho : UnR X (unaryOp op) r) (hs : Op1S X.K r f) (ha : Ex X ec W a ca) : Ex X ec W (.UnaryOp op a pos) (cOp1 f ca) :=
  (pe_un ho ha).imp fun _ _ _ h => op1 hs h
theorem e_ixR {a b : Expr} {ca cb : CE} {r : R2} {f : Od → Od → Option Rv} {pos : Pos} (hr : IxR X r) (hs : Op2S X.K r f) (ha : Ex X ec W a ca) (hb : Ex X ec W b cb) (hp : PlainIx b := by exact fun _ _ => rfl) : Ex X ec W (.Subscript a b pos) (cOp2 f ca cb) :=
  (pe_ix hr ha hb hp).imp fun _ _ _ h => op2 hs h
theorem e_call1 {id : String} {x : Str} {a : Expr} {ca : CE} {r : List V → Hp → VK → Prop} {f : Od → Option Rv} {p pos : Pos} (hc : CallR X (.builtin id) r) (hs : Op1S X.K (fun v => r [v]) f) (hm : X.mg x = none) (hv : bootBuiltins x = some (.builtin id)) (ha : Ex X ec W a ca)
    (hg : Gl X x := by rfl) (hn : x ≠ "__name__" := by decide) (hd : (x == ("__debug__" : Str)) = false := by decide) (h1 : starEach [a] X.env = (false, eval a X.env) :: starEach [] X.env := by rfl) (h2 : (backTo pos (starEach [] X.env)).any (·.1) = false := by rfl) : Ex X ec W (.Call (.Name x p) [a] [] pos) (cOp1 f ca) :=
  (pe_callB hc hg hm hv (pa_cons ha pa_nil h1) hn hd h1 h2).imp fun _ _ _ h => op1 hs h
theorem e_call2 {id : String} {x : Str} {a b : Expr} {ca cb : CE} {r : List V → Hp → VK → Prop} {f : Od → Od → Option Rv} {p pos : Pos} (hc : CallR X (.builtin id) r) (hs : Op2S X.K (fun v u => r [v, u]) f) (hm : X.mg x = none) (hv : bootBuiltins x = some (.builtin id)) (ha : Ex X ec W a ca) (hb : Ex X ec W b cb)
    (hg : Gl X x := by rfl) (hn : x ≠ "__name__" := by decide) (hd : (x == ("__debug__" : Str)) = false := by decide) (h0 : starEach [b] X.env = (false, eval b X.env) :: starEach [] X.env := by rfl) (h1 : starEach [a, b] X.env = (false, eval a X.env) :: starEach [b] X.env := by rfl) (h2 : (backTo pos (starEach [b] X.env)).any (·.1) = false := by rfl) :
    Ex X ec W (.Call (.Name x p) [a, b] [] pos) (cOp2 f ca cb) :=
  (pe_callB hc hg hm hv (pa_cons ha (pa_cons hb pa_nil h0) h1) hn hd h1 h2).imp fun _ _ _ h => op2 hs h
theorem e_callT1 {T : String} {x : Str} {a : Expr} {ca : CE} {r : List V → Hp → VK → Prop} {f : Od → Option Rv} {p pos : Pos} (hc : CallR X (.type T) r) (hs : Op1S X.K (fun v => r [v]) f) (hm : X.mg x = none) (hv : bootBuiltins x = some (.type T)) (ha : Ex X ec W a ca)
    (hg : Gl X x := by rfl) (hn : x ≠ "__name__" := by decide) (hd : (x == ("__debug__" : Str)) = false := by decide) (h1 : starEach [a] X.env = (false, eval a X.env) :: starEach [] X.env := by rfl) (h2 : (backTo pos (starEach [] X.env)).any (·.1) = false := by rfl) : Ex X ec W (.Call (.Name x p) [a] [] pos) (cOp1 f ca) :=
  (pe_callTy hc hg hm hv (pa_cons ha pa_nil h1) hn hd h1 h2).imp fun _ _ _ h => op1 hs h
end
end Vm

namespace Vm
open PySem L2 PySem.W PyProof.Rows

theorem rp_ints {K : Fg} {H : Hp} : ∀ {ns : List Int} {vs : List V}, RpAll K H vs (ns.map PyData.int) → vs = ns.map V.int
  | [], _, h => by
    cases h
    rfl
  | n :: ns, _, h => by
    cases h with
    | cons h1 h2 =>
      cases h1
      rw [rp_ints h2]
      rfl
theorem rp_bools {K : Fg} {H : Hp} : ∀ {ns : List Bool} {vs : List V}, RpAll K H vs (ns.map PyData.bool) → vs = ns.map V.bl
  | [], _, h => by
    cases h
    rfl
  | n :: ns, _, h => by
    cases h with
    | cons h1 h2 =>
      cases h1
      rw [rp_bools h2]
      rfl
theorem rpAll_ints {K : Fg} {H : Hp} : ∀ ns : List Int, RpAll K H (ns.map V.int) (ns.map PyData.int)
  | [] => .nil
  | n :: ns => .cons (.int n) (rpAll_ints ns)
/-- all ints -/
def ints? : List D → Option (List Int)
  | [] => some []
  | .int i :: r => match ints? r with
    | some l => some (i :: l)
    | none => none
  | _ :: _ => none
def bools? : List D → Option (List Bool)
  | [] => some []
  | .bool i :: r => match bools? r with
    | some l => some (i :: l)
    | none => none
  | _ :: _ => none
theorem ints?_eq : ∀ {ds : List D} {ns : List Int}, ints? ds = some ns → ds = ns.map PyData.int
  | [], ns, h => by
    cases h
    rfl
  | .int i :: r, ns, h => by
    unfold ints? at h
    split at h
    · rename_i l e
      cases h
      rw [ints?_eq e]
      rfl
    · cases h
  | .none :: _, _, h => by cases h
  | .bool _ :: _, _, h => by cases h
  | .str _ :: _, _, h => by cases h
  | .list _ :: _, _, h => by cases h
  | .tuple _ :: _, _, h => by cases h
  | .dict _ :: _, _, h => by cases h
theorem bools?_eq : ∀ {ds : List D} {ns : List Bool}, bools? ds = some ns → ds = ns.map PyData.bool
  | [], ns, h => by
    cases h
    rfl
  | .bool i :: r, ns, h => by
    unfold bools? at h
    split at h
    · rename_i l e
      cases h
      rw [bools?_eq e]
      rfl
    · cases h
  | .none :: _, _, h => by cases h
  | .int _ :: _, _, h => by cases h
  | .str _ :: _, _, h => by cases h
  | .list _ :: _, _, h => by cases h
  | .tuple _ :: _, _, h => by cases h
  | .dict _ :: _, _, h => by cases h
theorem ints?_map : ∀ ns : List Int, ints? (ns.map PyData.int) = some ns
  | [] => rfl
  | n :: ns => by
    show (match ints? (ns.map PyData.int) with
      | some l => some (n :: l)
      | none => none) = _
    rw [ints?_map ns]
theorem bools?_map : ∀ ns : List Bool, bools? (ns.map PyData.bool) = some ns
  | [] => rfl
  | n :: ns => by
    show (match bools? (ns.map PyData.bool) with
      | some l => some (n :: l)
      | none => none) = _
    rw [bools?_map ns]

section
variable {X : Cx}
/-! ### + -/
def rCatV (K : Fg) : R2 := fun x y H Q => ∃ l b xs zs, x = .ref l ∧ y = .ref b ∧ SqL K H l xs ∧ SqL K H b zs ∧ xs.length + zs.length ≤ sizeLine ∧ ∀ p, H p = none → Q (.ref p) (upd H p (.lst (xs ++ zs)))
theorem op_catV : OpR X (binaryOp .Add) (rCatV X.K) := by
  intro pins s σ H x y v u Q I rx ry h
  obtain ⟨l, b, xs, zs, rfl, rfl, hH, hB, hz, q⟩ := h
  cases rx
  cases ry
  obtain ⟨its, r, pl, _⟩ := I.list hH
  obtain ⟨its2, r2, pl2, _⟩ := I.list hB
  obtain ⟨⟨cls, dd, data, sl⟩, n, ho, hc, hdd, hd⟩ := pl
  obtain ⟨⟨cls2, dd2, data2, sl2⟩, n2, ho2, hc2, hdd2, hd2⟩ := pl2
  simp only at hc hd hc2 hd2 hdd hdd2
  subst hc hd hc2 hd2
  have e : its.toArray ++ its2.toArray = (its ++ its2).toArray := by simp
  have hsz : its.length + its2.length ≤ sizeLine := by rw [← r.length, ← r2.length]; exact hz
  refine concat_meets ⟨_, ho, rfl⟩ ⟨_, ho2, rfl⟩ noFill_list_add seq_list_add PySem.F.slot_list_add PySem.F.entry_list_add (PySem.F.args_list_add_2 _ _) (list_addW l b its.toArray its2.toArray n n2 dd dd2 sl sl2 (by simpa using hsz)) ⟨ho, ho2, ?_⟩
  rw [e]
  exact ⟨.ref _, _, I.lnew (t' := s.toks) (r.append r2) (by rw [List.length_append]; omega), rfl, q _ I.fresh⟩
def rStrCat : R2 := fun x y H Q => ∃ i j, x = .str i ∧ y = .str j ∧ i.length + j.length ≤ sizeLine ∧ Q (.str (i ++ j)) H
def rAdd (K : Fg) : R2 := fun x y H Q => (rI0 fun i j => .int (i + j)) x y H Q ∨ rStrCat x y H Q ∨ rCatA K x y H Q ∨ rCatV K x y H Q
theorem or_add : OpR X (binaryOp .Add) (rAdd X.K) := OpR.or op_add (OpR.or op_add_str (OpR.or op_catA op_catV))
def opAdd : Od → Od → Option Rv
  | .d (.int i), .d (.int j) => some (.d (.int (i + j)))
  | .d (.str x), .d (.str y) => if x.length + y.length ≤ 16000000 then some (.d (.str (x ++ y))) else none
  | .d (.tuple xs), .d (.tuple ys) => if xs.length + ys.length ≤ 16000000 then some (.d (.tuple (xs ++ ys))) else none
  | .d (.list xs), .d (.list ys) => if xs.length + ys.length ≤ 16000000 then some (.new (.l (xs ++ ys))) else none
  | _, _ => none
theorem sz16 {n : Nat} (h : n ≤ 16000000) : n ≤ sizeLine := Nat.le_trans h (by decide)
theorem s_add {K : Fg} : Op2S K (rAdd K) opAdd := by
  intro w x y o o' rv Q hx h h' e q
  unfold opAdd at e
  split at e
  · cases e
    exact .inl ⟨_, _, h.int, h'.int, post_int q⟩
  · split at e
    · rename_i hl
      cases e
      exact .inr (.inl ⟨_, _, h.str, h'.str, sz16 hl, post_str q⟩)
    · cases e
  · split at e
    · rename_i xs ys hl
      cases e
      obtain ⟨p, vs, rfl, hs, ra⟩ := h.tup
      obtain ⟨p', vs', rfl, hs', ra'⟩ := h'.tup
      refine .inr (.inr (.inl ⟨p, p', vs, vs', rfl, rfl, SqT.of (hx _ _ hs), SqT.of (hx _ _ hs'), by rw [ra.length, ra'.length]; exact sz16 hl, fun e0 => ?_, fun _ e0 => ?_, fun _ _ a ha => post_tup q (ra.append ra') ha hx⟩))
      · subst e0
        cases ra
        exact post_d q (.tup hs' ra')
      · subst e0
        cases ra'
        rw [List.append_nil] at q
        exact post_d q (.tup hs ra)
    · cases e
  · split at e
    · rename_i xs ys hl
      cases e
      obtain ⟨p, vs, rfl, hs, ra⟩ := h.list hx
      obtain ⟨p', vs', rfl, hs', ra'⟩ := h'.list hx
      exact .inr (.inr (.inr ⟨p, p', vs, vs', rfl, rfl, hs, hs', by rw [ra.length, ra'.length]; exact sz16 hl, fun a ha => post_lst q (ra.append ra') ha hx⟩))
    · cases e
  · cases e

/-! ### - * // % ** on ints -/
def opSub : Od → Od → Option Rv
  | .d (.int i), .d (.int j) => some (.d (.int (i - j)))
  | _, _ => none
theorem s_sub {K : Fg} : Op2S K (rI0 fun i j => .int (i - j)) opSub := by
  intro w x y o o' rv Q hx h h' e q
  unfold opSub at e
  split at e
  · cases e
    exact ⟨_, _, h.int, h'.int, post_int q⟩
  · cases e
def mulOk (i j : Int) : Bool := decide (i.natAbs.log2 + j.natAbs.log2 < 100000000)
theorem mulOk_ok {i j : Int} (h : mulOk i j = true) : IntMulOk i j := by
  have h := of_decide_eq_true h
  have b : ∀ x : Int, Builtin.Int.intBits x ≤ x.natAbs.log2 + 1 := fun x => by
    unfold Builtin.Int.intBits
    split <;> omega
  have h1 := b i
  have h2 := b j
  have e : bitsLine = 134217728 := by decide
  unfold IntMulOk
  intro z
  rw [Bool.and_eq_true] at z
  have z2 := z.2
  unfold Builtin.Int.intTooBig at z2
  have z3 := of_decide_eq_true z2
  rw [e] at z3
  omega
theorem op_mulV : OpR X (binaryOp .Mult) (rI (fun i j => mulOk i j = true) fun i j => .int (i * j)) := opI fun _ _ _ _ _ _ _ hc q => mul_int q (mulOk_ok hc)
def rRepV (K : Fg) : R2 := fun x y H Q => ∃ l k xs, x = .ref l ∧ y = .int k ∧ SqL K H l xs ∧ -(2 ^ 63) ≤ k ∧ k < 2 ^ 63 ∧ xs.length * k.toNat ≤ sizeLine ∧ ∀ p, H p = none → Q (.ref p) (upd H p (.lst (List.replicate k.toNat xs).flatten))
def opMul : Od → Od → Option Rv
  | .d (.int i), .d (.int j) => if mulOk i j = true then some (.d (.int (i * j))) else none
  | _, _ => none
theorem s_mul {K : Fg} : Op2S K (rI (fun i j => mulOk i j = true) fun i j => .int (i * j)) opMul := by
  intro w x y o o' rv Q hx h h' e q
  unfold opMul at e
  split at e
  · split at e
    · rename_i hm
      cases e
      exact ⟨_, _, h.int, h'.int, hm, post_int q⟩
    · cases e
  · cases e
theorem op_fdivV : OpR X (binaryOp .FloorDiv) (rI (fun _ j => j ≠ 0 ∧ j.natAbs.log2 < 9000) fun i j => .int (i.fdiv j)) := opI fun i j _ _ _ _ _ hc q => floordiv_int hc.1 q (.inl (PyProof.noPylong_of_log2 hc.2))
def fdv (i j : Int) : Int := if 0 < j then i / j else i.fdiv j
theorem fdv_eq (i j : Int) : i.fdiv j = fdv i j := by
  unfold fdv
  split
  · exact Int.fdiv_eq_ediv_of_nonneg i (by omega)
  · rfl
def fmd (i j : Int) : Int := if 0 < j then i % j else i.fmod j
theorem fmd_eq (i j : Int) : i.fmod j = fmd i j := by
  unfold fmd
  split
  · exact Int.fmod_eq_emod_of_nonneg i (by omega)
  · rfl
def opDiv : Od → Od → Option Rv
  | .d (.int i), .d (.int j) => if j ≠ 0 ∧ j.natAbs.log2 < 9000 then some (.d (.int (fdv i j))) else none
  | _, _ => none
theorem s_div {K : Fg} : Op2S K (rI (fun _ j => j ≠ 0 ∧ j.natAbs.log2 < 9000) fun i j => .int (i.fdiv j)) opDiv := by
  intro w x y o o' rv Q hx h h' e q
  unfold opDiv at e
  split at e
  · split at e
    · rename_i hm
      cases e
      rw [← fdv_eq] at q
      exact ⟨_, _, h.int, h'.int, hm, post_int q⟩
    · cases e
  · cases e
def opMod : Od → Od → Option Rv
  | .d (.int i), .d (.int j) => if j ≠ 0 then some (.d (.int (fmd i j))) else none
  | _, _ => none
theorem s_mod {K : Fg} : Op2S K (rI (fun _ j => j ≠ 0) fun i j => .int (i.fmod j)) opMod := by
  intro w x y o o' rv Q hx h h' e q
  unfold opMod at e
  split at e
  · split at e
    · rename_i hm
      cases e
      rw [← fmd_eq] at q
      exact ⟨_, _, h.int, h'.int, hm, post_int q⟩
    · cases e
  · cases e
def opPow : Od → Od → Option Rv
  | .d (.int i), .d (.int j) => if 0 ≤ j ∧ j ≤ 1000000 ∧ i.natAbs < 2 ^ 64 then some (.d (.int (i ^ j.toNat))) else none
  | _, _ => none
theorem s_pow {K : Fg} : Op2S K (rI CPow fun i j => .int (i ^ j.toNat)) opPow := by
  intro w x y o o' rv Q hx h h' e q
  unfold opPow at e
  split at e
  · split at e
    · rename_i hm
      cases e
      exact ⟨_, _, h.int, h'.int, hm, post_int q⟩
    · cases e
  · cases e
def opNeg : Od → Option Rv
  | .d (.int i) => some (.d (.int (-i)))
  | _ => none
theorem s_neg {K : Fg} : Op1S K (rU fun i => .int (-i)) opNeg := by
  intro w x o rv Q hx h e q
  unfold opNeg at e
  split at e
  · cases e
    exact ⟨_, h.int, post_int q⟩
  · cases e

/-! ### comparisons -/
/-- data without dicts, not deep -/
def okd (d : D) : Bool := d.plain && decide (d.depth ≤ 60)
theorem okd_iff {d : D} : okd d = true ↔ d.plain = true ∧ d.depth ≤ 60 := by
  unfold okd
  rw [Bool.and_eq_true, decide_eq_true_eq]
def rEqV (K : Fg) (neg : Bool) : R2 := fun x y H Q => ∃ d e, Rp K H x d ∧ Rp K H y e ∧ okd d = true ∧ okd e = true ∧ Q (.bl (if neg then !PyData.eqv d e else PyData.eqv d e)) H
theorem op_eqV (hu : X.A.units + 64 < cLine) : OpR X (compareOp .Eq) (rEqV X.K false) := by
  intro pins s σ H x y v u Q I rx ry h
  obtain ⟨d, e, hd, he, sd, se, q⟩ := h
  obtain ⟨pd, _⟩ := okd_iff.mp sd
  obtain ⟨pe, dl⟩ := okd_iff.mp se
  obtain ⟨as, r1⟩ := Rp.reads I d x v pd hd rx
  obtain ⟨bs, r2⟩ := Rp.reads I e y u pe he ry
  exact SeqAt.eq_plain r1 r2 pd pe (by omega) ⟨.bl _, H, I, rfl, q⟩
theorem op_neV (hu : X.A.units + 64 < cLine) : OpR X (compareOp .NotEq) (rEqV X.K true) := by
  intro pins s σ H x y v u Q I rx ry h
  obtain ⟨d, e, hd, he, sd, se, q⟩ := h
  obtain ⟨pd, _⟩ := okd_iff.mp sd
  obtain ⟨pe, dl⟩ := okd_iff.mp se
  obtain ⟨as, r1⟩ := Rp.reads I d x v pd hd rx
  obtain ⟨bs, r2⟩ := Rp.reads I e y u pe he ry
  exact SeqAt.ne_plain r1 r2 pd pe (by omega) ⟨.bl _, H, I, rfl, q⟩
def eqB : D → D → Option Bool
  | .int i, .int j => some (decide (i = j))
  | x, y => if okd x = true ∧ okd y = true then some (PyData.eqv x y) else none
def opEq : Od → Od → Option Rv
  | .d x, .d y => match eqB x y with
    | some b => some (.d (.bool b))
    | none => none
  | _, _ => none
def opNe : Od → Od → Option Rv
  | .d x, .d y => match eqB x y with
    | some b => some (.d (.bool (!b)))
    | none => none
  | _, _ => none
theorem eqB_ok {x y : D} {b : Bool} (h : eqB x y = some b) : okd x = true ∧ okd y = true ∧ PyData.eqv x y = b := by
  unfold eqB at h
  split at h
  · rename_i i j
    cases h
    refine ⟨rfl, rfl, ?_⟩
    show (i == j) = _
    exact Bool.beq_eq_decide_eq i j
  · split at h
    · rename_i hh
      cases h
      exact ⟨hh.1, hh.2, rfl⟩
    · cases h
theorem s_eq {K : Fg} : Op2S K (rEqV K false) opEq := by
  intro w x y o o' rv Q hx h h' e q
  unfold opEq at e
  split at e
  · split at e
    · rename_i b eb
      cases e
      obtain ⟨h1, h2, h3⟩ := eqB_ok eb
      refine ⟨_, _, h.rp hx, h'.rp hx, h1, h2, ?_⟩
      rw [if_neg (by decide), h3]
      exact post_bool q
    · cases e
  · cases e
theorem s_ne {K : Fg} : Op2S K (rEqV K true) opNe := by
  intro w x y o o' rv Q hx h h' e q
  unfold opNe at e
  split at e
  · split at e
    · rename_i b eb
      cases e
      obtain ⟨h1, h2, h3⟩ := eqB_ok eb
      refine ⟨_, _, h.rp hx, h'.rp hx, h1, h2, ?_⟩
      rw [if_pos rfl, h3]
      exact post_bool q
    · cases e
  · cases e
/-- <, >, <=, >= of data that are alike: f of «the first is less» and «the second is less» -/
def rOrd (K : Fg) (f : Bool → Bool → Bool) : R2 := fun x y H Q => ∃ d e, Rp K H x d ∧ Rp K H y e ∧ okd d = true ∧ okd e = true ∧ alike d e = true ∧ d ≠ .none ∧ Q (.bl (f (dataLt d e) (dataLt e d))) H
theorem op_ltV (hu : X.A.units + 64 < cLine) : OpR X (compareOp .Lt) (rOrd X.K fun a _ => a) := by
  intro pins s σ H x y v u Q I rx ry h
  obtain ⟨d, e, hd, he, sd, se, al, hn, q⟩ := h
  obtain ⟨pd, _⟩ := okd_iff.mp sd
  obtain ⟨pe, dl⟩ := okd_iff.mp se
  obtain ⟨as, r1⟩ := Rp.reads I d x v pd hd rx
  obtain ⟨bs, r2⟩ := Rp.reads I e y u pe he ry
  exact lt_data r1 r2 al hn (by omega) ⟨.bl _, H, I, rfl, q⟩
theorem op_gtV (hu : X.A.units + 64 < cLine) : OpR X (compareOp .Gt) (rOrd X.K fun _ b => b) := by
  intro pins s σ H x y v u Q I rx ry h
  obtain ⟨d, e, hd, he, sd, se, al, hn, q⟩ := h
  obtain ⟨pd, _⟩ := okd_iff.mp sd
  obtain ⟨pe, dl⟩ := okd_iff.mp se
  obtain ⟨as, r1⟩ := Rp.reads I d x v pd hd rx
  obtain ⟨bs, r2⟩ := Rp.reads I e y u pe he ry
  exact gt_data r1 r2 al hn (by omega) ⟨.bl _, H, I, rfl, q⟩
theorem op_leV (hu : X.A.units + 64 < cLine) : OpR X (compareOp .LtE) (rOrd X.K fun _ b => !b) := by
  intro pins s σ H x y v u Q I rx ry h
  obtain ⟨d, e, hd, he, sd, se, al, hn, q⟩ := h
  obtain ⟨pd, _⟩ := okd_iff.mp sd
  obtain ⟨pe, dl⟩ := okd_iff.mp se
  obtain ⟨as, r1⟩ := Rp.reads I d x v pd hd rx
  obtain ⟨bs, r2⟩ := Rp.reads I e y u pe he ry
  exact le_data r1 r2 al hn (by omega) ⟨.bl _, H, I, rfl, q⟩
theorem op_geV (hu : X.A.units + 64 < cLine) : OpR X (compareOp .GtE) (rOrd X.K fun a _ => !a) := by
  intro pins s σ H x y v u Q I rx ry h
  obtain ⟨d, e, hd, he, sd, se, al, hn, q⟩ := h
  obtain ⟨pd, _⟩ := okd_iff.mp sd
  obtain ⟨pe, dl⟩ := okd_iff.mp se
  obtain ⟨as, r1⟩ := Rp.reads I d x v pd hd rx
  obtain ⟨bs, r2⟩ := Rp.reads I e y u pe he ry
  exact ge_data r1 r2 al hn (by omega) ⟨.bl _, H, I, rfl, q⟩
def isNone : D → Bool
  | .none => true
  | _ => false
theorem isNone_iff {d : D} : isNone d = false → d ≠ .none := by
  intro h z
  subst z
  cases h
def opOrd (fi : Int → Int → Bool) (f : Bool → Bool → Bool) : Od → Od → Option Rv
  | .d (.int i), .d (.int j) => some (.d (.bool (fi i j)))
  | .d x, .d y => if okd x = true ∧ okd y = true ∧ alike x y = true ∧ isNone x = false then some (.d (.bool (f (dataLt x y) (dataLt y x)))) else none
  | _, _ => none
theorem s_ord {K : Fg} {fi : Int → Int → Bool} {f : Bool → Bool → Bool} : Op2S K (fun x y H Q => rI0 (fun i j => .bl (fi i j)) x y H Q ∨ rOrd K f x y H Q) (opOrd fi f) := by
  intro w x y o o' rv Q hx h h' e q
  unfold opOrd at e
  split at e
  · cases e
    exact .inl ⟨_, _, h.int, h'.int, post_bool q⟩
  · split at e
    · rename_i hh
      cases e
      exact .inr ⟨_, _, h.rp hx, h'.rp hx, hh.1, hh.2.1, hh.2.2.1, isNone_iff hh.2.2.2, post_bool q⟩
    · cases e
  · cases e
abbrev opLt := opOrd (fun i j => decide (i < j)) fun a _ => a
abbrev opLe := opOrd (fun i j => decide (i ≤ j)) fun _ b => !b
abbrev opGt := opOrd (fun i j => decide (j < i)) fun _ b => b
abbrev opGe := opOrd (fun i j => decide (j ≤ i)) fun a _ => !a
/-- is, is not: None, truths -/
def rIsV (neg : Bool) : R2 := fun x y H Q => (y = .non ∧ Q (.bl (if neg then !decide (x = .non) else decide (x = .non))) H) ∨ ∃ a b, x = .bl a ∧ y = .bl b ∧ Q (.bl (if neg then !decide (a = b) else decide (a = b))) H
theorem op_isV : OpR X (compareOp .Is) (rIsV false) := OpR.or op_isN op_isBl
theorem op_isnV : OpR X (compareOp .IsNot) (rIsV true) := OpR.or op_notN op_notBl
def opIs (neg : Bool) : Od → Od → Option Rv
  | .d x, .d .none => some (.d (.bool (if neg then !isNone x else isNone x)))
  | .c _, .d .none => some (.d (.bool neg))
  | .d (.bool a), .d (.bool b) => some (.d (.bool (if neg then !decide (a = b) else decide (a = b))))
  | _, _ => none
theorem isNone_of {K : Fg} {w : Wd} {x : V} {d : D} (h : OdOk K w x (.d d)) : decide (x = .non) = isNone d := by
  rcases h with h | ⟨p, vs, ds, rfl, rfl, _⟩
  · cases h <;> rfl
  · rfl
theorem s_is {K : Fg} {neg : Bool} : Op2S K (rIsV neg) (opIs neg) := by
  intro w x y o o' rv Q hx h h' e q
  unfold opIs at e
  split at e
  · cases e
    exact .inl ⟨h'.none, by rw [isNone_of h]; exact post_bool q⟩
  · cases e
    obtain ⟨p, rfl, _⟩ := h
    refine .inl ⟨h'.none, ?_⟩
    have e1 : decide (V.ref p = .non) = false := rfl
    rw [e1]
    cases neg <;> exact post_bool q
  · cases e
    exact .inr ⟨_, _, h.bool, h'.bool, post_bool q⟩
  · cases e

/-! ### items -/
theorem atI_map {K : Fg} {G : Hp} {vs : List V} {ds : List D} {i : Int} {d : D} (r : RpAll K G vs ds) (h : atI ds i = some d) : ∃ v, atI vs i = some v ∧ Rp K G v d := by
  unfold atI at h ⊢
  rw [r.length]
  cases e : ixN ds.length i with
  | none => rw [e] at h; cases h
  | some j =>
    rw [e] at h
    exact r.get h
def rIxV (K : Fg) : R2 := fun x y H Q => (rIxL K) x y H Q ∨ (rIxT K) x y H Q ∨ rIxS x y H Q
theorem IxR.or {r r' : R2} (h : IxR X r) (h' : IxR X r') : IxR X (fun x y H Q => r x y H Q ∨ r' x y H Q) := by
  intro value slice pins s σ H x y v u Q I rx ry hh hs
  rcases hh with hh | hh
  · exact h value slice pins s σ H x y v u Q I rx ry hh hs
  · exact h' value slice pins s σ H x y v u Q I rx ry hh hs
theorem ixr_V : IxR X (rIxV X.K) := IxR.or ix_list (IxR.or ix_tup ix_str)
def opIx : Od → Od → Option Rv
  | .d (.list ds), .d (.int i) => match atI ds i with
    | some d => some (.d d)
    | none => none
  | .d (.tuple ds), .d (.int i) => match atI ds i with
    | some d => some (.d d)
    | none => none
  | .d (.str z), .d (.int i) => if z.length ≤ 16000000 then (match atI z.cps.toList i with
    | some c => some (.d (.str ⟨#[c]⟩))
    | none => none) else none
  | _, _ => none
theorem s_ix {K : Fg} : Op2S K (rIxV K) opIx := by
  intro w x y o o' rv Q hx h h' e q
  unfold opIx at e
  split at e
  · split at e
    · rename_i d ed
      cases e
      obtain ⟨p, vs, rfl, hs, ra⟩ := h.list hx
      obtain ⟨v, ev, rp⟩ := atI_map ra ed
      exact .inl ⟨p, vs, _, v, rfl, h'.int, hs, ev, post_d q rp⟩
    · cases e
  · split at e
    · rename_i d ed
      cases e
      obtain ⟨p, vs, rfl, hs, ra⟩ := h.tup
      obtain ⟨v, ev, rp⟩ := atI_map ra ed
      exact .inr (.inl ⟨p, vs, _, v, rfl, h'.int, SqT.of (hx _ _ hs), ev, post_d q rp⟩)
    · cases e
  · split at e
    · rename_i hl
      split at e
      · rename_i c ec
        cases e
        exact .inr (.inr ⟨_, _, c, h.str, h'.int, sz16 hl, ec, post_str q⟩)
      · cases e
    · cases e
  · cases e

/-! ### built-in functions -/
def rLenV (K : Fg) : V → Hp → VK → Prop := fun v H Q => (∃ p ys, v = .ref p ∧ (SqL K H p ys ∨ SqT K H p ys) ∧ Q (.int ys.length) H) ∨ (∃ z, v = .str z ∧ z.length ≤ sizeLine ∧ Q (.int z.length) H) ∨ ∃ a kvs, v = .ref a ∧ H a = some (.dK kvs) ∧ Q (.int kvs.length) H
theorem call_lenV : CallR X (.builtin "len") (fun xs H Q => ∃ v, xs = [v] ∧ rLenV X.K v H Q) := by
  intro pins s σ H xs us Q I r h
  obtain ⟨v, rfl, h⟩ := h
  rcases h with ⟨p, ys, rfl, h1, h2⟩ | ⟨z, rfl, h1, h2⟩ | ⟨a, kvs, rfl, h1, h2⟩
  · exact call_len_seq pins s σ H _ us Q I r ⟨p, ys, rfl, h1, h2⟩
  · exact call_len_str pins s σ H _ us Q I r ⟨z, rfl, h1, h2⟩
  · exact call_lenD pins s σ H _ us Q I r ⟨a, kvs, rfl, h1, h2⟩
def opLen : Od → Option Rv
  | .d (.list ds) => some (.d (.int ds.length))
  | .d (.tuple ds) => some (.d (.int ds.length))
  | .d (.dict es) => if isTag es = true then none else some (.d (.int es.length))
  | .d (.str z) => if z.length ≤ 16000000 then some (.d (.int z.length)) else none
  | .c (.k kvs) => some (.d (.int kvs.length))
  | _ => none
theorem rpKv_len {K : Fg} {G : Hp} : ∀ {ws : List (L2.Key × V)} {es : List (D × D)}, RpKv K G ws es → ws.length = es.length
  | _, _, .nil => rfl
  | _, _, .cons _ t => congrArg (· + 1) (rpKv_len t)
theorem s_len {K : Fg} : Op1S K (fun v H Q => ∃ v', [v] = [v'] ∧ rLenV K v' H Q) opLen := by
  intro w x o rv Q hx h e q
  refine ⟨x, rfl, ?_⟩
  unfold opLen at e
  split at e
  · cases e
    obtain ⟨p, vs, rfl, hs, ra⟩ := h.list hx
    exact .inl ⟨p, vs, rfl, .inl hs, by rw [ra.length]; exact post_int q⟩
  · cases e
    obtain ⟨p, vs, rfl, hs, ra⟩ := h.tup
    exact .inl ⟨p, vs, rfl, .inr (SqT.of (hx _ _ hs)), by rw [ra.length]; exact post_int q⟩
  · split at e
    · cases e
    · rename_i nt
      cases e
      obtain ⟨p, ws, rfl, hs, ra⟩ := h.dict hx (by simpa using nt)
      exact .inr (.inr ⟨p, ws, rfl, hs, by rw [rpKv_len ra]; exact post_int q⟩)
  · split at e
    · rename_i hl
      cases e
      exact .inr (.inl ⟨_, h.str, sz16 hl, post_int q⟩)
    · cases e
  · cases e
    obtain ⟨p, rfl, ⟨_, ws, hw, ra⟩, _⟩ := h
    exact .inr (.inr ⟨p, ws, rfl, hw, by rw [paired_len ra]; exact post_int q⟩)
  · cases e
def opAbs : Od → Option Rv
  | .d (.int i) => some (.d (.int (if i < 0 then -i else i)))
  | _ => none
theorem s_abs {K : Fg} : Op1S K (fun v H Q => ∃ i, [v] = [V.int i] ∧ Q (.int (if i < 0 then -i else i)) H) opAbs := by
  intro w x o rv Q hx h e q
  unfold opAbs at e
  split at e
  · cases e
    exact ⟨_, by rw [h.int], post_int q⟩
  · cases e
/-- isinstance(x, T) of a built-in class -/
def tyN : Od → String
  | .d .none => "NoneType"
  | .d (.bool _) => "bool"
  | .d (.int _) => "int"
  | .d (.str _) => "str"
  | .d (.list _) => "list"
  | .d (.tuple _) => "tuple"
  | .d (.dict _) => "dict"
  | .c _ => "dict"
def isiB (T : String) (t : String) : Bool := t == T || (t == "bool" && T == "int")
def opIsi (T : String) (o : Od) : Option Rv := match o with
  | .c .gone => none
  | .c (.l _) => none
  | .c (.i _ _ _) => none
  | o => some (.d (.bool (isiB T (tyN o))))
/-- a value's type, a locked dict with tuple keys too -/
inductive TyY (K : Fg) (H : Hp) : V → Value → Prop where
  | x {v : V} {t : Value} (h : TyX K H v t) : TyY K H v t
  | t {a : Addr} {o : Obj} {kvs : List (List L2.Key × V)} (e : H a = some (.frz o (.dT kvs))) : TyY K H (.ref a) (.type "dict")
theorem kit_ofY {X : Cx} {pins : List (Addr × Obj)} {σ : L2.St} {H : Hp} {s : Shared} {x : V} {u t : Value} (I : Inv X pins σ H s) (rx : RelV x u) (ty : TyY X.K H x t) : ∃ P : Heap → Prop, PySem.W.KitX X.K u t P ∧ P s.heap ∧ u ≠ .builtin "__main__.__loader__#opaque" := by
  cases ty with
  | x h => exact kit_of I rx h
  | @t a ob kvs ea =>
    cases (show u = Value.ref a from rx)
    obtain ⟨_, _, _, vs, _, o, es, ep, h1, h2, _⟩ := (show ObjOk X.prog X.w H s.heap a (.frz ob (.dT kvs)) from I.hok a _ ea)
    exact ⟨_, PySem.W.kitx_dict, ⟨o, h1, h2.1⟩, fun z => nomatch z⟩
def rIsiY (K : PySem.W.Frag) : List V → Hp → VK → Prop := fun xs H Q => ∃ (x c : V) (t u : Value) (b : Bool), xs = [x, c] ∧ ClsV c u ∧ TyY K H x t ∧ PySem.W.kitOne K t u = some b ∧ Q (.bl b) H
theorem call_isiY {X : Cx} : CallR X (.builtin "isinstance") (rIsiY X.K) := by
  intro pins s σ H xs us Q I r h
  obtain ⟨x, c, t, u, b, rfl, k, ty, e, q⟩ := h
  obtain ⟨u1, u2, rfl, r1, r2⟩ := vals2 r
  have e2 := k.eq r2
  subst e2
  obtain ⟨P, Z, p, hx⟩ := kit_ofY I r1 ty
  exact PySem.W.kia_one Z I.kIn p e hx fun tk => ⟨.bl b, H, I.tok tk, rfl, q⟩
theorem ty_of {K : Fg} {w : Wd} {x : V} {o : Od} (hx : Same w.G w.H) (h : OdOk K w x o) (h1 : o ≠ .c .gone) (h2 : ∀ l, o ≠ .c (.l l)) (h3 : ∀ n j l, o ≠ .c (.i n j l)) : TyY K w.H x (.type (tyN o)) := by
  cases o with
  | c c =>
    obtain ⟨p, rfl, hc, _⟩ := h
    cases c with
    | l l => exact absurd rfl (h2 l)
    | gone => exact absurd rfl h1
    | k kvs =>
      obtain ⟨_, ws, hw, _⟩ := hc
      exact .x (.base (.dK hw))
    | t kvs =>
      obtain ⟨_, ws, hw, _⟩ := hc
      exact .x (.base (.dT hw))
    | r ks =>
      obtain ⟨_, ws, hw, _⟩ := hc
      exact .x (.base (.dT hw))
    | i n j l => exact absurd rfl (h3 n j l)
  | d d =>
    cases d with
    | none => rw [h.none]; exact .x (.base .non)
    | bool b => rw [h.bool]; exact .x (.base (.bl b))
    | int b => rw [h.int]; exact .x (.base (.int b))
    | str b => rw [h.str]; exact .x (.base (.str b))
    | list ds =>
      obtain ⟨p, vs, rfl, hs, _⟩ := h.list hx
      rcases hs with (hs | ⟨o, hs⟩) | ⟨o, its, n, hk, hc, _⟩
      · exact .x (.base (.lst hs))
      · exact .x (.base (.frz hs))
      · exact .x (.kList hk hc)
    | tuple ds =>
      obtain ⟨p, vs, rfl, hs, _⟩ := h.tup
      exact .x (.base (.tup (hx _ _ hs)))
    | dict es =>
      rcases h with h | ⟨p, vs, ds, rfl, e, hv, ra⟩
      · cases h with
        | dct a b => exact .x (.base (.dK (hx _ _ a)))
        | dctT a b => exact .t (hx _ _ a)
      · cases e
def isiT (T : String) : Bool := ["NoneType", "bool", "int", "str", "list", "tuple", "dict"].all fun t => decide (kitB t T = some (isiB T t))
theorem isiT_ok {T : String} (h : isiT T = true) (o : Od) : kitB (tyN o) T = some (isiB T (tyN o)) := by
  have h := List.all_eq_true.mp h
  have m : tyN o ∈ ["NoneType", "bool", "int", "str", "list", "tuple", "dict"] := by
    unfold tyN
    split <;> simp
  exact of_decide_eq_true (h _ m)
theorem s_isi {K : Fg} {T : String} (hT : isiT T = true) : Op1S K (fun v H Q => rIsiY K [v, .ty T] H Q) (opIsi T) := by
  intro w x o rv Q hx h e q
  unfold opIsi at e
  have go : (o ≠ .c .gone) → (∀ l, o ≠ .c (.l l)) → (∀ n j l, o ≠ .c (.i n j l)) → some (Rv.d (.bool (isiB T (tyN o)))) = some rv → rIsiY K [x, .ty T] w.H Q := fun h1 h2 h3 e => by
    cases e
    exact ⟨x, .ty T, .type (tyN o), .type T, isiB T (tyN o), rfl, .ty T, ty_of hx h h1 h2 h3, kit_ty (isiT_ok hT o), post_bool q⟩
  split at e
  · cases e
  · cases e
  · cases e
  · rename_i h1 h2 h3
    exact go h1 h2 h3 e
theorem e_isi {ec : EC} {W : WX} {T : String} {x : Str} {a : Expr} {ca : CE} {p p2 pos : Pos} (hm : X.mg "isinstance" = none) (hT : X.mg x = none) (hv : bootBuiltins x = some (.type T)) (ht : isiT T = true) (ha : Ex X ec W a ca)
    (hg : Gl X "isinstance" := by rfl) (hg2 : Gl X x := by rfl) (hn : x ≠ "__name__" := by decide) (hd : (x == ("__debug__" : Str)) = false := by decide) (h0 : starEach [Expr.Name x p2] X.env = (false, eval (Expr.Name x p2) X.env) :: starEach [] X.env := by rfl)
    (h1 : starEach [a, .Name x p2] X.env = (false, eval a X.env) :: starEach [.Name x p2] X.env := by rfl) (h2 : (backTo pos (starEach [Expr.Name x p2] X.env)).any (·.1) = false := by rfl) : Ex X ec W (.Call (.Name "isinstance" p) [a, .Name x p2] [] pos) (cOp1 (opIsi T) ca) :=
  (pe_callB call_isiY hg hm boot_isinstance (pa_cons ha (pa_cons (pe_bltn (v := .ty T) hg2 hT hv rfl hn hd) pa_nil h0) h1) (by decide) (by decide) h1 h2).imp fun _ _ _ h => op1 (s_isi ht) h
/-- all, any of a list of truths -/
def opAll : Od → Option Rv
  | .d (.list ds) => match bools? ds with
    | some bs => some (.d (.bool (bs.all id)))
    | none => none
  | _ => none
def opAny : Od → Option Rv
  | .d (.list ds) => match bools? ds with
    | some bs => some (.d (.bool (bs.any id)))
    | none => none
  | _ => none
theorem s_all {K : Fg} : Op1S K (fun v => rAll K [v]) opAll := by
  intro w x o rv Q hx h e q
  unfold opAll at e
  split at e
  · split at e
    · rename_i bs eb
      cases e
      rw [bools?_eq eb] at h
      obtain ⟨p, vs, rfl, hs, ra⟩ := h.list hx
      rw [rp_bools ra] at hs
      exact ⟨p, bs, rfl, hs, post_bool q⟩
    · cases e
  · cases e
theorem s_any {K : Fg} : Op1S K (fun v => rAny K [v]) opAny := by
  intro w x o rv Q hx h e q
  unfold opAny at e
  split at e
  · split at e
    · rename_i bs eb
      cases e
      rw [bools?_eq eb] at h
      obtain ⟨p, vs, rfl, hs, ra⟩ := h.list hx
      rw [rp_bools ra] at hs
      exact ⟨p, bs, rfl, hs, post_bool q⟩
    · cases e
  · cases e
/-- sum of ints in a list, a tuple -/
def rSumV (K : Fg) : V → Hp → VK → Prop := fun v H Q => ∃ (a : Addr) (ns : List Int), v = V.ref a ∧ (SqL K H a (ns.map V.int) ∨ SqT K H a (ns.map V.int)) ∧ Q (.int ns.sum) H
theorem call_sumV (hc : X.calm = true) : CallR X (.builtin "sum") (fun xs H Q => ∃ v, xs = [v] ∧ rSumV X.K v H Q) := by
  intro pins s σ H vs us Q I r h
  obtain ⟨v, rfl, a, ns, rfl, hs | hs, q⟩ := h
  · exact cr_sum hc pins s σ H _ us Q I r ⟨a, ns, rfl, hs, q⟩
  · obtain ⟨its, rv, hl, _⟩ := I.tuple hs
    rw [Vals.ref1 r]
    obtain ⟨xs, hx⟩ := rv.ints.allInts.items
    have hl : s.heap.IsTuple a its.toArray := hl
    have hn : numsOf its.toArray.toList = ns := by rw [show its.toArray.toList = its from rfl, rv.ints.numsOf]
    rw [hx] at hl hn
    rw [nums_intItems] at hn
    refine ktm_sumG (I.ok.hd hc) hl fun h' tk t' hk => ?_
    rw [preSum_eq, List.take_of_length_le (by simp), hn]
    exact ⟨.int _, H, I.kept hk, ⟨_, rfl⟩, q⟩
def opSum : Od → Option Rv
  | .d (.list ds) => match ints? ds with
    | some ns => some (.d (.int ns.sum))
    | none => none
  | .d (.tuple ds) => match ints? ds with
    | some ns => some (.d (.int ns.sum))
    | none => none
  | _ => none
theorem s_sum {K : Fg} : Op1S K (fun v H Q => ∃ v', [v] = [v'] ∧ rSumV K v' H Q) opSum := by
  intro w x o rv Q hx h e q
  refine ⟨x, rfl, ?_⟩
  unfold opSum at e
  split at e
  · split at e
    · rename_i bs eb
      cases e
      rw [ints?_eq eb] at h
      obtain ⟨p, vs, rfl, hs, ra⟩ := h.list hx
      rw [rp_ints ra] at hs
      exact ⟨p, bs, rfl, .inl hs, post_int q⟩
    · cases e
  · split at e
    · rename_i bs eb
      cases e
      rw [ints?_eq eb] at h
      obtain ⟨p, vs, rfl, hs, ra⟩ := h.tup
      rw [rp_ints ra] at hs
      exact ⟨p, bs, rfl, .inr (SqT.of (hx _ _ hs)), post_int q⟩
    · cases e
  · cases e
/-- tuple(x), list(x) of a list, a tuple -/
def opTuple : Od → Option Rv
  | .d (.list ds) => some (.d (.tuple ds))
  | .d (.tuple ds) => some (.d (.tuple ds))
  | _ => none
theorem s_tuple {K : Fg} : Op1S K (fun v H Q => ∃ p ys, [v] = [V.ref p] ∧ ((SqL K H p ys ∧ ∀ l, H l = none → Q (.ref l) (upd H l (.tup ys))) ∨ (SqT K H p ys ∧ Q (.ref p) H))) opTuple := by
  intro w x o rv Q hx h e q
  unfold opTuple at e
  split at e
  · cases e
    obtain ⟨p, vs, rfl, hs, ra⟩ := h.list hx
    exact ⟨p, vs, rfl, .inl ⟨hs, fun l hl => post_tup q ra hl hx⟩⟩
  · cases e
    obtain ⟨p, vs, rfl, hs, ra⟩ := h.tup
    exact ⟨p, vs, rfl, .inr ⟨SqT.of (hx _ _ hs), post_d q (.tup hs ra)⟩⟩
  · cases e
def opList : Od → Option Rv
  | .d (.list ds) => some (.new (.l ds))
  | .d (.tuple ds) => some (.new (.l ds))
  | _ => none
theorem s_list {K : Fg} : Op1S K (fun v H Q => ∃ p ys, [v] = [V.ref p] ∧ (SqL K H p ys ∨ SqT K H p ys) ∧ ∀ l, H l = none → Q (.ref l) (upd H l (.lst ys))) opList := by
  intro w x o rv Q hx h e q
  unfold opList at e
  split at e
  · cases e
    obtain ⟨p, vs, rfl, hs, ra⟩ := h.list hx
    exact ⟨p, vs, rfl, .inl hs, fun l hl => post_lst q ra hl hx⟩
  · cases e
    obtain ⟨p, vs, rfl, hs, ra⟩ := h.tup
    exact ⟨p, vs, rfl, .inr (SqT.of (hx _ _ hs)), fun l hl => post_lst q ra hl hx⟩
  · cases e
def opInt : Od → Option Rv
  | .d (.int i) => some (.d (.int i))
  | .d (.bool k) => some (.d (.int (if k then 1 else 0)))
  | _ => none
theorem s_int {K : Fg} : Op1S K (fun v H Q => (∃ i, [v] = [V.int i] ∧ Q (.int i) H) ∨ ∃ k, [v] = [V.bl k] ∧ Q (.int (if k then 1 else 0)) H) opInt := by
  intro w x o rv Q hx h e q
  unfold opInt at e
  split at e
  · cases e
    exact .inl ⟨_, by rw [h.int], post_int q⟩
  · cases e
    exact .inr ⟨_, by rw [h.bool], post_int q⟩
  · cases e
def opMax2 : Od → Od → Option Rv
  | .d (.int i), .d (.int j) => some (.d (.int (if j > i then j else i)))
  | _, _ => none
theorem s_max2 {K : Fg} : Op2S K (fun v u H Q => ∃ i j, [v, u] = [V.int i, V.int j] ∧ Q (.int (if j > i then j else i)) H) opMax2 := by
  intro w x y o o' rv Q hx h h' e q
  unfold opMax2 at e
  split at e
  · cases e
    exact ⟨_, _, by rw [h.int, h'.int], post_int q⟩
  · cases e
def opMin2 : Od → Od → Option Rv
  | .d (.int i), .d (.int j) => some (.d (.int (if j < i then j else i)))
  | _, _ => none
theorem s_min2 {K : Fg} : Op2S K (fun v u H Q => ∃ i j, [v, u] = [V.int i, V.int j] ∧ Q (.int (if j < i then j else i)) H) opMin2 := by
  intro w x y o o' rv Q hx h h' e q
  unfold opMin2 at e
  split at e
  · cases e
    exact ⟨_, _, by rw [h.int, h'.int], post_int q⟩
  · cases e
end
end Vm

namespace Vm
open PySem L2

/-! ### statements -/
inductive Out where
  | nx (s : S)
  | rt (a : Rv) (s : S)
  | bk (s : S)
  | ct (s : S)
  | ex (e : String) (s : S)
  | bad
abbrev CS := S → Out
def R.out {α : Type} (r : R α) (k : α → S → Out) : Out := match r with
  | .ok a s => k a s
  | .ex e s => .ex e s
  | .bad => .bad
def okX (K : Fg) (ec : EC) (W : WX) (w : Wd) : String → S → Prop := fun e s' => ∀ σ' w', Le w w' → Rel ec K w' σ' s' → W (.ref (ec e)) none σ' w'.H
def OOk (K : Fg) (ec : EC) (W : WX) (D : Ends) (w : Wd) : Out → Prop
  | .nx s' => ∀ σ' w', Le w w' → Rel ec K w' σ' s' → D.nx σ' w'.H
  | .rt a s' => ∀ x σ' w', Le w w' → Rel ec K w' σ' s' → RvOk K w' x a → FrR w x a → D.rt x w'.H
  | .bk s' => ∀ σ' w', Le w w' → Rel ec K w' σ' s' → D.bk σ' w'.H
  | .ct s' => ∀ σ' w', Le w w' → Rel ec K w' σ' s' → D.ct σ' w'.H
  | .ex e s' => okX K ec W w e s'
  | .bad => False
def rdS (K : Fg) (ec : EC) (W : WX) (c : CS) : TS := fun D σ H => ∃ w s, w.H = H ∧ Rel ec K w σ s ∧ OOk K ec W D w (c s)
abbrev Sx (X : Cx) (ec : EC) (W : WX) (st : Stmt) (c : CS) : Prop := PS X st (rdS X.K ec W c)
abbrev Bx (X : Cx) (ec : EC) (W : WX) (st : List Stmt) (c : CS) : Prop := PSs X st (rdS X.K ec W c)
section
variable {K : Fg} {ec : EC} {W : WX} {σ : St} {w w1 : Wd} {s : S} {D : Ends}
theorem okX_le {e : String} {s' : S} (a : Le w w1) (h : okX K ec W w e s') : okX K ec W w1 e s' := fun σ' w' b r => h σ' w' (a.trans b) r
theorem okX_E {e : String} {s' : S} (h : okX K ec W w e s') : okE K ec W σ w e s' := fun w' b r => h σ w' b r
theorem OOk.le {o : Out} (a : Le w w1) (h : OOk K ec W D w o) : OOk K ec W D w1 o := by
  cases o with
  | nx s' => exact fun σ' w' b r => h σ' w' (a.trans b) r
  | rt x s' => exact fun y σ' w' b r o f => h y σ' w' (a.trans b) r o (f.back a b o)
  | bk s' => exact fun σ' w' b r => h σ' w' (a.trans b) r
  | ct s' => exact fun σ' w' b r => h σ' w' (a.trans b) r
  | ex e s' => exact okX_le a h
  | bad => exact h
/-- an expression's run within a statement -/
theorem run_e {c : CE} {k : Rv → S → Out} (hr : Rel ec K w σ s) (h : OOk K ec W D w ((c s).out k)) {Q : VK} (hk : ∀ x w1 s1 a, Le w w1 → Rel ec K w1 σ s1 → RvOk K w1 x a → FrR w x a → OOk K ec W D w (k a s1) → Q x w1.H) : rd K ec W c σ w.H Q := by
  refine ⟨w, s, rfl, hr, ?_⟩
  cases e : c s with
  | bad => rw [e] at h; exact h
  | ex n s' => rw [e] at h; exact okX_E h
  | ok a s' =>
    rw [e] at h
    exact fun x w' le r o f => hk x w' s' a le r o f h
/-- .. of a value that became data, or is a cell -/
theorem run_ev {c : CE} {k : Rv → S → Out} (hr : Rel ec K w σ s) (h : OOk K ec W D w ((cv c s).out k)) {Q : VK} (hk : ∀ x w1 s1 a, Le w w1 → Rel ec K w1 σ s1 → RvOk K w1 x a → (∀ c, a ≠ .new c) → OOk K ec W D w (k a s1) → Q x w1.H) : rd K ec W c σ w.H Q := by
  refine ⟨w, s, rfl, hr, ?_⟩
  unfold cv at h
  cases e : c s with
  | bad => rw [e] at h; exact h
  | ex n s' => rw [e] at h; exact okX_E h
  | ok rv s' =>
    rw [e] at h
    intro x w' le r' ok _
    cases rv with
    | d y => exact hk x w' s' (.d y) le r' ok (by intro c z; cases z) h
    | ref n => exact hk x w' s' (.ref n) le r' ok (by intro c z; cases z) h
    | new cc =>
      cases ed : cc.D? with
      | none =>
        simp only [R.bind, R.out, ed] at h
        exact h.elim
      | some d =>
        simp only [R.bind, R.out, ed] at h
        obtain ⟨G', r2, le2, rp⟩ := freeze r' ok (d := d) ed
        exact hk x ⟨G', w'.r, w'.F, w'.H⟩ s' (.d d) (le.trans le2) r2 rp (by intro c z; cases z) h
theorem run_tS {c : CT} {k : Bool → S → Out} (hr : Rel ec K w σ s) (h : OOk K ec W D w ((c s).out k)) {Q : Bool → Hp → Prop} (hk : ∀ b w1 s1, Le w w1 → Rel ec K w1 σ s1 → OOk K ec W D w (k b s1) → Q b w1.H) : rdT K ec W c σ w.H Q := by
  refine ⟨w, s, rfl, hr, ?_⟩
  cases e : c s with
  | bad => rw [e] at h; exact h
  | ex n s' => rw [e] at h; exact okX_E h
  | ok a s' =>
    rw [e] at h
    exact fun w' le r => hk a w' s' le r h
end
section
variable {X : Cx} {ec : EC} {W : WX}
def cNx : CS := fun s => .nx s
theorem b_nil : Bx X ec W [] cNx := pss_nil.imp fun D σ H h => by
  obtain ⟨w, s, rfl, hr, h⟩ := h
  exact h σ w (Le.refl w) hr
theorem s_pass {pos : Pos} : Sx X ec W (.Pass pos) cNx := ps_pass.imp fun D σ H h => by
  obtain ⟨w, s, rfl, hr, h⟩ := h
  exact h σ w (Le.refl w) hr
def cBk : CS := fun s => .bk s
def cCt : CS := fun s => .ct s
theorem s_break {pos : Pos} : Sx X ec W (.Break pos) cBk := ps_break.imp fun D σ H h => by
  obtain ⟨w, s, rfl, hr, h⟩ := h
  exact h σ w (Le.refl w) hr
theorem s_cont {pos : Pos} : Sx X ec W (.Continue pos) cCt := ps_continue.imp fun D σ H h => by
  obtain ⟨w, s, rfl, hr, h⟩ := h
  exact h σ w (Le.refl w) hr
def cSeq (a b : CS) : CS := fun s => match a s with
  | .nx s1 => b s1
  | o => o
theorem b_cons {st : Stmt} {r : List Stmt} {a b : CS} (ha : Sx X ec W st a) (hb : Bx X ec W r b) : Bx X ec W (st :: r) (cSeq a b) := (pss_cons ha hb).imp fun D σ H h => by
  obtain ⟨w, s, rfl, hr, h⟩ := h
  refine ⟨w, s, rfl, hr, ?_⟩
  unfold cSeq at h
  cases e : a s with
  | nx s1 =>
    rw [e] at h
    exact fun σ' w' le r' => ⟨w', s1, rfl, r', h.le le⟩
  | rt x s1 => rw [e] at h; exact h
  | bk s1 => rw [e] at h; exact h
  | ct s1 => rw [e] at h; exact h
  | ex n s1 => rw [e] at h; exact h
  | bad => rw [e] at h; exact h
theorem b_one {st : Stmt} {a : CS} (ha : Sx X ec W st a) : Bx X ec W [st] a := pss_one ha
def cExp (c : CE) : CS := fun s => (c s).out fun _ s1 => .nx s1
theorem s_expr {e : Expr} {c : CE} {pos : Pos} (h : Ex X ec W e c) (hs : swapsWith e none pos.line X.env = pure false := by rfl) : Sx X ec W (.Expr e pos) (cExp c) := (ps_expr h hs).imp fun D σ H h => by
  obtain ⟨w, s, rfl, hr, h⟩ := h
  exact run_e hr h fun x w1 s1 a le r o f h1 => h1 σ w1 le r
def cRet (c : CE) : CS := fun s => (c s).out fun a s1 => .rt a s1
theorem s_ret {e : Expr} {c : CE} {pos : Pos} (h : Ex X ec W e c) : Sx X ec W (.Return (some e) pos) (cRet c) := (ps_ret h).imp fun D σ H h => by
  obtain ⟨w, s, rfl, hr, h⟩ := h
  exact run_e hr h fun x w1 s1 a le r o f h1 => h1 x σ w1 le r o f
def cRetN : CS := fun s => .rt (.d .none) s
theorem s_retN {pos : Pos} : Sx X ec W (.Return none pos) cRetN := ps_retN.imp fun D σ H h => by
  obtain ⟨w, s, rfl, hr, h⟩ := h
  exact h .non σ w (Le.refl w) hr .non .d
def cIfS (t : CT) (a b : CS) : CS := fun s => (t s).out fun x s1 => if x = true then a s1 else b s1
theorem s_if {t : Expr} {a b : List Stmt} {ct : CT} {ca cb : CS} {pos : Pos} (ht : Tx X ec W t ct) (ha : Bx X ec W a ca) (hb : Bx X ec W b cb) : Sx X ec W (.If t a b pos) (cIfS ct ca cb) := (ps_if ht ha hb).imp fun D σ H h => by
  obtain ⟨w, s, rfl, hr, h⟩ := h
  refine run_tS hr h fun x w1 s1 le r h1 => ?_
  cases x with
  | true => exact iteT ⟨w1, s1, rfl, r, h1.le le⟩
  | false => exact iteF ⟨w1, s1, rfl, r, h1.le le⟩

/-! ### storing names -/
theorem Rel.set {K : Fg} {w : Wd} {σ : St} {s : S} (r : Rel ec K w σ s) (i : Nat) {x : V} {sl : Sl} (h : SlOk ec K w (some (some x)) sl) : Rel ec K w (σ.set i (some x)) ⟨s.v.set i sl, s.m⟩ := by
  refine ⟨r.mem, by show (σ.set i (some x)).length = (s.v.set i sl).length; rw [List.length_set, List.length_set, r.len], fun j y e => ?_⟩
  have e : (s.v.set i sl)[j]? = some y := e
  by_cases hj : i = j
  · subst hj
    by_cases hl : i < s.v.length
    · rw [List.getElem?_set_self hl] at e
      cases e
      rw [List.getElem?_set_self (by rw [r.len]; exact hl)]
      exact h
    · rw [List.getElem?_eq_none (by rw [List.length_set]; omega)] at e
      cases e
  · rw [List.getElem?_set_ne hj] at e
    rw [List.getElem?_set_ne hj]
    exact r.slot j y e
def slOf : Rv → Option Sl
  | .d x => some (.d x)
  | .ref n => some (.c n)
  | .new _ => none
theorem slOf_ok {K : Fg} {w : Wd} {x : V} {a : Rv} {sl : Sl} (h : RvOk K w x a) (e : slOf a = some sl) : SlOk ec K w (some (some x)) sl := by
  cases a with
  | d y =>
    cases e
    exact ⟨x, rfl, h⟩
  | ref n =>
    cases e
    obtain ⟨p, rfl, q⟩ := h
    exact ⟨p, rfl, q⟩
  | new c => cases e
/-- name = e: data, or another name of a cell -/
def cSet (i : Nat) (c : CE) : CS := fun s => (cv c s).out fun a s1 => match slOf a with
  | some sl => .nx ⟨s1.v.set i sl, s1.m⟩
  | none => .bad
theorem rd_set {K : Fg} {σ : St} {H : Hp} {D : Ends} {i : Nat} {c : CE} (h : rdS K ec W (cSet i c) D σ H) : tAsg (rd K ec W c) (gName i) D σ H := by
  obtain ⟨w, s, rfl, hr, h⟩ := h
  refine run_ev hr h fun x w1 s1 a le r o hn h1 => ?_
  cases e : slOf a with
  | none => simp only [e] at h1; exact h1.elim
  | some sl =>
    simp only [e] at h1
    exact h1 _ w1 le (r.set i (slOf_ok o e))
theorem s_set (i : Nat) {x : Str} {e : Expr} {c : CE} {pos' pos : Pos} (hN : X.N.Nodup) (h : Ex X ec W e c) (hi : X.N[i]? = some x := by rfl) (hx : Loc X.env.scope x := by first | exact Or.inl rfl | exact Or.inr rfl) (hs : swapsWith e (some (.Name x pos')) pos.line X.env = pure false := by rfl) (hf : X.fn x = true ∨ X.env.scope.names.lookup x = some .local := by first | exact .inl rfl | exact .inr rfl) :
    Sx X ec W (.Assign [.Name x pos'] e pos) (cSet i c) := (ps_set hN hi hx h hs hf).imp fun D σ H h => rd_set h
/-- name = e, a new mutable object -/
def cSetM (i : Nat) (c : CE) : CS := fun s => (c s).out fun a s1 => match a with
  | .new .gone => .bad
  | .new (.i _ _ _) => .bad
  | .new cell => .nx ⟨s1.v.set i (.c s1.m.length), s1.m ++ [cell]⟩
  | .ref n => .nx ⟨s1.v.set i (.c n), s1.m⟩
  | .d _ => .bad
theorem nv_in {w : Wd} {m : List Cell} {p : Addr} {c : Cell} (hl : w.r.length = m.length) (hc : ∀ n j ds, c ≠ .i n j ds) (h : NV ec w m) : NV ec ⟨w.G, w.r ++ [p], w.F, w.H⟩ (m ++ [c]) := by
  refine ⟨fun t q n j ds e1 e2 => ?_, h.2⟩
  have e1 : (w.r ++ [p])[t]? = some q := e1
  by_cases ht : t < m.length
  · rw [List.getElem?_append_left ht] at e2
    rw [List.getElem?_append_left (by omega)] at e1
    obtain ⟨h1, h2⟩ := h.1 t q n j ds e1 e2
    refine ⟨h1, fun p' ks e3 e4 => ?_⟩
    have e3 : (w.r ++ [p])[n]? = some p' := e3
    rw [List.getElem?_append_left (by omega)] at e3
    rw [List.getElem?_append_left (by omega)] at e4
    exact h2 p' ks e3 e4
  · rw [List.getElem?_append_right (by omega)] at e2
    cases hk : t - m.length with
    | zero =>
      rw [hk] at e2
      exact absurd (Option.some.inj e2) (hc n j ds)
    | succ k =>
      rw [hk] at e2
      cases e2
theorem nv_out {w : Wd} {m : List Cell} {n : Nat} {G : Hp} (h : NV ec w m) : NV ec ⟨G, w.r, w.F, w.H⟩ (m.set n .gone) := by
  refine ⟨fun t q n0 j ds e1 e2 => ?_, h.2⟩
  have ne : n ≠ t := fun z => by
    subst z
    rw [List.getElem?_set] at e2
    split at e2
    · split at e2 <;> cases e2
    · exact absurd rfl ‹_›
  rw [List.getElem?_set_ne ne] at e2
  obtain ⟨h1, h2⟩ := h.1 t q n0 j ds e1 e2
  refine ⟨h1, fun p ks e3 e4 => ?_⟩
  have ne2 : n ≠ n0 := fun z => by
    subst z
    rw [List.getElem?_set] at e4
    split at e4
    · split at e4 <;> cases e4
    · exact absurd rfl ‹_›
  rw [List.getElem?_set_ne ne2] at e4
  exact h2 p ks e3 e4
theorem cell_in {K : Fg} {w w1 : Wd} {σ : St} {s : S} {p : Addr} {c : Cell} (hg : c ≠ .gone) (hni : ∀ n j ds, c ≠ .i n j ds) (i0 : Le ec.w (w.f ec.w.F)) (le : Le w w1) (r : Rel ec K w1 σ s) (hp : p ∉ w1.r ∧ ¬ w1.F p) (hf : w.H p = none) (hc : COk K w1.G w1.H p c) :
    Rel ec K ⟨w1.G, w1.r ++ [p], w1.F, w1.H⟩ σ ⟨s.v, s.m ++ [c]⟩ ∧ Le w ⟨w1.G, w1.r ++ [p], w1.F, w1.H⟩ := by
  have l2 : Le w ⟨w1.G, w1.r ++ [p], w1.F, w1.H⟩ := ⟨le.g, le.k, le.p.trans (List.prefix_append _ _), fun q hq => by
    have hq : q ∈ w1.r ++ [p] := hq
    rcases List.mem_append.mp hq with m | m
    · exact le.f q m
    · rw [List.mem_singleton.mp m]
      exact .inr hf, le.s⟩
  refine ⟨⟨⟨r.mem.ext, ?_, ?_, fun n q c' h1 h2 => ?_, fun q hq => ?_, r.mem.tab, i0.trans (l2.ch _), r.mem.gt, nv_in r.mem.len hni r.mem.nv⟩, r.len, fun i sl e => ?_⟩, l2⟩
  · show (w1.r ++ [p]).length = (s.m ++ [c]).length
    rw [List.length_append, List.length_append, r.mem.len]
    rfl
  · show (w1.r ++ [p]).Nodup
    refine List.nodup_append.mpr ⟨r.mem.nd, by simp, fun a ha b hb e => ?_⟩
    rw [List.mem_singleton.mp hb] at e
    exact hp.1 (e ▸ ha)
  · have h1 : (w1.r ++ [p])[n]? = some q := h1
    have h2 : (s.m ++ [c])[n]? = some c' := h2
    by_cases hn : n < w1.r.length
    · rw [List.getElem?_append_left hn] at h1
      rw [List.getElem?_append_left (by rw [← r.mem.len]; exact hn)] at h2
      exact r.mem.cell n q c' h1 h2
    · rw [List.getElem?_append_right (by omega)] at h1
      rw [List.getElem?_append_right (by rw [← r.mem.len]; omega)] at h2
      rw [r.mem.len] at h1
      cases hk : n - s.m.length with
      | zero =>
        rw [hk] at h1 h2
        cases h1
        cases h2
        exact hc
      | succ k =>
        rw [hk] at h1
        cases h1
  · obtain ⟨a, b, c'⟩ := r.mem.fo q hq
    refine ⟨a, fun m => ?_, c'⟩
    have m : q ∈ w1.r ++ [p] := m
    rcases List.mem_append.mp m with m | m
    · exact b m
    · rw [List.mem_singleton.mp m] at hq
      exact hp.2 hq
  · have q := r.slot i sl e
    cases sl with
    | u => trivial
    | d x => exact q
    | c n =>
      obtain ⟨p', e1, e2⟩ := q
      refine ⟨p', e1, ?_⟩
      show (w1.r ++ [p])[n]? = some p'
      rw [List.getElem?_append_left (List.getElem?_eq_some_iff.mp e2).1]
      exact e2
    | f => exact q
    | x n =>
      obtain ⟨z1, a, z2, z3, z4⟩ := q
      refine ⟨z1, a, z2, fun m => ?_, z4⟩
      have m : a ∈ w1.r ++ [p] := m
      rcases List.mem_append.mp m with m | m
      · exact z3 m
      · have ea := List.mem_singleton.mp m
        subst ea
        unfold ExO at z4
        cases c with
        | gone => exact hg rfl
        | l ds =>
          obtain ⟨_, _, hv, _⟩ := hc
          rw [z4] at hv
          cases hv
        | k ds =>
          obtain ⟨_, _, hv, _⟩ := hc
          rw [z4] at hv
          cases hv
        | t ds =>
          obtain ⟨_, _, hv, _⟩ := hc
          rw [z4] at hv
          cases hv
        | r ds =>
          obtain ⟨_, _, hv, _⟩ := hc
          rw [z4] at hv
          cases hv
        | i n' j' ds =>
          obtain ⟨_, _, hv, _⟩ := hc
          rw [z4] at hv
          cases hv
theorem rd_setM {K : Fg} {σ : St} {H : Hp} {D : Ends} {i : Nat} {c : CE} (h : rdS K ec W (cSetM i c) D σ H) : tAsg (rd K ec W c) (gName i) D σ H := by
  obtain ⟨w, s, rfl, hr, h⟩ := h
  refine run_e hr h fun x w1 s1 a le r o f h1 => ?_
  have go : ∀ cell, a = .new cell → cell ≠ .gone → (∀ n j ds, cell ≠ .i n j ds) → OOk K ec W D w (.nx ⟨s1.v.set i (.c s1.m.length), s1.m ++ [cell]⟩) → D.nx (σ.set i (some x)) w1.H := fun cell ea hg hni h2 => by
    subst ea
    obtain ⟨p, rfl, hp, hc⟩ := o
    obtain ⟨r2, l2⟩ := cell_in hg hni hr.mem.inv le r hp (f _ rfl p rfl) hc
    refine h2 _ ⟨w1.G, w1.r ++ [p], w1.F, w1.H⟩ l2 (r2.set i (x := .ref p) (sl := .c s1.m.length) ⟨p, rfl, ?_⟩)
    show (w1.r ++ [p])[s1.m.length]? = some p
    rw [← r.mem.len, List.getElem?_append_right (Nat.le_refl _), Nat.sub_self]
    rfl
  cases a with
  | d y => exact h1.elim
  | ref n => exact h1 _ w1 le (r.set i (slOf_ok (a := .ref n) o rfl))
  | new cell =>
    cases cell with
    | gone => exact h1.elim
    | l ds => exact go _ rfl (by intro z; cases z) (by intro _ _ _ z; cases z) h1
    | k ds => exact go _ rfl (by intro z; cases z) (by intro _ _ _ z; cases z) h1
    | t ds => exact go _ rfl (by intro z; cases z) (by intro _ _ _ z; cases z) h1
    | r ds => exact go _ rfl (by intro z; cases z) (by intro _ _ _ z; cases z) h1
    | i n j ds => exact h1.elim
theorem s_setM (i : Nat) {x : Str} {e : Expr} {c : CE} {pos' pos : Pos} (hN : X.N.Nodup) (h : Ex X ec W e c) (hi : X.N[i]? = some x := by rfl) (hx : Loc X.env.scope x := by first | exact Or.inl rfl | exact Or.inr rfl) (hs : swapsWith e (some (.Name x pos')) pos.line X.env = pure false := by rfl) (hf : X.fn x = true ∨ X.env.scope.names.lookup x = some .local := by first | exact .inl rfl | exact .inr rfl) :
    Sx X ec W (.Assign [.Name x pos'] e pos) (cSetM i c) := (ps_set hN hi hx h hs hf).imp fun D σ H h => rd_setM h
/-- a cell's list, read for the last time, becomes data -/
def cFz (i : Nat) : CE := fun s => match s.v[i]? with
  | some (.d x) => .ok (.d x) s
  | some (.c n) => match s.m[n]? with
    | some (.l ds) => .ok (.d (.list ds)) ⟨s.v.set i (.d (.list ds)), s.m.set n .gone⟩
    | some (.k kvs) => .ok (.d (.dict (kvs.map fun p => (kD p.1, p.2)))) ⟨s.v.set i (.d (.dict (kvs.map fun p => (kD p.1, p.2)))), s.m.set n .gone⟩
    | _ => .bad
  | _ => .bad
theorem cell_out {K : Fg} {w : Wd} {σ : St} {s : S} {i n : Nat} {p : Addr} {o : HO} {d : D} (r : Rel ec K w σ s) (hs : σ[i]? = some (some (.ref p))) (hn : w.r[n]? = some p) (hg : w.G p = none) (ho : w.H p = some o) (nb : NoTb o) (hd : ∀ G', Same w.G G' → G' p = some o → Rp K G' (.ref p) d) :
    Rel ec K ⟨upd w.G p o, w.r, w.F, w.H⟩ σ ⟨s.v.set i (.d d), s.m.set n .gone⟩ ∧ Le w ⟨upd w.G p o, w.r, w.F, w.H⟩ ∧ Rp K (upd w.G p o) (.ref p) d := by
  have sg : Same w.G (upd w.G p o) := same_upd hg
  have le : Le w ⟨upd w.G p o, w.r, w.F, w.H⟩ := ⟨sg, fun _ _ e _ => ⟨_, e, fun _ => rfl⟩, List.prefix_refl _, fun _ h => .inl h, rfl⟩
  have rp := hd _ sg upd_same
  refine ⟨⟨⟨fun b u e => ?_, by show w.r.length = (s.m.set n .gone).length; rw [List.length_set]; exact r.mem.len, r.mem.nd, fun k q c h1 h2 => ?_, fun q hq => ?_, r.mem.tab, r.mem.inv.trans (le.ch _), noTG_upd r.mem.gt nb, nv_out r.mem.nv⟩, by show σ.length = (s.v.set i (.d d)).length; rw [List.length_set]; exact r.len, fun j sl e => ?_⟩, le, rp⟩
  · have e : upd w.G p o b = some u := e
    by_cases hb : b = p
    · subst hb
      rw [upd_same] at e
      cases e
      exact ho
    · rw [upd_ne hb] at e
      exact r.mem.ext b u e
  · have h2 : (s.m.set n .gone)[k]? = some c := h2
    by_cases hk : n = k
    · subst hk
      have hl : n < s.m.length := by rw [← r.mem.len]; exact (List.getElem?_eq_some_iff.mp hn).1
      rw [List.getElem?_set_self hl] at h2
      cases h2
      have h1 : w.r[n]? = some q := h1
      rw [hn] at h1
      cases h1
      exact ⟨o, upd_same⟩
    · rw [List.getElem?_set_ne hk] at h2
      have hq : q ≠ p := fun z => hk (nd_ix r.mem.nd hn (z ▸ h1))
      refine cOk_mono sg (fun hc => ?_) (fun _ _ e => e) (r.mem.cell k q c h1 h2)
      show upd w.G p o q = none
      rw [upd_ne hq]
      have c0 := r.mem.cell k q c h1 h2
      cases c with
      | l ds => exact c0.1
      | k kvs => exact c0.1
      | t kvs => exact c0.1
      | r ks => exact c0.1
      | i n j ds => exact c0.1
      | gone => exact absurd rfl hc
  · obtain ⟨a, b, c⟩ := r.mem.fo q hq
    refine ⟨?_, b, c⟩
    show upd w.G p o q = none
    have hne : q ≠ p := by
      intro z
      subst z
      exact b (List.mem_of_getElem? hn)
    rw [upd_ne hne]
    exact a
  · have e : (s.v.set i (.d d))[j]? = some sl := e
    by_cases hj : i = j
    · subst hj
      have hl : i < s.v.length := by rw [← r.len]; exact (List.getElem?_eq_some_iff.mp hs).1
      rw [List.getElem?_set_self hl] at e
      cases e
      exact ⟨.ref p, hs, rp⟩
    · rw [List.getElem?_set_ne hj] at e
      exact slOk_mono le (r.slot j sl e)
theorem e_fz (i : Nat) {x : Str} {pos : Pos} (hN : X.N[i]? = some x := by rfl) (hv : Vis X.env.scope x := by first | exact Or.inl rfl | exact Or.inr (Or.inl rfl) | exact Or.inr (Or.inr rfl)) (hd : (x == ("__debug__" : Str)) = false := by decide)
    (hcd : (x == ("__classdict__" : Str)) = false := by decide) : Ex X ec W (.Name x pos) (cFz i) := (pe_var hN hv hd hcd).imp fun σ H Q h => by
  obtain ⟨w, s, rfl, hr, h⟩ := h
  unfold cFz at h
  split at h
  · rename_i y e
    obtain ⟨v, e2, rp⟩ := hr.slot i _ e
    exact ⟨v, e2, h v w (Le.refl w) hr rp .d⟩
  · rename_i n e
    obtain ⟨p, e2, rp⟩ := hr.slot i _ e
    refine ⟨.ref p, e2, ?_⟩
    split at h
    · rename_i ds ec'
      obtain ⟨hg, vs, hv, ra⟩ := hr.mem.cell n p _ rp ec'
      obtain ⟨r2, le2, rr⟩ := cell_out (d := .list ds) hr e2 rp hg hv noTb_l fun G' sg e => .lst (SqL.of e) (ra.mono sg)
      exact h (.ref p) ⟨upd w.G p (.lst vs), w.r, w.F, w.H⟩ le2 r2 rr .d
    · rename_i ds ec'
      obtain ⟨hg, vs, hv, ra⟩ := hr.mem.cell n p _ rp ec'
      obtain ⟨r2, le2, rr⟩ := cell_out (d := .dict (ds.map fun p => (kD p.1, p.2))) hr e2 rp hg hv noTb_k fun G' sg e => .dct e ((rpKv_of ra).mono sg)
      exact h (.ref p) ⟨upd w.G p (.dK vs), w.r, w.F, w.H⟩ le2 r2 rr .d
    · exact h.elim
  · exact h.elim

/-! ### targets -/
/-- slots but those at own are as they were -/
def Off (own : List Nat) (σ σ' : St) : Prop := σ'.length = σ.length ∧ ∀ j, j ∉ own → σ'[j]? = σ[j]?
theorem Off.refl (own : List Nat) (σ : St) : Off own σ σ := ⟨rfl, fun _ _ => rfl⟩
theorem Off.trans {own : List Nat} {σ σ1 σ2 : St} (a : Off own σ σ1) (b : Off own σ1 σ2) : Off own σ σ2 := ⟨b.1.trans a.1, fun j h => (b.2 j h).trans (a.2 j h)⟩
abbrev Tg := D → S → Option S
abbrev Tgs := List D → S → Option S
def rdG (ec : EC) (K : Fg) (own : List Nat) (tg : Tg) : TG := fun v σ H Q => ∃ w s d, w.H = H ∧ Rel ec K w σ s ∧ Rp K w.G v d ∧ ∃ s', tg d s = some s' ∧ ∀ σ', Off own σ σ' → Rel ec K w σ' s' → Q σ' H
def rdGs (ec : EC) (K : Fg) (own : List Nat) (tg : Tgs) : TGs := fun vs σ H Q => ∃ w s ds, w.H = H ∧ Rel ec K w σ s ∧ RpAll K w.G vs ds ∧ ∃ s', tg ds s = some s' ∧ ∀ σ', Off own σ σ' → Rel ec K w σ' s' → Q σ' H
theorem PG.imp {X : Cx} {e : Expr} {t t' : TG} (h : PG X e t) (i : ∀ v σ H Q, t' v σ H Q → t v σ H Q) : PG X e t' := ⟨fun pins s σ H v u Q I r q => h.run pins s σ H v u Q I r (i _ _ _ _ q)⟩
theorem PGs.imp {X : Cx} {es : List Expr} {t t' : TGs} (h : PGs X es t) (i : ∀ v σ H Q, t' v σ H Q → t v σ H Q) : PGs X es t' := ⟨fun pins s σ H v u Q I r q => h.run pins s σ H v u Q I r (i _ _ _ _ q)⟩
def tgN (i : Nat) : Tg := fun d s => some ⟨s.v.set i (.d d), s.m⟩
theorem g_name (i : Nat) {own : List Nat} {x : Str} {pos : Pos} (hN : X.N.Nodup) (ho : i ∈ own) (hi : X.N[i]? = some x := by rfl) (hx : Loc X.env.scope x := by first | exact Or.inl rfl | exact Or.inr rfl) (hf : X.fn x = true ∨ X.env.scope.names.lookup x = some .local := by first | exact .inl rfl | exact .inr rfl) : PG X (.Name x pos) (rdG ec X.K own (tgN i)) :=
  PG.imp (pg_name hN hi hx hf) fun v σ H Q h => by
    obtain ⟨w, s, d, rfl, hr, rp, s', e, q⟩ := h
    cases e
    exact q _ ⟨List.length_set, fun j hj => List.getElem?_set_ne fun z => hj (by rw [← z]; exact ho)⟩ (hr.set i ⟨v, rfl, rp⟩)
def tgNil : Tgs := fun ds s => match ds with
  | [] => some s
  | _ => none
def tgCons (t : Tg) (u : Tgs) : Tgs := fun ds s => match ds with
  | [] => none
  | d :: ds => match t d s with
    | some s1 => u ds s1
    | none => none
def tgTup (n : Nat) (t : Tgs) : Tg := fun d s => match d with
  | .tuple ds => if ds.length = n then t ds s else none
  | _ => none
theorem gs_nil {own : List Nat} : PGs X [] (rdGs ec X.K own tgNil) := PGs.imp pgs_nil fun vs σ H Q h => by
  obtain ⟨w, s, ds, rfl, hr, rp, s', e, q⟩ := h
  cases rp with
  | nil =>
    cases e
    exact ⟨rfl, q σ (Off.refl _ _) hr⟩
  | cons _ _ => cases e
theorem gs_cons {own : List Nat} {e : Expr} {es : List Expr} {t : Tg} {u : Tgs} (h1 : PG X e (rdG ec X.K own t)) (h2 : PGs X es (rdGs ec X.K own u)) (hs : (assignEach (e :: es) X.env).map (·.2) = assign e X.env :: (assignEach es X.env).map (·.2) := by rfl) : PGs X (e :: es) (rdGs ec X.K own (tgCons t u)) :=
  PGs.imp (pgs_cons h1 h2 hs) fun vs σ H Q h => by
    obtain ⟨w, s, ds, rfl, hr, rp, s', e, q⟩ := h
    cases rp with
    | nil => cases e
    | cons r1 r2 =>
      rename_i v vs d ds
      unfold tgCons at e
      dsimp only at e
      cases e1 : t d s with
      | none => rw [e1] at e; cases e
      | some s1 =>
        rw [e1] at e
        exact ⟨v, vs, rfl, w, s, d, rfl, hr, r1, s1, e1, fun σ1 o1 r1' => ⟨w, s1, ds, rfl, r1', r2, s', e, fun σ2 o2 r2' => q σ2 (o1.trans o2) r2'⟩⟩
theorem g_tup {own : List Nat} {es : List Expr} {k n : Nat} {t : Tgs} {pos : Pos} (h : PGs X es (rdGs ec X.K own t)) (hcal : X.calm = true := by rfl) (hn : (assignEach es X.env).length = n := by rfl) (hst : (assignEach es X.env).findIdx? (·.1) = none := by rfl) : PG X (.Tuple es k pos) (rdG ec X.K own (tgTup n t)) :=
  PG.imp (pg_tup hcal h hn hst) fun v σ H Q h => by
    obtain ⟨w, s, d, rfl, hr, rp, s', e, q⟩ := h
    unfold tgTup at e
    split at e
    · rename_i ds
      cases rp with
      | tup hs ra =>
        split at e
        · rename_i hl
          exact ⟨_, _, rfl, SqT.of (hr.mem.ext _ _ hs), by rw [ra.length]; exact hl, w, s, ds, rfl, hr, ra, s', e, q⟩
        · cases e
    · cases e
/-- target = e -/
def cAsg (tg : Tg) (c : CE) : CS := fun s => (cv c s).out fun a s1 => match a with
  | .d d => match tg d s1 with
    | some s2 => .nx s2
    | none => .bad
  | _ => .bad
theorem s_asg {own : List Nat} {tg e : Expr} {t : Tg} {c : CE} {pos : Pos} (he : Ex X ec W e c) (hg : PG X tg (rdG ec X.K own t)) (hs : swapsWithSole [tg] e pos.line X.env = pure false := by rfl) (hw : swappedStores [tg] e X.env = pure none := by rfl) (h1 : (assignEach [tg] X.env).map (·.2) = [assign tg X.env] := by rfl) :
    Sx X ec W (.Assign [tg] e pos) (cAsg t c) := (ps_asg he hg hs hw h1).imp fun D σ H h => by
  obtain ⟨w, s, rfl, hr, h⟩ := h
  refine run_ev hr h fun x w1 s1 a le r o hn h1 => ?_
  cases a with
  | ref n => exact h1.elim
  | new c => exact h1.elim
  | d d =>
    cases e1 : t d s1 with
    | none => simp only [e1] at h1; exact h1.elim
    | some s2 =>
      simp only [e1] at h1
      exact ⟨w1, s1, d, rfl, r, o, s2, e1, fun σ' _ r' => h1 σ' w1 le r'⟩
/-- a, b = x, y -/
def cPar (i j : Nat) (a b : CE) : CS := fun s => (cv a s).out fun x s1 => (cv b s1).out fun y s2 => match slOf x, slOf y with
  | some p, some q => .nx ⟨(s2.v.set i p).set j q, s2.m⟩
  | _, _ => .bad
theorem s_par (i j : Nat) {x y : Str} {a b : Expr} {ca cb : CE} {px py pt pos : Pos} {kt k2 pt2} (hN : X.N.Nodup) (ha : Ex X ec W a ca) (hb : Ex X ec W b cb) (hij : i ≠ j) (hcal : X.calm = true := by rfl) (hi : X.N[i]? = some x := by rfl) (hj : X.N[j]? = some y := by rfl)
    (hx : X.env.scope.names.lookup x = some .local := by rfl) (hy : X.env.scope.names.lookup y = some .local := by rfl) (hw : swappedStores [.Tuple [.Name x px, .Name y py] kt pt] (.Tuple [a, b] k2 pt2) X.env = pure (some [x, y]) := by rfl)
    (hs : swapsWithSole [.Tuple [.Name x px, .Name y py] kt pt] (.Tuple [a, b] k2 pt2) pos.line X.env = pure false := by rfl) (h0 : starEach [b] X.env = (false, eval b X.env) :: starEach [] X.env := by rfl) (h1 : starEach [a, b] X.env = (false, eval a X.env) :: starEach [b] X.env := by rfl) :
    Sx X ec W (.Assign [.Tuple [.Name x px, .Name y py] kt pt] (.Tuple [a, b] k2 pt2) pos) (cPar i j ca cb) := (ps_par hcal hN hi hj hij hx hy (pa_cons ha (pa_cons hb pa_nil h0) h1) hw hs).imp fun D σ H h => by
  obtain ⟨w, s, rfl, hr, h⟩ := h
  refine run_ev hr h fun v w1 s1 p le r o hn h1 => ?_
  refine run_ev r (h1.le le) fun u w2 s2 q le2 r2 o2 hn2 h2 => ?_
  cases e1 : slOf p with
  | none => simp only [e1] at h2; exact h2.elim
  | some sp =>
    cases e2 : slOf q with
    | none => simp only [e1, e2] at h2; exact h2.elim
    | some sq =>
      simp only [e1, e2] at h2
      exact ⟨v, u, rfl, h2 _ w2 le2 ((r2.set i (slOf_ok (o.le hn le2) e1)).set j (slOf_ok o2 e2))⟩

/-! ### what is walked -/
abbrev CI := S → R (List D)
def ItOk (K : Fg) (w : Wd) (J : It) (ds : List D) : Prop := ∀ w1, Le w w1 → Same w1.G w1.H → ∀ i, (∀ d, ds[i]? = some d → J.go i w1.H ∧ ∀ x H', J.yld i w1.H x H' → ∃ w2, Gr w1 w2 ∧ w2.H = H' ∧ Rp K w2.G x d) ∧ (ds.length ≤ i → J.stop i w1.H)
theorem ItOk.le {K : Fg} {w w1 : Wd} {J : It} {ds : List D} (a : Le w w1) (h : ItOk K w J ds) : ItOk K w1 J ds := fun w2 b => h w2 (a.trans b)
def rdI (K : Fg) (ec : EC) (W : WX) (c : CI) : TI := fun σ H R => ∃ w s, w.H = H ∧ Rel ec K w σ s ∧ Res (fun ds s' => ∀ J w', Le w w' → Rel ec K w' σ s' → ItOk K w' J ds → R J w'.H) (okE K ec W σ w) (c s)
abbrev Ix (X : Cx) (ec : EC) (W : WX) (tg iter : Expr) (c : CI) : Prop := PI X tg iter (rdI X.K ec W c)
theorem PI.imp {X : Cx} {tg iter : Expr} {t t' : TI} (h : PI X tg iter t) (i : ∀ σ H R, t' σ H R → t σ H R) : PI X tg iter t' := ⟨fun pins s σ H R I q => h.run pins s σ H R I (i _ _ _ q)⟩
/-- a list or a tuple of any kind -/
def iSeq (K : Fg) (tl : TE) : TI := fun σ H R => tl σ H fun x H1 => ∃ a, x = .ref a ∧ ((∃ xs, SqL K H1 a xs ∧ R (Itl K a) H1) ∨ ∃ xs, SqT K H1 a xs ∧ R (Itt K a) H1)
theorem pi_seq {tg l : Expr} {tl : TE} (hl : PE X l tl) : PI X tg l (iSeq X.K tl) := by
  refine ⟨fun pins s σ H R I h => ?_⟩
  refine thn (hl.run pins s σ H _ I h) fun v s1 ⟨x, H1, I1, r1, q1⟩ => ?_
  obtain ⟨a, e, hq⟩ := q1
  subst e
  cases r1
  rcases hq with ⟨xs, hq, q⟩ | ⟨xs, hq, q⟩
  · obtain ⟨its, rv, p, hz⟩ := I1.list hq
    refine wpAny_pyIter_list p.isList ?_
    refine ⟨s1.heap.objs.size, [s1.heap.objs.size], _, _, H1, rfl, I1.kept (t' := s1.toks) fun b o e => Heap.get?_push_of_some _ e, turn_list a _, ⟨_, Heap.get?_push_size _ rfl, rfl, rfl⟩, fun b hb => ?_, q⟩
    have e : b = s1.heap.objs.size := by simpa using hb
    subst e
    exact I1.fpOk (Nat.le_refl _) (I1.hok.fresh (Nat.le_refl _))
  · obtain ⟨its, rv, p, hz⟩ := I1.tuple hq
    refine wpAny_pyIter_tuple (show s1.heap.IsTuple a its.toArray from p) ?_
    refine ⟨s1.heap.objs.size, [s1.heap.objs.size], _, _, H1, rfl, I1.kept (t' := s1.toks) fun b o e => Heap.get?_push_of_some _ e, turn_tuple a _, ⟨_, Heap.get?_push_size _ rfl, rfl, rfl⟩, fun b hb => ?_, q⟩
    have e : b = s1.heap.objs.size := by simpa using hb
    subst e
    exact I1.fpOk (Nat.le_refl _) (I1.hok.fresh (Nat.le_refl _))
def ciSeq (c : CE) : CI := fun s => (cv c s).bind fun a s1 => match a with
  | .d (.list ds) => .ok ds s1
  | .d (.tuple ds) => .ok ds s1
  | _ => .bad
theorem i_seq {tg l : Expr} {c : CE} (h : Ex X ec W l c) : Ix X ec W tg l (ciSeq c) := PI.imp (pi_seq h) fun σ H R h => by
  obtain ⟨w, s, rfl, hr, h⟩ := h
  refine run_cv hr h fun x w1 s1 a le1 hr1 ha hn h1 => ?_
  cases a with
  | ref n => exact h1.elim
  | new c => exact h1.elim
  | d y =>
    have ha : Rp X.K w1.G x y := ha
    cases y with
    | list ds =>
      cases ha with
      | lst hs ra =>
        refine ⟨_, rfl, .inl ⟨_, hr1.mem.ext.seq hs, h1 _ w1 le1 hr1 fun w2 le2 e2 i => ⟨fun d hd => ?_, fun hl => ⟨_, e2.seq (le2.g.seq hs), by rw [ra.length]; exact hl⟩⟩⟩⟩
        obtain ⟨v, ev, rp⟩ := ra.get hd
        refine ⟨⟨_, v, e2.seq (le2.g.seq hs), ev⟩, fun x H' hy => ⟨w2, Gr.refl w2, hy.1.symm, ?_⟩⟩
        have := hy.2 _ (e2.seq (le2.g.seq hs))
        rw [ev] at this
        cases this
        exact rp.mono le2.g
    | tuple ds =>
      cases ha with
      | tup hs ra =>
        refine ⟨_, rfl, .inr ⟨_, SqT.of (hr1.mem.ext _ _ hs), h1 _ w1 le1 hr1 fun w2 le2 e2 i => ⟨fun d hd => ?_, fun hl => ⟨_, SqT.of (e2 _ _ (le2.g _ _ hs)), by rw [ra.length]; exact hl⟩⟩⟩⟩
        obtain ⟨v, ev, rp⟩ := ra.get hd
        refine ⟨⟨_, v, SqT.of (e2 _ _ (le2.g _ _ hs)), ev⟩, fun x H' hy => ⟨w2, Gr.refl w2, hy.1.symm, ?_⟩⟩
        have := hy.2 _ (SqT.of (e2 _ _ (le2.g _ _ hs)))
        rw [ev] at this
        cases this
        exact rp.mono le2.g
    | none => exact h1.elim
    | bool _ => exact h1.elim
    | int _ => exact h1.elim
    | str _ => exact h1.elim
    | dict _ => exact h1.elim
/-- lo, lo + 1, .. -/
def rangeD (lo : Int) : Nat → List D
  | 0 => []
  | n + 1 => .int lo :: rangeD (lo + 1) n
theorem rangeD_len (n : Nat) : ∀ lo : Int, (rangeD lo n).length = n := by
  induction n with
  | zero => intro lo; rfl
  | succ n ih => intro lo; show (rangeD (lo + 1) n).length + 1 = n + 1; rw [ih]
theorem rangeD_get : ∀ (n : Nat) (lo : Int) (i : Nat) (d : D), (rangeD lo n)[i]? = some d → i < n ∧ d = .int (lo + i)
  | 0, lo, i, d, h => by simp [rangeD] at h
  | n + 1, lo, 0, d, h => by
    have h : some (PyData.int lo) = some d := h
    cases h
    exact ⟨Nat.succ_pos _, by simp⟩
  | n + 1, lo, i + 1, d, h => by
    obtain ⟨h1, h2⟩ := rangeD_get n (lo + 1) i d h
    refine ⟨by omega, ?_⟩
    rw [h2]
    congr 1
    omega
theorem it_range {K : Fg} {w : Wd} {lo : Int} {n : Nat} : ItOk K w (Itr lo n) (rangeD lo n) := fun w2 le2 e2 i => ⟨fun d hd => by
  obtain ⟨h1, h2⟩ := rangeD_get n lo i d hd
  refine ⟨h1, fun x H' hy => ⟨w2, Gr.refl w2, hy.1.symm, ?_⟩⟩
  rw [hy.2, h2]
  exact .int _, fun hl => by
  rw [rangeD_len] at hl
  exact hl⟩
def small62 (i : Int) : Bool := decide (-(2 ^ 62) ≤ i ∧ i < 2 ^ 62)
def ciR1 (c : CE) : CI := fun s => (cv c s).bind fun a s1 => match a with
  | .d (.int n) => if small62 n = true then .ok (rangeD 0 n.toNat) s1 else .bad
  | _ => .bad
theorem i_range1 {tg a : Expr} {c : CE} {p pos : Pos} (h : Ex X ec W a c) (hm : X.mg "range" = none) (hg : Gl X "range" := by rfl) (hs : starEach [a] X.env = [(false, eval a X.env)] := by rfl) (h0 : starEach [a] X.env = (false, eval a X.env) :: starEach [] X.env := by rfl) : Ix X ec W tg (.Call (.Name "range" p) [a] [] pos) (ciR1 c) :=
  PI.imp (pi_range1 hg hm (pa_cons h pa_nil h0) hs) fun σ H R h => by
    obtain ⟨w, s, rfl, hr, h⟩ := h
    refine run_cv hr h fun x w1 s1 a le1 hr1 ha hn h1 => ?_
    cases a with
    | ref n => exact h1.elim
    | new c => exact h1.elim
    | d y =>
      have ha : Rp X.K w1.G x y := ha
      cases y with
      | int n =>
        cases ha
        by_cases hq : small62 n = true
        · simp only [hq, if_true] at h1
          have hq := of_decide_eq_true hq
          exact ⟨n, rfl, hq.1, hq.2, h1 _ w1 le1 hr1 it_range⟩
        · simp only [hq] at h1
          exact h1.elim
      | none => exact h1.elim
      | bool _ => exact h1.elim
      | str _ => exact h1.elim
      | list _ => exact h1.elim
      | tuple _ => exact h1.elim
      | dict _ => exact h1.elim
def ciR2 (c c' : CE) : CI := fun s => (cv c s).bind fun a s1 => (cv c' s1).bind fun b s2 => match a, b with
  | .d (.int i), .d (.int j) => if small62 i = true ∧ small62 j = true then .ok (rangeD i (j - i).toNat) s2 else .bad
  | _, _ => .bad
theorem i_range2 {tg a b : Expr} {c c' : CE} {p pos : Pos} (h : Ex X ec W a c) (h' : Ex X ec W b c') (hm : X.mg "range" = none) (hg : Gl X "range" := by rfl) (hs : starEach [a, b] X.env = [(false, eval a X.env), (false, eval b X.env)] := by rfl) (hs2 : starEach [b] X.env = [(false, eval b X.env)] := by rfl)
    (h0 : starEach [b] X.env = (false, eval b X.env) :: starEach [] X.env := by rfl) (h1 : starEach [a, b] X.env = (false, eval a X.env) :: starEach [b] X.env := by rfl) : Ix X ec W tg (.Call (.Name "range" p) [a, b] [] pos) (ciR2 c c') :=
  PI.imp (pi_range2 hg hm (pa_cons h (pa_cons h' pa_nil h0) h1) hs hs2) fun σ H R h => by
    obtain ⟨w, s, rfl, hr, h⟩ := h
    refine run_cv hr h fun x w1 s1 a le1 hr1 ha hn h1 => ?_
    refine run_cv hr1 (Res.mono h1 (fun _ _ q => q) fun _ _ q => okE_le le1 q) fun y w2 s2 b le2 hr2 hb hn2 h2 => ?_
    split at h2
    · rename_i i j
      have ha : Rp X.K w1.G x (.int i) := ha
      have hb : Rp X.K w2.G y (.int j) := hb
      cases ha
      cases hb
      split at h2
      · rename_i hq
        have h1 := of_decide_eq_true hq.1
        have h3 := of_decide_eq_true hq.2
        exact ⟨i, j, rfl, ⟨h1.1, h1.2, h3.1, h3.2⟩, h2 _ w2 (le1.trans le2) hr2 it_range⟩
      · exact h2.elim
    · exact h2.elim

/-! ### loops -/
def forL (tg : Tg) (body : CS) : List D → S → Out
  | [], s => .nx s
  | d :: ds, s => match tg d s with
    | none => .bad
    | some s1 => match body s1 with
      | .nx s2 => forL tg body ds s2
      | .ct s2 => forL tg body ds s2
      | .bk s2 => .nx s2
      | o => o
def cFor (ci : CI) (tg : Tg) (body : CS) : CS := fun s => (ci s).out fun ds s1 => forL tg body ds s1
theorem s_for {own : List Nat} {iter tgt : Expr} {body : List Stmt} {ci : CI} {tg : Tg} {cb : CS} {pos : Pos} (hp : PassesOwn (model X.prog X.w) X.A X.env X.xe) (hi : Ix X ec W tgt iter ci) (hg : PG X tgt (rdG ec X.K own tg)) (hb : Bx X ec W body cb) (hcal : X.calm = true := by rfl)
    (hs : ∀ x, foldedSetIterable iter X.env x = pure x := by intro _; rfl) : Sx X ec W (.For tgt iter body [] pos) (cFor ci tg cb) := (ps_for hp hcal hi hg hb hs).imp fun D σ H h => by
  obtain ⟨w, s, rfl, hr, h⟩ := h
  refine ⟨w, s, rfl, hr, ?_⟩
  unfold cFor at h
  cases e : ci s with
  | bad => rw [e] at h; exact h
  | ex n s' => rw [e] at h; exact okX_E h
  | ok ds s0 =>
    rw [e] at h
    intro J w0 le0 r0 hJ
    refine ⟨fun i m σ1 H1 => ∃ w1 s1, w1.H = H1 ∧ Le w0 w1 ∧ Rel ec X.K w1 σ1 s1 ∧ i + m = ds.length ∧ OOk X.K ec W D w1 (forL tg cb (ds.drop i) s1), ⟨ds.length, w0, s0, rfl, Le.refl _, r0, Nat.zero_add _, OOk.le le0 h⟩, fun i m σ1 H1 hW => ?_⟩
    obtain ⟨w1, s1, rfl, le1, r1, hm, h1⟩ := hW
    obtain ⟨hgo, hst⟩ := hJ w1 le1 r1.mem.ext i
    by_cases hi' : i < ds.length
    · have hd : ds[i]? = some ds[i] := List.getElem?_eq_getElem hi'
      obtain ⟨g1, g2⟩ := hgo _ hd
      rw [List.drop_eq_getElem_cons hi'] at h1
      unfold forL at h1
      refine .inr ⟨g1, fun σ' H' => ∃ w' s', w'.H = H' ∧ Le w0 w' ∧ Rel ec X.K w' σ' s' ∧ (i + 1) + (m - 1) = ds.length ∧ OOk X.K ec W D w' (forL tg cb (ds.drop (i + 1)) s'), fun σ' H' ⟨w', s', a1, a2, a3, a4, a5⟩ => ⟨m - 1, by omega, w', s', a1, a2, a3, a4, a5⟩, fun x H' hy => ?_⟩
      obtain ⟨w2, gr, rfl, rp⟩ := g2 x H' hy
      have r2 := r1.grow gr
      cases et : tg ds[i] s1 with
      | none => rw [et] at h1; exact h1.elim
      | some s2 =>
        rw [et] at h1
        refine ⟨w2, s1, ds[i], rfl, r2, rp, s2, et, fun σ' _ r3 => ⟨w2, s2, rfl, r3, ?_⟩⟩
        have h2 := OOk.le gr.le h1
        dsimp only at h2
        cases eb : cb s2 with
        | nx s3 =>
          rw [eb] at h2
          exact fun σ4 w4 le4 r4 => ⟨w4, s3, rfl, (le1.trans gr.le).trans le4, r4, by omega, OOk.le le4 h2⟩
        | ct s3 =>
          rw [eb] at h2
          exact fun σ4 w4 le4 r4 => ⟨w4, s3, rfl, (le1.trans gr.le).trans le4, r4, by omega, OOk.le le4 h2⟩
        | bk s3 => rw [eb] at h2; exact h2
        | rt a s3 => rw [eb] at h2; exact h2
        | ex n s3 => rw [eb] at h2; exact h2
        | bad => rw [eb] at h2; exact h2
    · refine .inl ⟨hst (by omega), ?_⟩
      rw [List.drop_eq_nil_of_le (by omega)] at h1
      exact h1 σ1 w1 (Le.refl _) r1
def whL (t : CT) (b : CS) : Nat → S → Out
  | 0, _ => .bad
  | n + 1, s => (t s).out fun x s1 => if x = true then (match b s1 with
      | .nx s2 => whL t b n s2
      | .ct s2 => whL t b n s2
      | .bk s2 => .nx s2
      | o => o) else .nx s1
def cWh (fu : S → Nat) (t : CT) (b : CS) : CS := fun s => whL t b (fu s) s
theorem s_while {c : Expr} {body : List Stmt} {ct : CT} {cb : CS} {pos : Pos} (fu : S → Nat) (hp : PassesOwn (model X.prog X.w) X.A X.env X.xe) (hc : Tx X ec W c ct) (hb : Bx X ec W body cb) : Sx X ec W (.While c body [] pos) (cWh fu ct cb) := (ps_while hp hc hb).imp fun D σ H h => by
  obtain ⟨w, s, rfl, hr, h⟩ := h
  refine ⟨fun m σ1 H1 => ∃ w1 s1, w1.H = H1 ∧ Rel ec X.K w1 σ1 s1 ∧ OOk X.K ec W D w1 (whL ct cb m s1), ⟨fu s, w, s, rfl, hr, h⟩, fun m σ1 H1 hW => ?_⟩
  obtain ⟨w1, s1, rfl, r1, h1⟩ := hW
  cases m with
  | zero => exact h1.elim
  | succ m =>
    refine run_tS r1 (k := fun x s1 => if x = true then (match cb s1 with
      | .nx s2 => whL ct cb m s2
      | .ct s2 => whL ct cb m s2
      | .bk s2 => .nx s2
      | o => o) else .nx s1) h1 fun x w2 s2 le2 r2 h2 => ?_
    cases x with
    | false =>
      rw [if_neg Bool.false_ne_true] at h2 ⊢
      exact h2 σ1 w2 le2 r2
    | true =>
      rw [if_pos rfl] at h2 ⊢
      refine ⟨fun σ' H' => ∃ w' s', w'.H = H' ∧ Rel ec X.K w' σ' s' ∧ OOk X.K ec W D w' (whL ct cb m s'), fun σ' H' q => ⟨m, Nat.lt_succ_self m, q⟩, w2, s2, rfl, r2, ?_⟩
      have h3 := OOk.le le2 h2
      cases eb : cb s2 with
      | nx s3 =>
        rw [eb] at h3
        exact fun σ4 w4 le4 r4 => ⟨w4, s3, rfl, r4, OOk.le le4 h3⟩
      | ct s3 =>
        rw [eb] at h3
        exact fun σ4 w4 le4 r4 => ⟨w4, s3, rfl, r4, OOk.le le4 h3⟩
      | bk s3 => rw [eb] at h3; exact h3
      | rt a s3 => rw [eb] at h3; exact h3
      | ex n s3 => rw [eb] at h3; exact h3
      | bad => rw [eb] at h3; exact h3
end
end Vm

namespace Vm
open PySem L2 PySem.Spec PyProof.Rows

/-! ### defs and their calls -/
inductive RF where
  | ok (a : Rv) (m : List Cell)
  | ex (e : String) (m : List Cell)
  | bad
abbrev Fn := List Sl → List Cell → RF
def ArgsOk (ec : EC) (K : Fg) (w : Wd) : List V → List Sl → Prop := Paired fun v sl => SlOk ec K w (some (some v)) sl
def FOk (K : Fg) (ec : EC) (Q : VK) (E : XK) (w : Wd) : RF → Prop
  | .ok a m' => ∀ x w', Le w w' → Mem ec K w' m' → RvOk K w' x a → FrR w x a → Q x w'.H
  | .ex e m' => ∀ w', Le w w' → Mem ec K w' m' → E (.ref (ec e)) none w'.H
  | .bad => False
def spF (K : Fg) (ec : EC) (n : Nat) (f : Fn) : Sp := fun vs H Q E => vs.length = n ∧ ∃ w m as, w.H = H ∧ Mem ec K w m ∧ ArgsOk ec K w vs as ∧ FOk K ec Q E w (f as m)
/-- arguments of a call of a def: data, cells by themselves -/
abbrev CL := S → R (List Sl)
def lNil : CL := fun s => .ok [] s
def lCons (c : CE) (cl : CL) : CL := fun s => (cv c s).bind fun a s1 => match slOf a with
  | some sl => (cl s1).bind fun r s2 => .ok (sl :: r) s2
  | none => .bad
def rdL (K : Fg) (ec : EC) (W : WX) (c : CL) : TA := fun σ H Q => ∃ w s, w.H = H ∧ Rel ec K w σ s ∧ Res (fun as s' => ∀ vs w', Le w w' → Rel ec K w' σ s' → ArgsOk ec K w' vs as → Q vs w'.H) (okE K ec W σ w) (c s)
theorem argsOk_mono {K : Fg} {w w' : Wd} (a : Le w w') {vs : List V} {as : List Sl} (h : ArgsOk ec K w vs as) : ArgsOk ec K w' vs as := Paired.mapP h fun v sl q => slOk_mono a q
/-! ### defs that are called with no repr under way -/
structure Rg (k : Nat) (A : Around) : Prop where
  r : Room k A
  g : A.guards = some []
theorem Rg.mono {j k : Nat} {A : Around} (q : Rg k A) (h : j ≤ k) : Rg j A := ⟨q.r.mono h, q.g⟩
theorem Rg.units {k : Nat} {A : Around} (q : Rg k A) : A.units + 64 < cLine := q.r.units
theorem hu_of {k : Nat} {A : Around} (q : Rg k A) : A.units + 1 < cLine := L2.hu_of q.r
structure FnG (P : Program) (wo : World) (K : Fg) (mg : Str → Option Value) (base : Heap) (k : Nat) (f : Addr) (fd : FuncData) (ps : List Str) (sp : Sp) : Prop where
  len : ∀ vs H Q E, sp vs H Q E → vs.length = ps.length
  go : ∀ {A : Around} {out : List Env} {s : Shared} {H : Hp} {as : Args} {us : List Value} {vs : List V} {Q : VK} {E : XK}, Rg k A → Env0 P wo K mg base A out s H → BindsTo s fd as (ps.zip us) → Vals vs us → sp vs H Q E →
    codeAny (model P wo) A (.call (.ref f) as) (CR (L2.CX P wo) out P wo H s Q E) s
theorem FnG.imp {P : Program} {wo : World} {K : Fg} {mg : Str → Option Value} {base : Heap} {k : Nat} {f : Addr} {fd : FuncData} {ps : List Str} {sp sp' : Sp} (F : FnG P wo K mg base k f fd ps sp) (h : ∀ vs H Q E, sp' vs H Q E → sp vs H Q E) : FnG P wo K mg base k f fd ps sp' :=
  ⟨fun vs H Q E q => F.len vs H Q E (h _ _ _ _ q), fun a b c d q => F.go a b c d (h _ _ _ _ q)⟩
theorem run_fnG {X : Cx} {k : Nat} {f : Addr} {fd : FuncData} {ps : List Str} {sp : Sp} {E : L2.St → XK} {pins : List (Addr × Obj)} {σ : L2.St} {H : Hp} {s : Shared} {Q : VK} {us : List Value} {vs : List V} (F : FnG X.prog X.w X.K X.mg X.base k f fd ps sp) (hr : Rg k X.A) (bi : Binds X.K fd ps [])
    (px : PassesAt (L2.CX X.prog X.w) X σ (E σ)) (J : Inv X pins σ H s) (rv : Vals vs us) (q : sp vs H Q (E σ)) : wpAny (model X.prog X.w) X.A (call (.ref f) us) (EP X pins σ Q) X.xe s := by
  have ln : (us ++ []).length = ps.length := by rw [List.append_nil, ← rv.length]; exact F.len _ _ _ _ q
  have b2 := bi s us J.kIn (by simpa using ln)
  rw [List.append_nil] at b2
  refine wpAny_call (codeAny_mono (F.go hr J.env0 b2 rv q) fun r s2 hz => ?_)
  rcases r with e | (_ | u | _ | _)
  · exact px pins H s e s2 J hz
  · exact False.elim hz
  · first | exact J.after hz | exact False.elim hz
  · first | exact J.after hz | exact False.elim hz
  · first | exact J.after hz | exact False.elim hz
theorem pe_callG {X : Cx} {k : Nat} {f : Addr} {fd : FuncData} {ps : List Str} {sp : Sp} {E : L2.St → XK} {x : Str} {p pos : Pos} {e : Expr} {es : List Expr} {t : TA} (F : FnG X.prog X.w X.K X.mg X.base k f fd ps sp) (hr : Rg k X.A) (gl : Gl X x) (gm : X.mg x = some (.ref f)) (kp : PySem.W.keepIn X.K (.ref f) = true) (bi : Binds X.K fd ps []) (px : ∀ σ, PassesAt (L2.CX X.prog X.w) X σ (E σ))
    (ha : PA X (e :: es) t) (db : (x == ("__debug__" : Str)) = false) (st : starEach (e :: es) X.env = (false, eval e X.env) :: starEach es X.env) (pl : (backTo pos (starEach es X.env)).any (·.1) = false) : PE X (.Call (.Name x p) (e :: es) [] pos) (tCallS sp E t) := by
  constructor
  intro pins s σ H Q J h
  refine wpAny_Call_Name_kw (ld_glob J gl gm ?_ db)
  exact PySem.W.callWith_K (h₀ := X.base) J.ok.mod.kin kp (thn (ha.run pos pins s σ H _ J h) fun us s2 ⟨vs, H2, J2, rv, q⟩ => ⟨J2.kIn, run_fnG F hr bi (px σ) J2 rv q⟩) st pl
section
variable {X : Cx} {ec : EC} {W : WX}
theorem l_nil : PA X [] (rdL X.K ec W lNil) := PA.imp pa_nil fun σ H Q h => by
  obtain ⟨w, s, rfl, hr, h⟩ := h
  exact h [] w (Le.refl w) hr .nil
theorem l_cons {e : Expr} {es : List Expr} {c : CE} {cl : CL} (h1 : Ex X ec W e c) (h2 : PA X es (rdL X.K ec W cl)) (hs : starEach (e :: es) X.env = (false, eval e X.env) :: starEach es X.env := by rfl) : PA X (e :: es) (rdL X.K ec W (lCons c cl)) :=
  PA.imp (pa_cons h1 h2 hs) fun σ H Q h => by
    obtain ⟨w, s, rfl, hr, h⟩ := h
    show rd X.K ec W c σ w.H _
    refine run_cv hr h fun x w1 s1 a le1 hr1 ha hn h1 => ?_
    cases e1 : slOf a with
    | none => simp only [e1] at h1; exact h1.elim
    | some sl =>
      simp only [e1] at h1
      refine ⟨w1, s1, rfl, hr1, ?_⟩
      refine Res.mono h1.bind (fun as s2 h2 vs w2 le2 hr2 rp => ?_) fun _ _ q => okE_le le1 q
      exact h2 (x :: vs) w2 (le1.trans le2) hr2 (.cons (slOk_mono le2 (slOf_ok ha e1)) rp)
def RF.toR (v : List Sl) : RF → R Rv
  | .ok a m => .ok a ⟨v, m⟩
  | .ex e m => .ex e ⟨v, m⟩
  | .bad => .bad
def cCall (f : Fn) (cl : CL) : CE := fun s => (cl s).bind fun as s1 => (f as s1.m).toR s1.v
theorem rel_mem {K : Fg} {w w' : Wd} {σ : L2.St} {v : List Sl} {m m' : List Cell} (le : Le w w') (r : Rel ec K w σ ⟨v, m⟩) (h : Mem ec K w' m') : Rel ec K w' σ ⟨v, m'⟩ := ⟨h, r.len, fun i sl e => slOk_mono le (r.slot i sl e)⟩
theorem e_call {k : Nat} {fa : Addr} {fd : FuncData} {ps : List Str} {f : Fn} {x : Str} {p pos : Pos} {e : Expr} {es : List Expr} {cl : CL} {n : Nat} (F : FnG X.prog X.w X.K X.mg X.base k fa fd ps (spF X.K ec n f)) (hr : Rg k X.A) (hm : X.mg x = some (.ref fa)) (hk : PySem.W.keepIn X.K (.ref fa) = true) (hb : Binds X.K fd ps [])
    (tk : Takes X W) (ha : PA X (e :: es) (rdL X.K ec W cl)) (hl : ∀ s as s', cl s = .ok as s' → as.length = n) (hg : Gl X x := by rfl) (hdb : (x == ("__debug__" : Str)) = false := by decide) (he : starEach (e :: es) X.env = (false, eval e X.env) :: starEach es X.env := by rfl)
    (hpl : (backTo pos (starEach es X.env)).any (·.1) = false := by rfl) : Ex X ec W (.Call (.Name x p) (e :: es) [] pos) (cCall f cl) :=
  (pe_callG F hr hg hm hk hb (fun σ => passAt tk σ) ha hdb he hpl).imp fun σ H Q h => by
    obtain ⟨w, s, rfl, hr, h⟩ := h
    refine ⟨w, s, rfl, hr, ?_⟩
    unfold cCall at h
    cases e1 : cl s with
    | bad => rw [e1] at h; exact h
    | ex n s' => rw [e1] at h; exact h
    | ok as s1 =>
      rw [e1] at h
      intro vs w1 le1 r1 ao
      refine ⟨by rw [paired_len ao]; exact hl _ _ _ e1, w1, s1.m, as, rfl, r1.mem, ao, ?_⟩
      have h1 : Res (okV ec X.K w σ Q) (okE X.K ec W σ w) ((f as s1.m).toR s1.v) := h
      cases e2 : f as s1.m with
      | bad => rw [e2] at h1; exact h1
      | ex n m' =>
        rw [e2] at h1
        exact fun w2 le2 m2 => h1 w2 (le1.trans le2) (rel_mem le2 r1 m2)
      | ok a m' =>
        rw [e2] at h1
        exact fun x w2 le2 m2 o fr => h1 x w2 (le1.trans le2) (rel_mem le2 r1 m2) o (fr.back le1 le2 o)
/-- a written list of arguments has its length -/
def LLen (n : Nat) (cl : CL) : Prop := ∀ s as s', cl s = .ok as s' → as.length = n
theorem ll_nil : LLen 0 lNil := fun s as s' e => by
  cases e
  rfl
theorem ll_cons {n : Nat} {c : CE} {cl : CL} (h : LLen n cl) : LLen (n + 1) (lCons c cl) := fun s as s' e => by
  unfold lCons at e
  cases e1 : cv c s with
  | bad => rw [e1] at e; cases e
  | ex _ _ => rw [e1] at e; cases e
  | ok a s1 =>
    rw [e1] at e
    simp only [R.bind] at e
    cases e3 : slOf a with
    | none => rw [e3] at e; cases e
    | some sl =>
      rw [e3] at e
      dsimp only at e
      cases e2 : cl s1 with
      | bad => rw [e2] at e; cases e
      | ex _ _ => rw [e2] at e; cases e
      | ok xs s2 =>
        rw [e2] at e
        cases e
        show xs.length + 1 = n + 1
        rw [h _ _ _ e2]
end
/-- a def's run: its slots, its cells gone behind it; a list or dict of its own is handed back as new -/
def fin (m : List Cell) : Out → RF
  | .nx s => .ok (.d .none) (s.m.take m.length)
  | .rt (.ref k) s => if m.length ≤ k then (match s.m[k]? with
    | some .gone => .bad
    | some c => .ok (.new c) (s.m.take m.length)
    | none => .bad) else .bad
  | .rt a s => .ok a (s.m.take m.length)
  | .ex e s => .ex e (s.m.take m.length)
  | _ => .bad
def runF (n : Nat) (c : CS) : Fn := fun as m => fin m (c ⟨as ++ List.replicate (n - as.length) .u, m⟩)
theorem nv_cut {w w' : Wd} {m m' : List Cell} {G : Hp} (hl : w.r.length = m.length) (le : Le w w') (h : NV ec w' m') : NV ec ⟨G, w.r, w.F, w'.H⟩ (m'.take m.length) := by
  refine ⟨fun t q n j ds e1 e2 => ?_, fun p hp => h.2 p (by rw [le.s]; exact hp)⟩
  have ht : t < m.length := by
    rw [← hl]
    exact (List.getElem?_eq_some_iff.mp e1).1
  rw [List.getElem?_take_of_lt ht] at e2
  obtain ⟨h1, h2⟩ := h.1 t q n j ds (le.cell e1) e2
  refine ⟨h1, fun p ks e3 e4 => ?_⟩
  rw [List.getElem?_take_of_lt (by omega)] at e4
  exact h2 p ks (le.cell e3) e4
theorem cut_mem {K : Fg} {w w' : Wd} {m m' : List Cell} (le : Le w w') (hm : Mem ec K w m) (h : Mem ec K w' m') : Mem ec K ⟨w'.G, w.r, w.F, w'.H⟩ (m'.take m.length) ∧ Le w ⟨w'.G, w.r, w.F, w'.H⟩ := by
  have hp : ∀ (n : Nat) (p : Addr), w.r[n]? = some p → w'.r[n]? = some p := fun n p e => le.cell e
  have hl : m.length ≤ m'.length := by
    rw [← hm.len, ← h.len]
    exact le.p.length_le
  have l3 : Le w ⟨w'.G, w.r, w.F, w'.H⟩ := ⟨le.g, le.k, List.prefix_refl _, fun _ q => .inl q, rfl⟩
  refine ⟨⟨h.ext, ?_, hm.nd, fun n p c h1 h2 => ?_, fun p q => ?_, hm.tab.back h.tab, hm.inv.trans (l3.ch _), h.gt, nv_cut hm.len le h.nv⟩, l3⟩
  · show w.r.length = (m'.take m.length).length
    rw [List.length_take, hm.len]
    omega
  · have h2 : (m'.take m.length)[n]? = some c := h2
    have hn : n < m.length := by
      rw [← hm.len]
      exact (List.getElem?_eq_some_iff.mp h1).1
    rw [List.getElem?_take_of_lt hn] at h2
    exact h.cell n p c (hp n p h1) h2
  · have q' : w'.F p := by rw [le.s]; exact q
    obtain ⟨a, b, c⟩ := h.fo p q'
    exact ⟨a, (hm.fo p q).2.1, c⟩
theorem start_slot {n : Nat} {vs : List V} {as : List Sl} {K : Fg} {w : Wd} {N : List Str} (hN : N.length = n) (ao : ArgsOk ec K w vs as) (i : Nat) (sl : Sl) (e : (as ++ List.replicate (n - as.length) Sl.u)[i]? = some sl) : SlOk ec K w (L2.start N vs)[i]? sl := by
  have hlen := paired_len ao
  by_cases hi : i < as.length
  · rw [List.getElem?_append_left hi] at e
    unfold L2.start
    rw [List.getElem?_append_left (by rw [List.length_map]; omega), List.getElem?_map]
    have key : ∀ {vs : List V} {as : List Sl} {i : Nat} {sl : Sl}, ArgsOk ec K w vs as → as[i]? = some sl → SlOk ec K w (Option.map some vs[i]?) sl := by
      intro vs as i sl h
      induction h generalizing i with
      | nil => intro e; simp at e
      | cons r t ih =>
        intro e
        cases i with
        | zero =>
          simp at e
          subst e
          exact r
        | succ i =>
          simp only [List.getElem?_cons_succ] at e ⊢
          exact ih e
    exact key ao e
  · rw [List.getElem?_append_right (by omega), List.getElem?_replicate] at e
    split at e
    · cases e
      trivial
    · cases e
theorem rel_start {K : Fg} {w : Wd} {m : List Cell} {vs : List V} {as : List Sl} {N : List Str} (hm : Mem ec K w m) (ao : ArgsOk ec K w vs as) : Rel ec K w (L2.start N vs) ⟨as ++ List.replicate (N.length - as.length) .u, m⟩ := by
  refine ⟨hm, ?_, fun i sl e => start_slot rfl ao i sl e⟩
  show (L2.start N vs).length = (as ++ List.replicate (N.length - as.length) Sl.u).length
  unfold L2.start
  rw [List.length_append, List.length_append, List.length_map, List.length_replicate, List.length_replicate, paired_len ao]
theorem fin_ok {K : Fg} {ec : EC} {Q : VK} {E : XK} {w : Wd} {m : List Cell} {o : Out} (hm : Mem ec K w m) (h : FOk K ec Q E w (fin m o)) : OOk K ec (fun cls d _ H => E cls d H) { nx := fun _ H' => Q .non H', rt := Q } w o := by
  cases o with
  | bad => exact h
  | bk s => exact h.elim
  | ct s => exact h.elim
  | nx s =>
    intro σ' w' le r
    obtain ⟨m2, le2⟩ := cut_mem le hm r.mem
    exact h .non ⟨w'.G, w.r, w.F, w'.H⟩ le2 m2 .non .d
  | ex e s =>
    intro σ' w' le r
    obtain ⟨m2, le2⟩ := cut_mem le hm r.mem
    exact h ⟨w'.G, w.r, w.F, w'.H⟩ le2 m2
  | rt a s =>
    intro x σ' w' le r o f
    obtain ⟨m2, le2⟩ := cut_mem le hm r.mem
    cases a with
    | d y => exact h x ⟨w'.G, w.r, w.F, w'.H⟩ le2 m2 o .d
    | new c =>
      obtain ⟨p, ex, ⟨h1, h2⟩, hc⟩ := o
      refine h x ⟨w'.G, w.r, w.F, w'.H⟩ le2 m2 ⟨p, ex, ⟨fun z => h1 (le.mem z), fun z => h2 (by rw [le.s]; exact z)⟩, hc⟩ fun c' e' p' ep => f c' e' p' ep
    | ref k =>
      obtain ⟨p, rfl, hk⟩ := o
      unfold fin at h
      by_cases hl : m.length ≤ k
      · have h : FOk K ec Q E w (match s.m[k]? with
          | some .gone => .bad
          | some c => .ok (.new c) (s.m.take m.length)
          | none => .bad) := by
          simpa only [hl, if_true] using h
        cases ec' : s.m[k]? with
        | none => rw [ec'] at h; exact h.elim
        | some c =>
          rw [ec'] at h
          have hc := r.mem.cell k p c hk ec'
          have np : p ∉ w.r := fun z => by
            obtain ⟨j, hj⟩ := List.getElem?_of_mem z
            have hj2 := le.cell hj
            have : j = k := nd_ix r.mem.nd hj2 hk
            have hj3 := (List.getElem?_eq_some_iff.mp hj).1
            rw [hm.len] at hj3
            omega
          have fp : w.H p = none := by
            rcases le.f p (List.mem_of_getElem? hk) with z | z
            · exact absurd z np
            · exact z
          have nf : ¬ w.F p := fun z => by
            have z' : w'.F p := by rw [le.s]; exact z
            exact (r.mem.fo p z').2.1 (List.mem_of_getElem? hk)
          cases c with
          | gone => exact h.elim
          | l ds => exact h (.ref p) ⟨w'.G, w.r, w.F, w'.H⟩ le2 m2 ⟨p, rfl, ⟨np, nf⟩, hc⟩ fun _ _ q eq => by cases eq; exact fp
          | k ds => exact h (.ref p) ⟨w'.G, w.r, w.F, w'.H⟩ le2 m2 ⟨p, rfl, ⟨np, nf⟩, hc⟩ fun _ _ q eq => by cases eq; exact fp
          | t ds => exact h (.ref p) ⟨w'.G, w.r, w.F, w'.H⟩ le2 m2 ⟨p, rfl, ⟨np, nf⟩, hc⟩ fun _ _ q eq => by cases eq; exact fp
          | r ds => exact h (.ref p) ⟨w'.G, w.r, w.F, w'.H⟩ le2 m2 ⟨p, rfl, ⟨np, nf⟩, hc⟩ fun _ _ q eq => by cases eq; exact fp
          | i n j ds => exact h (.ref p) ⟨w'.G, w.r, w.F, w'.H⟩ le2 m2 ⟨p, rfl, ⟨np, nf⟩, hc⟩ fun _ _ q eq => by cases eq; exact fp
      · simp only [hl, if_false] at h
        exact h.elim
/-- THE RULE of a def -/
theorem fn_ok {P : Program} {wo : World} {K : Fg} {mg : Str → Option Value} {base : Heap} {ec : EC} {x qual : Str} {st : Stmt} {f : Addr} {fd : FuncData} {N ps : List Str} {k : Nat} (F : Fun K x qual st f fd) (S : FnScope N ps (defScope st)) (c : CS)
    (hb : ∀ (cdv : Value) (A : Around) (outer : List Env) (s : Shared) (H : Hp) (E : XK), Rg k (A.deeper (envOfC qual (defScope st) s.heap.objs.size f cdv)) → Takes (cxOf (L2.CX P wo) P wo K mg base N qual (defScope st) f cdv A outer s H E) (fun cls d _ H => E cls d H) →
      PassesOwn (model P wo) (A.deeper (envOfC qual (defScope st) s.heap.objs.size f cdv)) (envOfC qual (defScope st) s.heap.objs.size f cdv) (cxOf (L2.CX P wo) P wo K mg base N qual (defScope st) f cdv A outer s H E).xe →
      PSs (cxOf (L2.CX P wo) P wo K mg base N qual (defScope st) f cdv A outer s H E) (defBody st) (rdS K ec (fun cls d _ H => E cls d H) c)) :
    FnG P wo K mg base (k + 1) f fd ps (spF K ec ps.length (runF N.length c)) := by
  obtain ⟨oc, od, kV, doc, pm, an, cdv, ct, osl, rfl, lk, hcd⟩ := F.ex
  refine ⟨fun vs H Q E h => h.1, fun {A out s H as us vs Q E} rg e0 bd rv h => ?_⟩
  have inH : K.In s.heap := e0.mod.kin.keeps fun b o e => (e0.bs b o e).1
  have noL : s.heap.NoLimit := e0.mod.nolimit.keeps fun b o e => (e0.bs b o e).1
  refine codeAny_call_function rg.r.depth (inH _ _ lk) rfl S.co S.gen rfl (PySem.W.codeRec_of inH hcd) (bd _ _ _ _ ?_)
  refine wpAny_newFunctionEnv_cells S.kind (fun ⟨n, v⟩ hy => ?_) fun env he s1 z => ?_
  · rcases S.par n (List.of_mem_zip hy).1 with q | q
    · exact .inl q
    · exact .inr ⟨q, PySem.W.cellsFrom_some _ _ _ (.inl q)⟩
  subst he
  refine ⟨noL.keeps z.toInCall.keep, codeAny_func ?_⟩
  have body := hb cdv A out s H E ⟨rg.r.deeper _, rg.g⟩ (takes_of rfl rfl rfl rfl) (passes_of rfl)
  have J : Inv (cxOf (L2.CX P wo) P wo K mg base N qual (defScope st) f cdv A out s H E) [] (start N vs) H s1 := inv_start S rg.r.hd e0 h.1 rv z
  obtain ⟨hl, w, m, aa, rfl, hm, ao, h⟩ := h
  refine wpAny_mono (body.run [] s1 (start N vs) w.H _ J ⟨w, _, rfl, rel_start hm ao, fin_ok hm h⟩) (fun fl s2 hs => ?_) fun e s2 hs => hs
  have out : ∀ {σ' : L2.St} {H' : Hp} {v : V} {u : Value}, Inv (cxOf (L2.CX P wo) P wo K mg base N qual (defScope st) f cdv A out s w.H E) [] σ' H' s2 → RelV v u → Q v H' → L2.CE out P wo w.H s Q u s2 :=
    fun {σ' H' v u} J2 rv2 q2 => ⟨v, H', J2.os, J2.bare, J2.base, J2.hok, rv2, q2⟩
  cases fl with
  | next =>
    obtain ⟨σ', H', J2, q2⟩ := hs
    exact out (v := V.non) (u := Value.none) J2 rfl q2
  | ret u =>
    obtain ⟨v, σ', H', J2, rv2, q2⟩ := hs
    exact out J2 rv2 q2
  | brk =>
    obtain ⟨_, _, _, q2⟩ := hs
    exact q2.elim
  | cont =>
    obtain ⟨_, _, _, q2⟩ := hs
    exact q2.elim

/-! ### raise -/
structure ExcF (K : Fg) (mg : Str → Option Value) (ec : EC) (x : Str) (n : String) : Prop where
  g : mg x = some (.ref (ec n))
  x : PySem.W.excIn K (ec n) [.type "ValueError", .type "Exception", .type "BaseException", .type "object"] "ValueError.__new__" = true
  k : PySem.W.keepIn K (.ref (ec n)) = true
  b : PySem.W.subIn K (.ref (ec n)) (.type "BaseException") = some true
  t : PySem.W.typeIn K (.ref (ec n)) = some (.type "type")
section
variable {X : Cx} {ec : EC} {W : WX}
def cRaise (n : String) : CS := fun s => .ex n s
theorem s_raise {x m : Str} {n : String} {j : Nat} {p p2 pos pos2 : Pos} (F : ExcF X.K X.mg ec x n) (tk : Takes X W) (hcal : X.calm = true := by rfl) (hg : Gl X x := by rfl) (hdb : (x == ("__debug__" : Str)) = false := by decide) : Sx X ec W (.Raise (some (.Call (.Name x p) [.Constant (.str m) j p2] [] pos)) none pos2) (cRaise n) :=
  (ps_raise hcal tk (pmk_own PySem.F.excBase_ValueError F.x F.g F.k (raises_own F.b F.t) hg hdb)).imp fun D σ H h => by
    obtain ⟨w, s, rfl, hr, h⟩ := h
    exact h σ w (Le.refl w) hr

/-! ### writing into a cell -/
def Cell.plain : Cell → Bool
  | .r _ => false
  | .i _ _ _ => false
  | _ => true
theorem nv_set {w : Wd} {m : List Cell} {n : Nat} {p : Addr} {o : HO} {c : Cell} (nd : w.r.Nodup) (hl : w.r.length = m.length) (hn : w.r[n]? = some p) (hF : ∀ q, w.F q → q ≠ p) (hc : c.plain = true) (h : NV ec w m) : NV ec ⟨w.G, w.r, w.F, upd w.H p o⟩ (m.set n c) := by
  have hnm : n < m.length := by
    rw [← hl]
    exact (List.getElem?_eq_some_iff.mp hn).1
  refine ⟨fun t q n0 j ds e1 e2 => ?_, fun q hq => ?_⟩
  · have ne : n ≠ t := fun z => by
      subst z
      rw [List.getElem?_set_self hnm] at e2
      cases e2
      cases hc
    rw [List.getElem?_set_ne ne] at e2
    obtain ⟨h1, h2⟩ := h.1 t q n0 j ds e1 e2
    refine ⟨h1, fun p' ks e3 e4 => ?_⟩
    have ne2 : n ≠ n0 := fun z => by
      subst z
      rw [List.getElem?_set_self hnm] at e4
      cases e4
      cases hc
    rw [List.getElem?_set_ne ne2] at e4
    obtain ⟨ws, k, e5, e6⟩ := h2 p' ks e3 e4
    refine ⟨ws, k, ?_, e6⟩
    have hp : p' ≠ p := fun z => ne2 (nd_ix nd hn (z ▸ e3))
    show upd w.H p o p' = _
    rw [upd_ne hp]
    exact e5
  · rcases h.2 q hq with z | ⟨u, e, z⟩
    · exact .inl z
    · refine .inr ⟨u, ?_, z⟩
      show upd w.H p o q = _
      rw [upd_ne (hF q hq)]
      exact e
theorem cell_set {K : Fg} {w : Wd} {σ : L2.St} {s : S} {n : Nat} {p : Addr} {o : HO} {c : Cell} (r : Rel ec K w σ s) (hn : w.r[n]? = some p) (hg : w.G p = none) (hc : COk K w.G (upd w.H p o) p c) (hpl : c.plain = true := by rfl) :
    Rel ec K ⟨w.G, w.r, w.F, upd w.H p o⟩ σ ⟨s.v, s.m.set n c⟩ ∧ Le w ⟨w.G, w.r, w.F, upd w.H p o⟩ := by
  have le : Le w ⟨w.G, w.r, w.F, upd w.H p o⟩ := ⟨Same.refl _, fun a u e na => ⟨u, by
    show upd w.H p o a = some u
    have hne : a ≠ p := by
      intro z
      subst z
      exact na (List.mem_of_getElem? hn)
    rw [upd_ne hne]
    exact e, fun _ => rfl⟩, List.prefix_refl _, fun _ h => .inl h, rfl⟩
  refine ⟨⟨⟨fun b u e => ?_, by show w.r.length = (s.m.set n c).length; rw [List.length_set]; exact r.mem.len, r.mem.nd, fun k q c' h1 h2 => ?_, fun q hq => ?_, (let ⟨_, a, b, c⟩ := r.liveN hn hg; r.mem.tab.put a b c), r.mem.inv.trans (le.ch _), r.mem.gt, nv_set r.mem.nd r.mem.len hn (fun q hq z => (r.mem.fo q hq).2.1 (z ▸ List.mem_of_getElem? hn)) hpl r.mem.nv⟩, r.len, fun i sl e => slOk_mono le (r.slot i sl e)⟩, le⟩
  · show upd w.H p o b = some u
    have hb : b ≠ p := by
      intro z
      subst z
      have e : w.G b = some u := e
      rw [hg] at e
      cases e
    rw [upd_ne hb]
    exact r.mem.ext b u e
  · have h2 : (s.m.set n c)[k]? = some c' := h2
    by_cases hk : n = k
    · subst hk
      have hl : n < s.m.length := by rw [← r.mem.len]; exact (List.getElem?_eq_some_iff.mp hn).1
      rw [List.getElem?_set_self hl] at h2
      cases h2
      have h1 : w.r[n]? = some q := h1
      rw [hn] at h1
      cases h1
      exact hc
    · rw [List.getElem?_set_ne hk] at h2
      have hq : q ≠ p := fun z => hk (nd_ix r.mem.nd hn (z ▸ h1))
      have c0 := r.mem.cell k q c' h1 h2
      refine cOk_mono (Same.refl _) (fun hc => ?_) (fun u _ e => ?_) c0
      · show w.G q = none
        cases c' with
        | l ds => exact c0.1
        | k kvs => exact c0.1
        | t kvs => exact c0.1
        | r ks => exact c0.1
        | i n j ds => exact c0.1
        | gone => exact absurd rfl hc
      · show upd w.H p o q = some u
        rw [upd_ne hq]
        exact e
  · obtain ⟨a, b, u, hu⟩ := r.mem.fo q hq
    refine ⟨a, b, u, ?_⟩
    show upd w.H p o q = some u
    have hne : q ≠ p := by
      intro z
      subst z
      exact b (List.mem_of_getElem? hn)
    rw [upd_ne hne]
    exact hu

/-! ### dicts -/
def getD {κ : Type} [DecidableEq κ] (kvs : List (κ × D)) (k : κ) : Option D := (kvs.find? fun kv => decide (kv.1 = k)).map (·.2)
def putD {κ : Type} [DecidableEq κ] (kvs : List (κ × D)) (k : κ) (v : D) : List (κ × D) :=
  if (kvs.any fun kv => decide (kv.1 = k)) = true then kvs.map (fun kv => if kv.1 = k then (kv.1, v) else kv) else kvs ++ [(k, v)]
theorem kv_get {K : Fg} {G : Hp} {κ : Type} [DecidableEq κ] {k : κ} : ∀ {ws : List (κ × V)} {kvs : List (κ × D)} {d : D}, KvAll K G ws kvs → getD kvs k = some d → ∃ v, valV ws k = some v ∧ Rp K G v d
  | _, _, d, .nil, e => by cases e
  | (k1, v) :: ws, (k2, d2) :: kvs, d, .cons r t, e => by
    obtain ⟨e1, rp⟩ := r
    have e1 : k1 = k2 := e1
    subst e1
    by_cases h : k1 = k
    · subst h
      unfold getD at e
      rw [List.find?_cons] at e
      simp at e
      subst e
      exact ⟨v, valV_pos rfl, rp⟩
    · have e' : getD kvs k = some d := by
        unfold getD at e ⊢
        rw [List.find?_cons] at e
        simp [h] at e ⊢
        exact e
      obtain ⟨v', h1, h2⟩ := kv_get t e'
      exact ⟨v', by rw [valV_neg h]; exact h1, h2⟩
theorem kv_none {K : Fg} {G : Hp} {κ : Type} [DecidableEq κ] {k : κ} : ∀ {ws : List (κ × V)} {kvs : List (κ × D)}, KvAll K G ws kvs → getD kvs k = none → valV ws k = none
  | _, _, .nil, e => rfl
  | (k1, v) :: ws, (k2, d2) :: kvs, .cons r t, e => by
    obtain ⟨e1, rp⟩ := r
    have e1 : k1 = k2 := e1
    subst e1
    by_cases h : k1 = k
    · subst h
      unfold getD at e
      rw [List.find?_cons] at e
      simp at e
    · have e' : getD kvs k = none := by
        unfold getD at e ⊢
        rw [List.find?_cons] at e
        simp [h] at e ⊢
        exact e
      rw [valV_neg h]
      exact kv_none t e'
theorem kv_any {K : Fg} {G : Hp} {κ : Type} [DecidableEq κ] {k : κ} : ∀ {ws : List (κ × V)} {kvs : List (κ × D)}, KvAll K G ws kvs → (ws.any fun kv => decide (kv.1 = k)) = (kvs.any fun kv => decide (kv.1 = k))
  | _, _, .nil => rfl
  | (k1, v) :: ws, (k2, d2) :: kvs, .cons r t => by
    obtain ⟨e1, rp⟩ := r
    have e1 : k1 = k2 := e1
    subst e1
    rw [List.any_cons, List.any_cons, kv_any t]
theorem kv_put {K : Fg} {G : Hp} {κ : Type} [DecidableEq κ] {k : κ} {v : V} {d : D} (rv : Rp K G v d) {ws : List (κ × V)} {kvs : List (κ × D)} (h : KvAll K G ws kvs) : KvAll K G (putK ws k v) (putD kvs k d) := by
  unfold putK putD
  rw [kv_any h]
  split
  · have go : ∀ {ws : List (κ × V)} {kvs : List (κ × D)}, KvAll K G ws kvs → KvAll K G (ws.map fun kv => if kv.1 = k then (kv.1, v) else kv) (kvs.map fun kv => if kv.1 = k then (kv.1, d) else kv) := by
      intro ws kvs h
      induction h with
      | nil => exact .nil
      | cons r t ih =>
        rename_i a b l1 l2
        refine .cons ?_ ih
        obtain ⟨k1, v1⟩ := a
        obtain ⟨k2, d1⟩ := b
        obtain ⟨e1, rp⟩ := r
        have e1 : k1 = k2 := e1
        subst e1
        dsimp only
        split
        · exact ⟨rfl, rv⟩
        · exact ⟨rfl, rp⟩
    exact go h
  · have go : ∀ {ws : List (κ × V)} {kvs : List (κ × D)}, KvAll K G ws kvs → KvAll K G (ws ++ [(k, v)]) (kvs ++ [(k, d)]) := by
      intro ws kvs h
      induction h with
      | nil => exact .cons ⟨rfl, rv⟩ .nil
      | cons r t ih => exact .cons r ih
    exact go h
/-- a key from data -/
def keyOf : D → Option L2.Key
  | .int i => some (.inl i)
  | .str x => some (.inr x)
  | _ => none
theorem keyOf_ok {K : Fg} {w : Wd} {x : V} {d : D} {k : L2.Key} (h : OdOk K w x (.d d)) (e : keyOf d = some k) : x = kV k := by
  unfold keyOf at e
  split at e
  · cases e; exact h.int
  · cases e; exact h.str
  · cases e
def keysOf : List D → Option (List L2.Key)
  | [] => some []
  | d :: r => match keyOf d, keysOf r with
    | some k, some l => some (k :: l)
    | _, _ => none
theorem rp_key {K : Fg} {H : Hp} {x : V} {d : D} {k : L2.Key} (h : Rp K H x d) (e : keyOf d = some k) : x = kV k := by
  unfold keyOf at e
  split at e
  · cases e; cases h; rfl
  · cases e; cases h; rfl
  · cases e
theorem keysOf_ok {K : Fg} {H : Hp} : ∀ {vs : List V} {ds : List D} {ks : List L2.Key}, RpAll K H vs ds → keysOf ds = some ks → vs = ks.map kV
  | _, _, ks, .nil, e => by
    cases e
    rfl
  | _, _, ks, .cons r t, e => by
    unfold keysOf at e
    split at e
    · rename_i k l h1 h2
      cases e
      rw [rp_key r h1, keysOf_ok t h2]
      rfl
    · cases e
/-- d[k] -/
def opDGet : Od → Od → Option Rv
  | .c (.k kvs), .d x => match keyOf x with
    | some k => match getD kvs k with
      | some d => some (.d d)
      | none => none
    | none => none
  | .c (.t kvs), .d (.tuple ds) => match keysOf ds with
    | some k => match getD kvs k with
      | some d => some (.d d)
      | none => none
    | none => none
  | _, _ => none
def keyT : D → Option (List L2.Key)
  | .tuple ds => keysOf ds
  | _ => none
def getT (es : List (D × D)) (k : List L2.Key) : Option D := (es.find? fun e => decide (keyT e.1 = some k)).map (·.2)
theorem keyOf_kD {k : L2.Key} : keyOf (kD k) = some k := by
  cases k <;> rfl
theorem keysOf_kD : ∀ {ks : List L2.Key}, keysOf (ks.map kD) = some ks
  | [] => rfl
  | k :: ks => by
    show (match keyOf (kD k), keysOf (ks.map kD) with
      | some k, some l => some (k :: l)
      | _, _ => none) = _
    rw [keyOf_kD, keysOf_kD]
theorem keyT_tupK {k : List L2.Key} : keyT (tupK k) = some k := keysOf_kD
/-- what a look into a dict gives -/
def look : Od → Od → Option (Option D)
  | .c (.k kvs), .d x => match keyOf x with
    | some k => some (getD kvs k)
    | none => none
  | .c (.t kvs), .d (.tuple ds) => match keysOf ds with
    | some k => some (getD kvs k)
    | none => none
  | .d (.dict ((.list [], .none) :: es)), .d (.tuple ds) => match keysOf ds with
    | some k => some (getT es k)
    | none => none
  | _, _ => none
def LkR (K : Fg) (G : Hp) : Option D → Option V → Prop
  | some d, r' => ∃ v, r' = some v ∧ Rp K G v d
  | none, r' => r' = none
theorem kt_get {K : Fg} {G : Hp} {k : List L2.Key} : ∀ {ws : List (List L2.Key × V)} {es : List (D × D)}, RpKt K G ws es → LkR K G (getT es k) (valV ws k)
  | _, _, .nil => rfl
  | _, _, .cons (k := k1) (v := v) (ws := ws) (d := d) (es := es) r t => by
    by_cases h : k1 = k
    · have e1 : getT ((tupK k1, d) :: es) k = some d := by
        unfold getT
        rw [List.find?_cons_of_pos (by rw [keyT_tupK, h]; exact decide_eq_true rfl)]
        rfl
      have e2 : valV ((k1, v) :: ws) k = some v := by
        unfold valV
        rw [List.find?_cons_of_pos (by exact decide_eq_true h)]
        rfl
      rw [e1, e2]
      exact ⟨v, rfl, r⟩
    · have e1 : getT ((tupK k1, d) :: es) k = getT es k := by
        unfold getT
        rw [List.find?_cons_of_neg (by rw [keyT_tupK]; simpa using h)]
      have e2 : valV ((k1, v) :: ws) k = valV ws k := by
        unfold valV
        rw [List.find?_cons_of_neg (by simpa using h)]
      rw [e1, e2]
      exact kt_get t
theorem look_ok {K : Fg} {w : Wd} {x y : V} {o o' : Od} {r : Option D} (hx : Same w.G w.H) (h : OdOk K w x o) (h' : OdOk K w y o') (e : look o o' = some r) : ∃ a r', x = .ref a ∧ DGet w.H a y r' ∧ LkR K w.G r r' := by
  unfold look at e
  split at e
  · rename_i kvs z
    split at e
    · rename_i k ek
      cases e
      obtain ⟨p, rfl, ⟨_, ws, hw, ra⟩, _⟩ := h
      refine ⟨p, valV ws k, rfl, ?_, ?_⟩
      · rw [keyOf_ok h' ek]
        exact DGet.k hw
      · cases e2 : getD kvs k with
        | none => exact kv_none ra e2
        | some d => exact kv_get ra e2
    · cases e
  · rename_i kvs z
    split at e
    · rename_i k ek
      cases e
      obtain ⟨p, rfl, ⟨_, ws, hw, ra⟩, _⟩ := h
      obtain ⟨q, vs, rfl, hq, rq⟩ := h'.tup
      refine ⟨p, valV ws k, rfl, ?_, ?_⟩
      · refine DGet.t hw ?_
        rw [← keysOf_ok rq ek]
        exact hx _ _ hq
      · cases e2 : getD kvs k with
        | none => exact kv_none ra e2
        | some d => exact kv_get ra e2
    · cases e
  · split at e
    · rename_i k ek
      cases e
      obtain ⟨p, od, ws, rfl, hw, ra⟩ := OdOk.dictT h
      obtain ⟨q, vs, rfl, hq, rq⟩ := h'.tup
      refine ⟨p, valV ws k, rfl, .inr ⟨ws, k, q, .inr ⟨od, hx _ _ hw⟩, rfl, ?_, rfl⟩, kt_get ra⟩
      rw [← keysOf_ok rq ek]
      exact hx _ _ hq
    · cases e
  · cases e
def opItem (o o' : Od) : Option Rv := match look o o' with
  | some (some d) => some (.d d)
  | _ => none
theorem e_item {o i : Expr} {co ci : CE} {pos : Pos} (hu : X.A.units + 1 < cLine) (h1 : Ex X ec W o co) (h2 : Ex X ec W i ci) (hs : NoSl i := by exact fun _ _ => rfl) : Ex X ec W (.Subscript o i pos) (cOp2 opItem co ci) := (pe_dget hu h1 h2 hs).imp fun σ H Q h =>
  op2 (r := fun x y H Q => ∃ a v, x = .ref a ∧ DGet H a y (some v) ∧ Q v H) (fun w x y o o' rv Q hx hx1 hx2 e q => by
    unfold opItem at e
    split at e
    · rename_i d ed
      cases e
      obtain ⟨a, r', rfl, g, q2⟩ := look_ok hx hx1 hx2 ed
      obtain ⟨v, rfl, rp⟩ := q2
      exact ⟨a, v, rfl, g, post_d q rp⟩
    · cases e) h
/-- a reading by the arguments' order turned -/
def cOp2r (f : Od → Od → Option Rv) (a b : CE) : CE := cOp2 (fun o o' => f o' o) a b
def opHas (o o' : Od) : Option Rv := match look o o' with
  | some r => some (.d (.bool r.isSome))
  | none => none
def opHasNot (o o' : Od) : Option Rv := match look o o' with
  | some r => some (.d (.bool (!r.isSome)))
  | none => none
theorem isSome_of {K : Fg} {G : Hp} {r : Option D} {r' : Option V} (h : LkR K G r r') : r'.isSome = r.isSome := by
  cases r with
  | none =>
    have h : r' = none := h
    rw [h]
    rfl
  | some d =>
    obtain ⟨v, e, _⟩ := h
    rw [e]
    rfl
theorem s_has {K : Fg} : Op2S K (fun y x H Q => ∃ a o, x = .ref a ∧ DGet H a y o ∧ Q (.bl o.isSome) H) (fun o o' => opHas o' o) := by
  intro w x y o o' rv Q hx hx1 hx2 e q
  have e : opHas o' o = some rv := e
  unfold opHas at e
  split at e
  · rename_i r er
    cases e
    obtain ⟨a, r', rfl, g, q2⟩ := look_ok hx hx2 hx1 er
    exact ⟨a, r', rfl, g, by rw [isSome_of q2]; exact post_bool q⟩
  · cases e
theorem s_hasNot {K : Fg} : Op2S K (fun y x H Q => ∃ a o, x = .ref a ∧ DGet H a y o ∧ Q (.bl (!o.isSome)) H) (fun o o' => opHasNot o' o) := by
  intro w x y o o' rv Q hx hx1 hx2 e q
  have e : opHasNot o' o = some rv := e
  unfold opHasNot at e
  split at e
  · rename_i r er
    cases e
    obtain ⟨a, r', rfl, g, q2⟩ := look_ok hx hx2 hx1 er
    exact ⟨a, r', rfl, g, by rw [isSome_of q2]; exact post_bool q⟩
  · cases e
theorem cB_rd {c : CE} {σ : L2.St} {H : Hp} {Q : Bool → Hp → Prop} (h : rdT X.K ec W (cB c) σ H Q) : rd X.K ec W c σ H fun x H' => ∃ k, x = .bl k ∧ Q k H' := by
  obtain ⟨w, s, rfl, hr, h⟩ := h
  unfold cB at h
  refine run_cv hr h fun x w1 s1 a le1 hr1 ha hn h1 => ?_
  split at h1
  · have ha : Rp X.K w1.G x (.bool _) := ha
    cases ha
    exact ⟨_, rfl, h1 w1 le1 hr1⟩
  · exact h1.elim
theorem e_has {i o : Expr} {ci co : CE} {pos : Pos} (hu : X.A.units + 1 < cLine) (h2 : Ex X ec W i ci) (h1 : Ex X ec W o co) (hm : behindInMarks .In o = false := by rfl) : Ex X ec W (.Compare i [.In] [o] pos) (cOp2r opHas ci co) := (pe_cmp (pc_din hu h2 h1) hm).imp fun σ H Q h => op2 s_has h
theorem e_hasNot {i o : Expr} {ci co : CE} {pos : Pos} (hu : X.A.units + 1 < cLine) (h2 : Ex X ec W i ci) (h1 : Ex X ec W o co) (hm : behindInMarks .NotIn o = false := by rfl) : Ex X ec W (.Compare i [.NotIn] [o] pos) (cOp2r opHasNot ci co) := (pe_cmp (pc_dnotin hu h2 h1) hm).imp fun σ H Q h => op2 s_hasNot h
/-- comparisons as tests -/
theorem t_cmp {op : CmpOp} {a b : Expr} {ca cb : CE} {r : R2} {f : Od → Od → Option Rv} {pos : Pos} (ho : OpR X (compareOp op) r) (hs : Op2S X.K r f) (ha : Ex X ec W a ca) (hb : Ex X ec W b cb) (hm : behindInMarks op b = false := by first | exact nomark _ | rfl) : Tx X ec W (.Compare a [op] [b] pos) (cB (cOp2 f ca cb)) :=
  (pt_cmpR ho ha hb hm).imp fun _ _ _ h => op2 hs (cB_rd h)
theorem t_has {i o : Expr} {ci co : CE} {pos : Pos} (hu : X.A.units + 1 < cLine) (h2 : Ex X ec W i ci) (h1 : Ex X ec W o co) (hm : behindInMarks .In o = false := by rfl) : Tx X ec W (.Compare i [.In] [o] pos) (cB (cOp2r opHas ci co)) := (pt_cmp (pc_din hu h2 h1) hm).imp fun σ H Q h => op2 s_has (cB_rd h)
theorem t_hasNot {i o : Expr} {ci co : CE} {pos : Pos} (hu : X.A.units + 1 < cLine) (h2 : Ex X ec W i ci) (h1 : Ex X ec W o co) (hm : behindInMarks .NotIn o = false := by rfl) : Tx X ec W (.Compare i [.NotIn] [o] pos) (cB (cOp2r opHasNot ci co)) := (pt_cmp (pc_dnotin hu h2 h1) hm).imp fun σ H Q h => op2 s_hasNot (cB_rd h)
/-- d[k] = v -/
def putIn : Cell → D → D → Option Cell
  | .k kvs, x, v => match keyOf x with
    | some k => if kvs.length < 16000000 then some (.k (putD kvs k v)) else none
    | none => none
  | .t kvs, .tuple ds, v => match keysOf ds with
    | some k => if kvs.length < 16000000 then some (.t (putD kvs k v)) else none
    | none => none
  | _, _, _ => none
theorem putIn_plain {c c' : Cell} {k d : D} (e : putIn c k d = some c') : c'.plain = true := by
  unfold putIn at e
  split at e
  · split at e
    · split at e
      · cases e
        rfl
      · cases e
    · cases e
  · split at e
    · split at e
      · cases e
        rfl
      · cases e
    · cases e
  · cases e
theorem lt16 {n : Nat} (h : n < 16000000) : n < sizeLine := Nat.lt_of_lt_of_le h (by decide)
theorem putIn_ok {K : Fg} {w : Wd} {p : Addr} {c c' : Cell} {y v : V} {k d : D} (hx : Same w.G w.H) (h : COk K w.G w.H p c) (hy : Rp K w.G y k) (hv : Rp K w.G v d) (e : putIn c k d = some c') :
    w.G p = none ∧ ∃ o, DPut w.H p y v (upd w.H p o) ∧ COk K w.G (upd w.H p o) p c' := by
  unfold putIn at e
  split at e
  · split at e
    · rename_i kvs x k' ek
      split at e
      · rename_i hl
        cases e
        obtain ⟨hg, ws, hw, ra⟩ := h
        refine ⟨hg, _, ?_, hg, _, upd_same, kv_put hv ra⟩
        rw [rp_key hy ek]
        exact DPut.k hw (by rw [paired_len ra]; exact lt16 hl)
      · cases e
    · cases e
  · split at e
    · rename_i kvs ds k' ek
      split at e
      · rename_i hl
        cases e
        obtain ⟨hg, ws, hw, ra⟩ := h
        cases hy with
        | tup hq rq =>
          refine ⟨hg, _, ?_, hg, _, upd_same, kv_put hv ra⟩
          refine DPut.t hw ?_ (by rw [paired_len ra]; exact lt16 hl)
          rw [← keysOf_ok rq ek]
          exact hx _ _ hq
      · cases e
    · cases e
  · cases e
def cPut (co ci cw : CE) : CS := fun s => (cv cw s).out fun v s1 => (cv co s1).out fun o s2 => (cv ci s2).out fun i s3 => match v, o, i with
  | .d v, .ref n, .d k => match s3.m[n]? with
    | some c => match putIn c k v with
      | some c' => .nx ⟨s3.v, s3.m.set n c'⟩
      | none => .bad
    | none => .bad
  | _, _, _ => .bad
theorem s_dput {o i e : Expr} {co ci ce : CE} {pos' pos : Pos} (hu : X.A.units + 1 < cLine) (ho : Ex X ec W o co) (hi : Ex X ec W i ci) (he : Ex X ec W e ce) (hs : swapsWith e (some (.Subscript o i pos')) pos.line X.env = pure false := by rfl) : Sx X ec W (.Assign [.Subscript o i pos'] e pos) (cPut co ci ce) :=
  (ps_dput hu ho hi he hs).imp fun D σ H h => by
    obtain ⟨w, s, rfl, hr, h⟩ := h
    refine run_ev hr h fun xv w1 s1 v le1 r1 o1 hn1 h1 => ?_
    refine run_ev r1 (h1.le le1) fun xo w2 s2 o le2 r2 o2 hn2 h2 => ?_
    refine run_ev r2 (h2.le le2) fun xi w3 s3 i le3 r3 o3 hn3 h3 => ?_
    cases v with
    | new _ => exact h3.elim
    | ref _ => exact h3.elim
    | d v =>
      cases o with
      | new _ => exact h3.elim
      | d _ => exact h3.elim
      | ref n =>
        cases i with
        | new _ => exact h3.elim
        | ref _ => exact h3.elim
        | d k =>
          dsimp only at h3
          cases em : s3.m[n]? with
          | none => rw [em] at h3; exact h3.elim
          | some c =>
            rw [em] at h3
            dsimp only at h3
            cases ep : putIn c k v with
            | none => rw [ep] at h3; exact h3.elim
            | some c' =>
              rw [ep] at h3
              obtain ⟨p, rfl, hp⟩ := o2
              have hp3 := le3.cell hp
              obtain ⟨hg, u, dp, hc⟩ := putIn_ok r3.mem.ext (r3.mem.cell n p c hp3 em) o3 (Rp.mono (le2.trans le3).g _ _ o1) ep
              obtain ⟨r4, le4⟩ := cell_set r3 hp3 hg hc (putIn_plain ep)
              exact ⟨p, upd w3.H p u, rfl, dp, h3 σ ⟨w3.G, w3.r, w3.F, upd w3.H p u⟩ (le3.trans le4) r4⟩
end
end Vm

namespace Vm
open PySem L2

/-! ### what others hold -/
theorem Gr.f' {w w' : Wd} (a : Gr w w') (F : Addr → Prop) : Gr (w.f F) (w'.f F) := ⟨a.r, rfl, a.g, a.h, a.e, a.n, a.t⟩
theorem Rel.f {K : Fg} {w : Wd} {σ : L2.St} {s : S} (r : Rel ec K w σ s) {F : Addr → Prop} (h : ∀ p, F p → w.G p = none ∧ p ∉ w.r ∧ ∃ o, w.H p = some o) (ht : TabOk ec F w.H) (hf : FT ec (w.f F)) : Rel ec K (w.f F) σ s :=
  ⟨⟨r.mem.ext, r.mem.len, r.mem.nd, r.mem.cell, h, ht, r.mem.inv, r.mem.gt, r.mem.nv.1, hf⟩, r.len, fun i sl e => by
    have q := r.slot i sl e
    cases sl with
    | u => trivial
    | d x => exact q
    | c n => exact q
    | x n => exact q
    | f => exact q⟩
/-- a new object that we hold for ourselves -/
abbrev Wd.hold (w : Wd) (p : Addr) (o : HO) : Wd := ⟨w.G, w.r, fun q => w.F q ∨ q = p, upd w.H p o⟩
theorem Rel.hold {K : Fg} {w : Wd} {σ : L2.St} {s : S} (r : Rel ec K w σ s) {p : Addr} {o : HO} (hp : w.H p = none) (n1 : NoTb o := by first | exact noTb_k | exact noTb_l | exact noTb_t) (n2 : NoTup o := by exact fun _ z => by cases z) : Rel ec K (w.hold p o) σ s := by
  have g := r.grow (gr_new (w := w) (o := o) hp)
  refine Rel.f g (F := fun q => w.F q ∨ q = p) (fun q hq => ?_) (g.mem.tab.f fun _ h => .inl h) fun q hq => hq.elim (fun hq => g.mem.nv.2 q hq) fun e => .inr ⟨o, by rw [e]; exact upd_same, n1, n2⟩
  rcases hq with hq | rfl
  · exact g.mem.fo q hq
  · refine ⟨r.mem.ext.free hp, fun m => ?_, o, upd_same⟩
    obtain ⟨u, hu⟩ := r.live m
    rw [hp] at hu
    cases hu
theorem Le.hold {w : Wd} {p : Addr} {o : HO} (hp : w.H p = none) : Le w ((w.hold p o).f w.F) := (gr_new (w := w) (o := o) hp).le
theorem Rel.new0 {K : Fg} {w : Wd} {σ : L2.St} {s : S} (r : Rel ec K w σ s) {p : Addr} (hp : w.H p = none) : ec.w.H p = none := by
  cases e : ec.w.H p with
  | none => rfl
  | some o =>
    by_cases m : p ∈ ec.w.r
    · obtain ⟨u, hu⟩ := r.live (r.mem.inv.mem m)
      rw [hp] at hu
      cases hu
    · obtain ⟨u, hu⟩ := r.mem.inv.kX e m
      rw [show w.H p = some u from hu] at hp
      cases hp
theorem nv_re {w : Wd} {m : List Cell} {p : Addr} {o : HO} (hp : p ∉ w.r) (n3 : NoTb o) (n4 : NoTup o) (h : NV ec w m) : NV ec ⟨w.G, w.r, w.F, upd w.H p o⟩ m := by
  refine ⟨fun t q n j ds e1 e2 => ?_, fun q hq => ?_⟩
  · obtain ⟨h1, h2⟩ := h.1 t q n j ds e1 e2
    refine ⟨h1, fun p' ks e3 e4 => ?_⟩
    obtain ⟨ws, k, e5, e6⟩ := h2 p' ks e3 e4
    refine ⟨ws, k, ?_, e6⟩
    show upd w.H p o p' = _
    have np : p' ≠ p := fun z => hp (z ▸ List.mem_of_getElem? e3)
    rw [upd_ne np]
    exact e5
  · by_cases e : q = p
    · exact .inr ⟨o, by rw [e]; exact upd_same, n3, n4⟩
    · rcases h.2 q hq with z | ⟨u, e2, z⟩
      · exact .inl z
      · refine .inr ⟨u, ?_, z⟩
        show upd w.H p o q = _
        rw [upd_ne e]
        exact e2
/-- what we held is changed, by us -/
theorem Rel.rehold {K : Fg} {w : Wd} {σ : L2.St} {s : S} (r : Rel ec K w σ s) {p : Addr} {o o0 : HO} (hp : w.F p) (hh : w.H p = some o0) (n1 : NoTb o0) (n2 : ∀ f, o0 ≠ .ext f) (hz : ec.w.H p = none) (n3 : NoTb o := by first | exact noTb_k | exact noTb_l | exact noTb_t) (n4 : NoTup o := by exact fun _ z => by cases z) : Rel ec K ⟨w.G, w.r, w.F, upd w.H p o⟩ σ s := by
  obtain ⟨h1, h2, u, h3⟩ := r.mem.fo p hp
  refine ⟨⟨fun b x e => ?_, r.mem.len, r.mem.nd, fun n q c e1 e2 => ?_, fun q hq => ?_, r.mem.tab.put hh n1 n2, ⟨r.mem.inv.g, fun a u e n => by
      obtain ⟨u', e1, q1⟩ := r.mem.inv.k a u e n
      refine ⟨u', ?_, q1⟩
      show upd w.H p o a = some u'
      rw [upd_ne (ne_of_none e hz)]
      exact e1, r.mem.inv.p, r.mem.inv.f, rfl⟩, r.mem.gt, nv_re h2 n3 n4 r.mem.nv⟩, r.len, fun i sl e => ?_⟩
  · show upd w.H p o b = some x
    have hb : b ≠ p := by
      intro z
      subst z
      have e : w.G b = some x := e
      rw [h1] at e
      cases e
    rw [upd_ne hb]
    exact r.mem.ext b x e
  · have hq : q ≠ p := fun z => by
      subst z
      exact h2 (List.mem_of_getElem? e1)
    have c0 := r.mem.cell n q c e1 e2
    refine cOk_mono (Same.refl _) (fun hc => ?_) (fun x _ e => ?_) c0
    · show w.G q = none
      cases c with
      | l ds => exact c0.1
      | k kvs => exact c0.1
      | t kvs => exact c0.1
      | r ks => exact c0.1
      | i n j ds => exact c0.1
      | gone => exact absurd rfl hc
    · show upd w.H p o q = some x
      rw [upd_ne hq]
      exact e
  · obtain ⟨a, b, x, hx⟩ := r.mem.fo q hq
    refine ⟨a, b, ?_⟩
    by_cases e : q = p
    · subst e
      exact ⟨o, upd_same⟩
    · refine ⟨x, ?_⟩
      show upd w.H p o q = some x
      rw [upd_ne e]
      exact hx
  · have q := r.slot i sl e
    cases sl with
    | u => trivial
    | d x => exact q
    | c n => exact q
    | f => exact q
    | x n =>
      obtain ⟨z1, a, z2, z3, z4⟩ := q
      refine ⟨z1, a, z2, z3, ?_⟩
      show upd w.H p o a = some _
      have na : a ≠ p := fun z => by
        subst z
        rw [hh] at z4
        unfold ExO at z4
        exact n2 _ (Option.some.inj z4)
      rw [upd_ne na]
      exact z4

section
variable {X : Cx} {ec : EC} {W : WX}
/-! ### a written dict -/
def mergeD (acc : List (L2.Key × D)) : List L2.Key → List D → List (L2.Key × D)
  | k :: ks, d :: ds => mergeD (putD acc k d) ks ds
  | _, _ => acc
theorem kv_merge {K : Fg} {G : Hp} : ∀ (ks : List L2.Key) {vs : List V} {ds : List D} {acc : List (L2.Key × V)} {acd : List (L2.Key × D)}, RpAll K G vs ds → KvAll K G acc acd → KvAll K G (mergeK acc (ks.zip vs)) (mergeD acd ks ds)
  | [], vs, ds, acc, acd, h, q => by
    cases ds <;> exact q
  | k :: ks, _, _, acc, acd, .nil, q => q
  | k :: ks, _, _, acc, acd, .cons r t, q => by
    show KvAll K G (mergeK (putK acc k _) (ks.zip _)) (mergeD (putD acd k _) ks _)
    exact kv_merge ks t (kv_put r q)
structure DP (X : Cx) (ec : EC) (W : WX) (pos : Pos) (keys : List (Option Expr)) (values : List Expr) (ks : List L2.Key) (ca : CA) : Prop where
  ex : ∃ trs, PPs X pos keys values trs ∧ ∀ σ H (Q : List (V × V) → Hp → Prop), rdA X.K ec W ca σ H (fun vs H1 => vs.length = ks.length → Q ((ks.map kV).zip vs) H1) → (∀ s ds s', ca s = .ok ds s' → ds.length = ks.length) → tPairs trs σ H Q
theorem dp_nil {pos : Pos} : DP X ec W pos [] [] [] cNil := ⟨[], pps_nil, fun σ H Q h _ => by
  obtain ⟨w, s, rfl, hr, h⟩ := h
  exact h [] w (Le.refl w) hr .nil rfl⟩
theorem rd_cons {c : CE} {ca : CA} {σ : L2.St} {H : Hp} {Q : List V → Hp → Prop} (h : rdA X.K ec W (cCons c ca) σ H Q) : rd X.K ec W c σ H fun x H1 => rdA X.K ec W ca σ H1 fun vs H2 => Q (x :: vs) H2 := by
  obtain ⟨w, s, rfl, hr, h⟩ := h
  refine run_cv hr h fun x w1 s1 a le1 hr1 ha hn h1 => ?_
  cases a with
  | ref n => exact h1.elim
  | new c => exact absurd rfl (hn c)
  | d y =>
    refine ⟨w1, s1, rfl, hr1, ?_⟩
    refine Res.mono h1.bind (fun ds s2 h2 vs w2 le2 hr2 rp => ?_) fun _ _ q => okE_le le1 q
    exact h2 (x :: vs) w2 (le1.trans le2) hr2 (.cons (Rp.mono le2.g _ _ ha) rp)
theorem dp_cons {pos : Pos} {k : Expr} {key : L2.Key} {v : Expr} {kes : List (Option Expr)} {vs : List Expr} {ks : List L2.Key} {c : CE} {ca : CA} {n : Nat} (hk : PE X k (tC (kV key))) (hv : Ex X ec W v c) (hr : DP X ec W pos kes vs ks ca) (hl : CLen n ca) (hn : ks.length = n) : DP X ec W pos (some k :: kes) (v :: vs) (key :: ks) (cCons c ca) := by
  obtain ⟨trs, h1, h2⟩ := hr.ex
  refine ⟨(tC (kV key), rd X.K ec W c) :: trs, pps_cons hk hv h1, fun σ H Q h _ => ?_⟩
  show rd X.K ec W c σ H fun y H2 => tPairs trs σ H2 fun ps H3 => Q ((kV key, y) :: ps) H3
  obtain ⟨w, s, e, hr, h3⟩ := rd_cons h
  refine ⟨w, s, e, hr, Res.mono h3 (fun rv s' q x w' le r' o f => ?_) fun _ _ q => q⟩
  refine h2 σ w'.H _ ?_ fun s ds s' e => by rw [hl s ds s' e, hn]
  obtain ⟨w2, s2, e2, r2, h4⟩ := q x w' le r' o f
  refine ⟨w2, s2, e2, r2, Res.mono h4 (fun ds s3 q3 vs w3 le3 r3 rp hlen => ?_) fun _ _ q => q⟩
  have e5 : (key :: ks).map kV = kV key :: ks.map kV := rfl
  have q4 := q3 vs w3 le3 r3 rp (by rw [List.length_cons, List.length_cons, hlen])
  rw [e5, List.zip_cons_cons] at q4
  exact q4
def cDisp (ks : List L2.Key) (ca : CA) : CE := fun s => (ca s).bind fun ds s1 => .ok (.new (.k (mergeD [] ks ds))) s1
theorem e_disp {keys : List (Option Expr)} {values : List Expr} {ks : List L2.Key} {ca : CA} {pos : Pos} (h : DP X ec W pos keys values ks ca) (hl : CLen ks.length ca) (h15 : ks.length ≤ 15) (hall : keys.all (·.isSome) = true := by rfl) (hle : keys.length = values.length := by rfl) (h0 : keys ≠ [] := by exact fun z => by cases z) (h15' : keys.length ≤ 15 := by decide) :
    Ex X ec W (.Dict keys values pos) (cDisp ks ca) := by
  obtain ⟨trs, h1, h2⟩ := h.ex
  refine (pe_disp h1 hall hle h0 h15').imp fun σ H Q h => ?_
  obtain ⟨w, s, rfl, hr, h⟩ := h
  intro p hp
  refine h2 σ _ _ ?_ fun s ds s' e => hl s ds s' e
  have hh := hr.hold (o := .dK []) hp
  refine ⟨w.hold p (.dK []), s, rfl, hh, ?_⟩
  have back : ∀ {w' : Wd} {s' : S}, Le (w.hold p (.dK [])) w' → Rel ec X.K w' σ s' → Le w (w'.f w.F) ∧ Rel ec X.K (w'.f w.F) σ s' := fun {w' s'} le r => by
    have hq' : ∀ q, w.F q → w'.F q := fun q hq => by
      rw [le.s]
      exact .inl hq
    exact ⟨(Le.hold hp).trans (le.ch w.F), r.f (fun q hq => r.mem.fo q (hq' q hq)) (hr.mem.tab.back r.mem.tab) fun q hq => r.mem.nv.2 q (hq' q hq)⟩
  unfold cDisp at h
  refine Res.mono h.bind (fun ds s1 q vs w1 le1 r1 ra hlen => ?_) fun e s' q w' le r => by
    obtain ⟨a, b⟩ := back le r
    exact q (w'.f w.F) a b
  have hF : w1.F p := by
    rw [le1.s]
    exact .inr rfl
  have hH : w1.H p = some (.dK []) := le1.kN (p := p) upd_same (fun m => by
    have m : p ∈ w.r := m
    obtain ⟨u, hu⟩ := hr.live m
    rw [hp] at hu
    cases hu) noTb_k
  refine ⟨hH, ks.zip vs, ?_, ?_, ?_⟩
  · have go : ∀ (ks : List L2.Key) (vs : List V), (ks.map kV).zip vs = (ks.zip vs).map fun kv => (kV kv.1, kv.2) := by
      intro ks
      induction ks with
      | nil => intro vs; rfl
      | cons k ks ih =>
        intro vs
        cases vs with
        | nil => rfl
        | cons v vs =>
          show (kV k, v) :: (ks.map kV).zip vs = (kV k, v) :: (ks.zip vs).map _
          rw [ih]
    exact go ks vs
  · rw [List.length_zip]
    exact Nat.le_trans (Nat.min_le_left _ _) h15
  · have r2 := r1.rehold (o := .dK (mergeK [] (ks.zip vs))) hF hH noTb_k (fun _ z => by cases z) (hr.new0 hp)
    obtain ⟨h3, h4, _⟩ := r1.mem.fo p hF
    have r3 : Rel ec X.K ⟨w1.G, w1.r, w.F, upd w1.H p (.dK (mergeK [] (ks.zip vs)))⟩ σ s1 := r2.f (fun q hq => r2.mem.fo q (by
      show w1.F q
      rw [le1.s]
      exact .inl hq)) (hr.mem.tab.back r2.mem.tab) fun q hq => r2.mem.nv.2 q (by
      show w1.F q
      rw [le1.s]
      exact .inl hq)
    have l3 : Le w ⟨w1.G, w1.r, w.F, upd w1.H p (.dK (mergeK [] (ks.zip vs)))⟩ := by
      have l1 := (Le.hold (o := .dK []) hp).trans (le1.ch w.F)
      refine ⟨l1.g, fun a u e n => ?_, l1.p, l1.f, rfl⟩
      obtain ⟨u', e', q'⟩ := l1.k a u e n
      refine ⟨u', ?_, q'⟩
      show upd w1.H p _ a = some u'
      rw [upd_ne (ne_of_none e hp)]
      exact e'
    have nf : ¬ w.F p := fun z => by
      obtain ⟨_, _, u, hu⟩ := hr.mem.fo p z
      rw [hp] at hu
      cases hu
    exact q (.ref p) ⟨w1.G, w1.r, w.F, upd w1.H p (.dK (mergeK [] (ks.zip vs)))⟩ l3 r3 ⟨p, rfl, ⟨h4, nf⟩, h3, _, upd_same, kv_merge ks ra .nil⟩ fun _ _ p' e => by
      cases e
      exact hp

/-! ### lists by their methods -/
/-- f takes the list and gives the answer and the list behind -/
def cMut (f : List D → List D → Option (D × List D)) (co : CE) (ca : CA) : CE := fun s => (cv co s).bind fun o s1 => match o with
  | .ref n => match s1.m[n]? with
    | some (.l _) => (ca s1).bind fun ds s2 => match s2.m[n]? with
      | some (.l xs) => match f xs ds with
        | some (d, ys) => .ok (.d d) ⟨s2.v, s2.m.set n (.l ys)⟩
        | none => .bad
      | _ => .bad
    | _ => .bad
  | _ => .bad
/-- the rule of a method by values does what f says -/
def MutS (K : Fg) (r : V → List V → Hp → VK → Prop) (f : List D → List D → Option (D × List D)) : Prop := ∀ (w : Wd) (p : Addr) (vs : List V) (xs : List D) (us : List V) (ds : List D) (d : D) (ys : List D) (Q : VK), Same w.G w.H → w.G p = none → w.H p = some (.lst vs) → RpAll K w.G vs xs → RpAll K w.G us ds →
  f xs ds = some (d, ys) → (∀ x zs, Rp K w.G x d → RpAll K w.G zs ys → Q x (upd w.H p (.lst zs))) → r (.ref p) us w.H Q
theorem mut_ok {r : V → List V → Hp → VK → Prop} {f : List D → List D → Option (D × List D)} (hs : MutS X.K r f) {co : CE} {ca : CA} {σ : L2.St} {H : Hp} {Q : VK} (h : rd X.K ec W (cMut f co ca) σ H Q) : rd X.K ec W co σ H fun x H1 => tyV X.K "list" x H1 ∧ rdA X.K ec W ca σ H1 fun us H2 => r x us H2 Q := by
  obtain ⟨w, s, rfl, hr, h⟩ := h
  refine run_cv hr h fun x w1 s1 o le1 r1 ho hn h1 => ?_
  cases o with
  | d y => exact h1.elim
  | new c => exact absurd rfl (hn c)
  | ref n =>
    dsimp only at h1
    obtain ⟨p, rfl, hp⟩ := ho
    split at h1
    · rename_i xs0 e0
      obtain ⟨hg0, vs0, hv0, _⟩ := r1.mem.cell n p _ hp e0
      refine ⟨.inl ⟨rfl, vs0, SqL.of hv0⟩, w1, s1, rfl, r1, ?_⟩
      refine Res.mono h1.bind (fun ds s2 h2 us w2 le2 r2 ra => ?_) fun _ _ q => okE_le le1 q
      split at h2
      · rename_i xs e1
        split at h2
        · rename_i d ys e2
          have hp2 := le2.cell hp
          obtain ⟨hg, vs, hv, rx⟩ := r2.mem.cell n p _ hp2 e1
          refine hs w2 p vs xs us ds d ys Q r2.mem.ext hg hv rx ra e2 fun x zs rd' rz => ?_
          obtain ⟨r3, le3⟩ := cell_set (c := .l ys) (o := .lst zs) r2 hp2 hg ⟨hg, zs, upd_same, rz⟩
          exact h2 x ⟨w2.G, w2.r, w2.F, upd w2.H p (.lst zs)⟩ ((le1.trans le2).trans le3) r3 rd' .d
        · exact h2.elim
      · exact h2.elim
    · exact h1.elim
theorem e_mut {r : V → List V → Hp → VK → Prop} {f : List D → List D → Option (D × List D)} {m : Str} {id : String} {o e : Expr} {es : List Expr} {apos cpos : Pos} {co : CE} {ca : CA} (hs : MutS X.K r f) (hm : MtR X id r) (slot : Slot "list" m id) (hty : typeOf (.builtin id) = pure (.type "method_descriptor"))
    (ho : Ex X ec W o co) (ha : PA X (e :: es) (rdA X.K ec W ca)) (hpe : ∀ {to : TE} {t : TA}, PE X o to → PA X (e :: es) t → PE X (.Call (.Attribute o m apos) (e :: es) [] cpos) (tBM X.K "list" r to t)) : Ex X ec W (.Call (.Attribute o m apos) (e :: es) [] cpos) (cMut f co ca) :=
  (hpe ho ha).imp fun σ H Q h => mut_ok hs h
theorem e_mut0 {r : V → List V → Hp → VK → Prop} {f : List D → List D → Option (D × List D)} {m : Str} {o : Expr} {apos cpos : Pos} {co : CE} (hs : MutS X.K r f) (ho : Ex X ec W o co) (hpe : ∀ {to : TE}, PE X o to → PE X (.Call (.Attribute o m apos) [] [] cpos) (tBM0 X.K "list" r to)) : Ex X ec W (.Call (.Attribute o m apos) [] [] cpos) (cMut f co cNil) :=
  (hpe ho).imp fun σ H Q h => by
    obtain ⟨w, s, e, hr, h⟩ := mut_ok hs h
    refine ⟨w, s, e, hr, Res.mono h (fun rv s' q x w' le r' o f => ?_) fun _ _ q => q⟩
    obtain ⟨h1, w2, s2, e2, r2, h2⟩ := q x w' le r' o f
    refine ⟨h1, ?_⟩
    rw [← e2]
    exact h2 [] w2 (Le.refl _) r2 .nil
def fApp : List D → List D → Option (D × List D)
  | xs, [d] => if xs.length < 16000000 then some (.none, xs ++ [d]) else none
  | _, _ => none
theorem m_append {K : Fg} : MutS K rAppend fApp := by
  intro w p vs xs us ds d ys Q hx hg hv rx ru e q
  unfold fApp at e
  split at e
  · split at e
    · rename_i d' hl
      cases e
      cases ru with
      | cons r1 r2 =>
        cases r2
        exact ⟨p, vs, _, rfl, rfl, hv, by rw [rx.length]; exact lt16 hl, q .non _ .non (rx.append (.cons r1 .nil))⟩
    · cases e
  · cases e
def fPop : List D → List D → Option (D × List D)
  | xs, [] => match xs[xs.length - 1]? with
    | some d => some (d, xs.dropLast)
    | none => none
  | _, _ => none
theorem rp_dropLast {K : Fg} {H : Hp} {vs : List V} {ds : List D} (h : RpAll K H vs ds) : RpAll K H vs.dropLast ds.dropLast := by
  rw [List.dropLast_eq_take, List.dropLast_eq_take, h.length]
  exact h.take _
theorem m_pop {K : Fg} : MutS K rPop fPop := by
  intro w p vs xs us ds d ys Q hx hg hv rx ru e q
  unfold fPop at e
  split at e
  · split at e
    · rename_i d' hd
      cases e
      cases ru
      obtain ⟨v, ev, rp⟩ := rx.get hd
      exact ⟨p, vs, v, rfl, rfl, hv, by rw [rx.length]; exact ev, q v _ rp (rp_dropLast rx)⟩
    · cases e
  · cases e
def fRev : List D → List D → Option (D × List D)
  | xs, [] => some (.none, xs.reverse)
  | _, _ => none
theorem m_reverse {K : Fg} : MutS K rReverse fRev := by
  intro w p vs xs us ds d ys Q hx hg hv rx ru e q
  unfold fRev at e
  split at e
  · cases e
    cases ru
    exact ⟨p, vs, rfl, rfl, hv, q .non _ .non rx.reverse⟩
  · cases e
def fClr : List D → List D → Option (D × List D)
  | _, [] => some (.none, [])
  | _, _ => none
theorem m_clear {K : Fg} : MutS K rClear fClr := by
  intro w p vs xs us ds d ys Q hx hg hv rx ru e q
  unfold fClr at e
  split at e
  · cases e
    cases ru
    exact ⟨p, vs, rfl, rfl, hv, q .non _ .non .nil⟩
  · cases e
/-- xs.extend(ys), ys a list by values -/
def fExt : List D → List D → Option (D × List D)
  | xs, [.list ys] => if xs.length + ys.length ≤ 16000000 then some (.none, xs ++ ys) else none
  | _, _ => none

/-- xs[i] = e -/
def cPutL (co ci cw : CE) : CS := fun s => (cv cw s).out fun v s1 => (cv co s1).out fun o s2 => (cv ci s2).out fun i s3 => match v, o, i with
  | .d v, .ref n, .d (.int k) => match s3.m[n]? with
    | some (.l xs) => match ixN xs.length k with
      | some j => .nx ⟨s3.v, s3.m.set n (.l (xs.set j v))⟩
      | none => .bad
    | _ => .bad
  | _, _, _ => .bad
theorem s_putL {o i e : Expr} {co ci ce : CE} {pos' pos : Pos} (ho : Ex X ec W o co) (hi : Ex X ec W i ci) (he : Ex X ec W e ce) (hs : swapsWithSole [.Subscript o i pos'] e pos.line X.env = pure false := by rfl) (hw : swappedStores [.Subscript o i pos'] e X.env = pure none := by rfl) (h1 : (assignEach [.Subscript o i pos'] X.env).map (·.2) = [assign (.Subscript o i pos') X.env] := by rfl)
    (ha : ∀ v, assign (.Subscript o i pos') X.env v = (do
      let ov ← holding [v] (eval o X.env)
      let iv ← holding [v, ov] (eval i X.env)
      standAt pos'
      holding [v, ov, iv] (setItem ov iv v)
      release [v, ov, iv] []) := by intro _; rfl) : Sx X ec W (.Assign [.Subscript o i pos'] e pos) (cPutL co ci ce) :=
  (ps_asg he (pg_sub ho hi set_list ha) hs hw h1).imp fun D σ H h => by
    obtain ⟨w, s, rfl, hr, h⟩ := h
    refine run_ev hr h fun xv w1 s1 v le1 r1 o1 hn1 h1 => ?_
    refine run_ev r1 (h1.le le1) fun xo w2 s2 o le2 r2 o2 hn2 h2 => ?_
    refine run_ev r2 (h2.le le2) fun xi w3 s3 i le3 r3 o3 hn3 h3 => ?_
    split at h3
    · rename_i d n k
      split at h3
      · rename_i xs em
        split at h3
        · rename_i j ej
          obtain ⟨p, rfl, hp⟩ := o2
          have o3 : Rp X.K w3.G xi (.int k) := o3
          cases o3
          have hp3 := le3.cell hp
          obtain ⟨hg, vs, hv, ra⟩ := r3.mem.cell n p _ hp3 em
          have rd' : Rp X.K w3.G xv d := Rp.mono (le2.trans le3).g _ _ o1
          obtain ⟨r4, le4⟩ := cell_set (c := .l (xs.set j d)) (o := .lst (vs.set j xv)) r3 hp3 hg ⟨hg, _, upd_same, ra.set rd' j⟩
          refine ⟨p, vs, k, j, rfl, rfl, hv, by rw [ra.length]; exact ej, ?_⟩
          exact h3 σ ⟨w3.G, w3.r, w3.F, upd w3.H p (.lst (vs.set j xv))⟩ (le3.trans le4) r4
        · exact h3.elim
      · exact h3.elim
    · exact h3.elim

/-! ### comprehensions -/
def R.nx {α : Type} : R α → R α
  | .ex _ _ => .bad
  | r => r
def wipeV (v : List Sl) : List Nat → List Sl
  | [] => v
  | i :: is => (wipeV v is).set i .u
abbrev W0 : WX := fun _ _ _ _ => False
def ctYes : CT := fun s => .ok true s
/-- the turns: what was kept so far, what is to come -/
def lcL (own : List Nat) (v0 : List Sl) (tg : Tg) (tt : CT) (el : CE) : List D → List D → List Cell → R Rv
  | [], acc, m => .ok (.new (.l acc)) ⟨v0, m⟩
  | d :: ds, acc, m => match tg d ⟨wipeV v0 own, m⟩ with
    | none => .bad
    | some s1 => (tt s1).nx.bind fun b s2 => if b = true then ((cv el s2).nx.bind fun a s3 => match a with
        | .d x => lcL own v0 tg tt el ds (acc ++ [x]) s3.m
        | _ => .bad) else lcL own v0 tg tt el ds acc s2.m
def cLc (own : List Nat) (ci : CI) (tg : Tg) (tt : CT) (el : CE) : CE := fun s => (ci s).bind fun ds s1 => if ds.length ≤ 16000000 then lcL own s1.v tg tt el ds [] s1.m else .bad
theorem rel_wipe {K : Fg} {w : Wd} {σ : L2.St} {v : List Sl} {m : List Cell} (r : Rel ec K w σ ⟨v, m⟩) : ∀ own : List Nat, Rel ec K w (wipe σ own) ⟨wipeV v own, m⟩
  | [] => r
  | i :: is => by
    have q := rel_wipe r is
    refine ⟨q.mem, by show ((wipe σ is).set i none).length = ((wipeV v is).set i .u).length; rw [List.length_set, List.length_set]; exact q.len, fun j sl e => ?_⟩
    have e : ((wipeV v is).set i .u)[j]? = some sl := e
    show SlOk ec K w ((wipe σ is).set i none)[j]? sl
    by_cases hj : i = j
    · subst hj
      by_cases hl : i < (wipeV v is).length
      · rw [List.getElem?_set_self hl] at e
        cases e
        trivial
      · rw [List.getElem?_eq_none (by rw [List.length_set]; omega)] at e
        cases e
    · rw [List.getElem?_set_ne hj] at e
      rw [List.getElem?_set_ne hj]
      exact q.slot j sl e
theorem wipe_off {own : List Nat} {σ σ' : L2.St} (h : Off own (wipe σ own) σ') : wipe σ' own = wipe σ own := by
  have key : ∀ (is : List Nat) (τ τ' : L2.St), τ'.length = τ.length → (∀ j, j ∉ is → τ'[j]? = τ[j]?) → wipe τ' is = wipe τ is := by
    intro is τ τ' hl hj
    refine List.ext_getElem? fun j => ?_
    by_cases hm : j ∈ is
    · have go : ∀ (is : List Nat) (τ : L2.St), j ∈ is → (wipe τ is)[j]? = if j < τ.length then some none else none := by
        intro is
        induction is with
        | nil => intro τ h; cases h
        | cons i is ih =>
          intro τ h
          show ((wipe τ is).set i none)[j]? = _
          by_cases hi : i = j
          · subst hi
            by_cases hl : i < τ.length
            · rw [List.getElem?_set_self (by rw [wipe_length]; exact hl), if_pos hl]
            · rw [List.getElem?_eq_none (by rw [List.length_set, wipe_length]; omega), if_neg hl]
          · rw [List.getElem?_set_ne hi]
            refine ih τ ?_
            rcases List.mem_cons.mp h with z | z
            · exact absurd z.symm hi
            · exact z
      rw [go is τ' hm, go is τ hm, hl]
    · rw [wipe_out hm, wipe_out hm]
      exact hj j hm
  have h2 : wipe σ' own = wipe (wipe σ own) own := key own _ _ h.1 h.2
  rw [h2]
  refine key own σ (wipe σ own) (wipe_length _ _) fun j hj => wipe_out hj
theorem t_yes {K : Fg} {σ : L2.St} {H : Hp} {Q : Bool → Hp → Prop} (h : rdT K ec W0 ctYes σ H Q) : tYes σ H Q := by
  obtain ⟨w, s, rfl, hr, h⟩ := h
  exact h w (Le.refl w) hr
theorem ts_nil {X : Cx} : PTs X [] (rdT X.K ec W0 ctYes) := ⟨fun pins s σ H Q I h => pts_nil.run pins s σ H Q I (t_yes h)⟩
theorem ts_one {X : Cx} {c : Expr} {ct : CT} (h : Tx X ec W0 c ct) : PTs X [c] (rdT X.K ec W0 ct) := pts_one h
theorem lc_read {σ : L2.St} {H : Hp} {Q : VK} {own : List Nat} {ci : CI} {tg : Tg} {tt : CT} {el : CE} (h : rd X.K ec W (cLc own ci tg tt el) σ H Q) :
    tLc (rdI X.K ec W ci) (rdG ec X.K own tg) (rdT X.K ec W0 tt) (rd X.K ec W0 el) own σ H Q := by
  obtain ⟨w, s, rfl, hr, h⟩ := h
  refine ⟨w, s, rfl, hr, ?_⟩
  unfold cLc at h
  cases e0 : ci s with
  | bad => rw [e0] at h; exact h
  | ex n s' => rw [e0] at h; exact h
  | ok ds s0 =>
    rw [e0] at h
    by_cases hz : ds.length ≤ 16000000
    · simp only [R.bind, hz, if_true] at h
      intro J w0 le0 r0 hJ Dp hD
      have h0 : FinV X.K ec W σ Q w0 (lcL own s0.v tg tt el ds [] s0.m) := FinV.le le0 h
      -- what holds between two turns
      refine ⟨fun i m H1 => ∃ w1 m1 acc vs, w1.H = H1 ∧ w1.F = (fun q => w0.F q ∨ q = Dp) ∧ Le w0 (w1.f w0.F) ∧ Rel ec X.K w1 σ ⟨s0.v, m1⟩ ∧ w1.H Dp = some (.lst vs) ∧ RpAll X.K w1.G vs acc ∧ acc.length ≤ i ∧ i + m = ds.length ∧ FinV X.K ec W σ Q w0 (lcL own s0.v tg tt el (ds.drop i) acc m1),
        ⟨ds.length, w0.hold Dp (.lst []), s0.m, [], [], rfl, rfl, Le.hold hD, r0.hold hD, upd_same, .nil, Nat.le_refl _, Nat.zero_add _, h0⟩, fun i m H1 hW => ?_⟩
      obtain ⟨w1, m1, acc, vs, rfl, hF, le1, r1, hd, ra, hacc, hm, h1⟩ := hW
      have r1f : Rel ec X.K (w1.f w0.F) σ ⟨s0.v, m1⟩ := r1.f (fun q hq => r1.mem.fo q (by rw [hF]; exact .inl hq)) (r0.mem.tab.back r1.mem.tab) fun q hq => r1.mem.nv.2 q (by rw [hF]; exact .inl hq)
      obtain ⟨hgo, hst⟩ := hJ (w1.f w0.F) le1 r1.mem.ext i
      have gD : w1.G Dp = none := (r1.mem.fo Dp (by rw [hF]; exact .inr rfl)).1
      have rD : Dp ∉ w1.r := (r1.mem.fo Dp (by rw [hF]; exact .inr rfl)).2.1
      have fD : ¬ w0.F Dp := fun z => by
        obtain ⟨_, _, o, ho⟩ := r0.mem.fo Dp z
        rw [hD] at ho
        cases ho
      by_cases hi : i < ds.length
      · have hdi : ds[i]? = some ds[i] := List.getElem?_eq_getElem hi
        obtain ⟨g1, g2⟩ := hgo _ hdi
        rw [List.drop_eq_getElem_cons hi] at h1
        unfold lcL at h1
        refine .inr ⟨g1, fun H' => ∃ w' m' acc' vs', w'.H = H' ∧ w'.F = (fun q => w0.F q ∨ q = Dp) ∧ Le w0 (w'.f w0.F) ∧ Rel ec X.K w' σ ⟨s0.v, m'⟩ ∧ w'.H Dp = some (.lst vs') ∧ RpAll X.K w'.G vs' acc' ∧ acc'.length ≤ i + 1 ∧ (i + 1) + (m - 1) = ds.length ∧ FinV X.K ec W σ Q w0 (lcL own s0.v tg tt el (ds.drop (i + 1)) acc' m'),
          fun H' ⟨w', m', acc', vs', a1, a2, a3, a4, a5, a6, a7, a8, a9⟩ => ⟨m - 1, by omega, w', m', acc', vs', a1, a2, a3, a4, a5, a6, a7, a8, a9⟩, fun x H' hy => ?_⟩
        obtain ⟨w2, gr, rfl, rp⟩ := g2 x H' hy
        have gr' : Gr w1 (w2.f w1.F) := ⟨gr.r, rfl, gr.g, gr.h, gr.e, gr.n, gr.t⟩
        have r2 : Rel ec X.K (w2.f w1.F) σ ⟨s0.v, m1⟩ := r1.grow gr'
        cases et : tg ds[i] ⟨wipeV s0.v own, m1⟩ with
        | none => rw [et] at h1; exact h1.elim
        | some s2 =>
          rw [et] at h1
          refine ⟨w2.f w1.F, ⟨wipeV s0.v own, m1⟩, ds[i], rfl, rel_wipe r2 own, rp, s2, et, fun σ' off r3 => ⟨wipe_off off, ?_⟩⟩
          dsimp only at h1
          -- the test
          refine ⟨w2.f w1.F, s2, rfl, r3, ?_⟩
          cases ett : tt s2 with
          | bad => rw [ett] at h1; exact h1.elim
          | ex n s' => rw [ett] at h1; exact h1.elim
          | ok b s3 =>
            rw [ett] at h1
            intro w3 le3 r4
            have hF3 : w3.F = (fun q => w0.F q ∨ q = Dp) := by rw [le3.s, ← hF]
            have lw3 : Le w0 (w3.f w0.F) := (le1.trans (gr'.le.ch w0.F)).trans (le3.ch w0.F)
            have d2 : (w2.f w1.F).H Dp = some (.lst vs) := gr.h _ _ hd
            have d3 : w3.H Dp = some (.lst vs) := le3.kN (p := Dp) d2 (by
              show Dp ∉ w2.r
              rw [gr.r]
              exact rD) noTb_l
            have ra3 : RpAll X.K w3.G vs acc := ra.mono (gr'.g.trans le3.g)
            have r4' : Rel ec X.K w3 σ ⟨s0.v, s3.m⟩ := rel_mem (m := m1) le3 r2 r4.mem
            cases b with
            | false =>
              rw [if_neg Bool.false_ne_true]
              simp only [R.nx, R.bind, Bool.false_eq_true, if_false] at h1
              exact ⟨w3, s3.m, acc, vs, rfl, hF3, lw3, r4', d3, ra3, by omega, by omega, h1⟩
            | true =>
              rw [if_pos rfl]
              simp only [R.nx, R.bind, if_true] at h1
              refine ⟨w3, s3, rfl, r4, ?_⟩
              unfold cv at h1
              cases eel : el s3 with
              | bad => simp only [eel, R.bind] at h1; exact h1.elim
              | ex n s' => simp only [eel, R.bind] at h1; exact h1.elim
              | ok a s4 =>
                simp only [eel, R.bind] at h1
                intro y w4 le4 r5 oa fr
                -- the element became data
                have go : ∀ (d : D) (w5 : Wd), w5.H = w4.H → Le w3 w5 → Rel ec X.K w5 σ' s4 → Rp X.K w5.G y d → FinV X.K ec W σ Q w0 (lcL own s0.v tg tt el (ds.drop (i + 1)) (acc ++ [d]) s4.m) → ∃ acc', w4.H Dp = some (.lst acc') ∧ acc'.length < sizeLine ∧ ∃ w' m' acc'' vs', w'.H = upd w4.H Dp (.lst (acc' ++ [y])) ∧ w'.F = (fun q => w0.F q ∨ q = Dp) ∧ Le w0 (w'.f w0.F) ∧ Rel ec X.K w' σ ⟨s0.v, m'⟩ ∧ w'.H Dp = some (.lst vs') ∧ RpAll X.K w'.G vs' acc'' ∧ acc''.length ≤ i + 1 ∧ (i + 1) + (m - 1) = ds.length ∧ FinV X.K ec W σ Q w0 (lcL own s0.v tg tt el (ds.drop (i + 1)) acc'' m') := by
                  intro d w5 eH le5 r6 rpd h4
                  have hF5 : w5.F = (fun q => w0.F q ∨ q = Dp) := by rw [le5.s, hF3]
                  have d5 : w5.H Dp = some (.lst vs) := le5.kN d3 (r4'.mem.fo Dp (by rw [hF3]; exact .inr rfl)).2.1 noTb_l
                  have ra5 : RpAll X.K w5.G vs acc := ra3.mono le5.g
                  have r6' : Rel ec X.K w5 σ ⟨s0.v, s4.m⟩ := rel_mem (m := s3.m) le5 r4' r6.mem
                  have fD5 : w5.F Dp := by rw [hF5]; exact .inr rfl
                  have r7 := r6'.rehold (o := .lst (vs ++ [y])) fD5 d5 noTb_l (fun _ z => by cases z) (r0.new0 hD)
                  have lw5 : Le w0 (w5.f w0.F) := lw3.trans (le5.ch w0.F)
                  have lw7 : Le w0 ((⟨w5.G, w5.r, w5.F, upd w5.H Dp (.lst (vs ++ [y]))⟩ : Wd).f w0.F) := ⟨lw5.g, fun q u e n => by
                    obtain ⟨u', e', q'⟩ := lw5.k q u e n
                    refine ⟨u', ?_, q'⟩
                    show upd w5.H Dp _ q = some u'
                    rw [upd_ne (ne_of_none e hD)]
                    exact e', lw5.p, lw5.f, rfl⟩
                  rw [← eH]
                  refine ⟨vs, d5, ?_, ⟨w5.G, w5.r, w5.F, upd w5.H Dp (.lst (vs ++ [y]))⟩, s4.m, acc ++ [d], vs ++ [y], rfl, hF5, lw7, r7, upd_same, ra5.append (.cons rpd .nil), ?_, by omega, h4⟩
                  · rw [ra5.length]
                    exact lt16 (by omega)
                  · rw [List.length_append]
                    show acc.length + 1 ≤ i + 1
                    omega
                cases a with
                | ref n => exact h1.elim
                | d d => exact go d w4 rfl le4 r5 oa h1
                | new c =>
                  cases ed : c.D? with
                  | none => simp only [ed] at h1; exact h1.elim
                  | some d =>
                    simp only [ed] at h1
                    obtain ⟨G', r6, le6, rp6⟩ := freeze r5 oa (d := d) ed
                    exact go d ⟨G', w4.r, w4.F, w4.H⟩ rfl (le4.trans le6) r6 rp6 h1
      · refine .inl ⟨hst (by omega), ?_⟩
        rw [List.drop_eq_nil_of_le (by omega)] at h1
        exact h1 (.ref Dp) (w1.f w0.F) le1 r1f ⟨Dp, rfl, ⟨rD, fD⟩, gD, vs, hd, ra⟩ fun _ _ p e => by
          cases e
          exact hD
    · simp only [R.bind, hz, if_false] at h
      exact h.elim
theorem e_lc {elt tgt iter : Expr} {ifs : List Expr} {scope : Scope} {own : List (Str × Nat)} {pos : Pos} {ci : CI} {tg : Tg} {tt : CT} {el : CE} (hN : X.N.Nodup) (ok : BlkOk X.N X.env.scope scope own) (hi : Ix X ec W tgt iter ci)
    (hg : ∀ (s : Shared) (H : Hp) (C : Addr) (cl : List (Str × Addr)) (fp : List Addr), PG (X.blk s H scope (compEnvC scope cl C X.env) fp) tgt (rdG ec X.K (own.map (·.2)) tg))
    (ht : ∀ (s : Shared) (H : Hp) (C : Addr) (cl : List (Str × Addr)) (fp : List Addr), PTs (X.blk s H scope (compEnvC scope cl C X.env) fp) ifs (rdT X.K ec W0 tt))
    (he : ∀ (s : Shared) (H : Hp) (C : Addr) (cl : List (Str × Addr)) (fp : List Addr), PE (X.blk s H scope (compEnvC scope cl C X.env) fp) elt (rd X.K ec W0 el)) (hcal : X.calm = true := by rfl) (hs : ∀ x, foldedSetIterable iter X.env x = pure x := by intro _; rfl) :
    Ex X ec W (.ListComp elt [⟨tgt, iter, ifs, 0⟩] scope pos) (cLc (own.map (·.2)) ci tg tt el) := (pe_lc hcal hN hi ok hg ht he hs).imp fun σ H Q h => lc_read h
/-- name = [..] on one line -/
theorem lc_set {D : Ends} {σ : L2.St} {H : Hp} {own : List Nat} {ci : CI} {tg : Tg} {tt : CT} {el : CE} {i : Nat} {g : TG} (h : tAsg (rd X.K ec W (cLc own ci tg tt el)) g D σ H) : tAsg (tLc (rdI X.K ec W ci) (rdG ec X.K own tg) (rdT X.K ec W0 tt) (rd X.K ec W0 el) own) g D σ H := lc_read h
theorem s_setLc (i : Nat) {y : Str} {py : Pos} {elt tgt iter : Expr} {ifs : List Expr} {scope : Scope} {own : List (Str × Nat)} {pos spos : Pos} {ci : CI} {tg : Tg} {tt : CT} {el : CE} (hN : X.N.Nodup) (ok : BlkOk X.N X.env.scope scope own) (hi : Ix X ec W tgt iter ci)
    (hg : ∀ (s : Shared) (H : Hp) (C : Addr) (cl : List (Str × Addr)) (fp : List Addr), PG (X.blk s H scope (compEnvC scope cl C X.env) fp) tgt (rdG ec X.K (own.map (·.2)) tg))
    (ht : ∀ (s : Shared) (H : Hp) (C : Addr) (cl : List (Str × Addr)) (fp : List Addr), PTs (X.blk s H scope (compEnvC scope cl C X.env) fp) ifs (rdT X.K ec W0 tt))
    (he : ∀ (s : Shared) (H : Hp) (C : Addr) (cl : List (Str × Addr)) (fp : List Addr), PE (X.blk s H scope (compEnvC scope cl C X.env) fp) elt (rd X.K ec W0 el)) (hcal : X.calm = true := by rfl) (hy : X.N[i]? = some y := by rfl) (hyl : X.env.scope.names.lookup y = some .local := by rfl)
    (hsw : swapsWith (.ListComp elt [⟨tgt, iter, ifs, 0⟩] scope pos) (some (.Name y py)) spos.line X.env = pure true := by exact sw_true rfl rfl rfl (by decide +kernel)) (hs : ∀ x, foldedSetIterable iter X.env x = pure x := by intro _; rfl) :
    Sx X ec W (.Assign [.Name y py] (.ListComp elt [⟨tgt, iter, ifs, 0⟩] scope pos) spos) (cSet i (cLc (own.map (·.2)) ci tg tt el)) :=
  (ps_setLc hcal hN hy hyl hsw hi ok hg ht he hs).imp fun D σ H h => lc_set (i := i) (rd_set h)
theorem s_setLcM (i : Nat) {y : Str} {py : Pos} {elt tgt iter : Expr} {ifs : List Expr} {scope : Scope} {own : List (Str × Nat)} {pos spos : Pos} {ci : CI} {tg : Tg} {tt : CT} {el : CE} (hN : X.N.Nodup) (ok : BlkOk X.N X.env.scope scope own) (hi : Ix X ec W tgt iter ci)
    (hg : ∀ (s : Shared) (H : Hp) (C : Addr) (cl : List (Str × Addr)) (fp : List Addr), PG (X.blk s H scope (compEnvC scope cl C X.env) fp) tgt (rdG ec X.K (own.map (·.2)) tg))
    (ht : ∀ (s : Shared) (H : Hp) (C : Addr) (cl : List (Str × Addr)) (fp : List Addr), PTs (X.blk s H scope (compEnvC scope cl C X.env) fp) ifs (rdT X.K ec W0 tt))
    (he : ∀ (s : Shared) (H : Hp) (C : Addr) (cl : List (Str × Addr)) (fp : List Addr), PE (X.blk s H scope (compEnvC scope cl C X.env) fp) elt (rd X.K ec W0 el)) (hcal : X.calm = true := by rfl) (hy : X.N[i]? = some y := by rfl) (hyl : X.env.scope.names.lookup y = some .local := by rfl)
    (hsw : swapsWith (.ListComp elt [⟨tgt, iter, ifs, 0⟩] scope pos) (some (.Name y py)) spos.line X.env = pure true := by exact sw_true rfl rfl rfl (by decide +kernel)) (hs : ∀ x, foldedSetIterable iter X.env x = pure x := by intro _; rfl) :
    Sx X ec W (.Assign [.Name y py] (.ListComp elt [⟨tgt, iter, ifs, 0⟩] scope pos) spos) (cSetM i (cLc (own.map (·.2)) ci tg tt el)) :=
  (ps_setLc hcal hN hy hyl hsw hi ok hg ht he hs).imp fun D σ H h => lc_set (i := i) (rd_setM h)
end
end Vm

namespace Vm
open PySem L2
section
variable {X : Cx} {ec : EC} {W : WX}
/-! ### slices -/
def cutD {α : Type} (xs : List α) (lo hi : Option Int) : List α := (xs.drop (HT.sIx xs.length 0 lo)).take (HT.sIx xs.length xs.length hi - HT.sIx xs.length 0 lo)
theorem rp_cut {K : Fg} {G : Hp} {vs : List V} {ds : List D} (lo hi : Option Int) (h : RpAll K G vs ds) : RpAll K G (cutV vs lo hi) (cutD ds lo hi) := by
  unfold cutV cutD
  rw [h.length]
  exact (h.drop _).take _
theorem SlR.or {r r' : V → Option Int → Option Int → Hp → VK → Prop} (h : SlR X r) (h' : SlR X r') : SlR X (fun x lo hi H Q => r x lo hi H Q ∨ r' x lo hi H Q) := by
  intro pins s σ H x v vl vu lo hi sl Q I rx hs pl pu hh
  rcases hh with hh | hh
  · exact h pins s σ H x v vl vu lo hi sl Q I rx hs pl pu hh
  · exact h' pins s σ H x v vl vu lo hi sl Q I rx hs pl pu hh
def rSlV (K : Fg) : V → Option Int → Option Int → Hp → VK → Prop := fun x lo hi H Q => rSlL K x lo hi H Q ∨ rSlA K x lo hi H Q
theorem slr_V : SlR X (rSlV X.K) := SlR.or sl_list sl_tupA
def opSl : Od → Option Int → Option Int → Option Rv
  | .d (.list ds), lo, hi => some (.new (.l (cutD ds lo hi)))
  | .d (.tuple ds), lo, hi => some (.d (.tuple (cutD ds lo hi)))
  | _, _, _ => none
theorem cut_whole {α : Type} {xs : List α} {lo hi : Option Int} (h : HT.sIx xs.length 0 lo = 0 ∧ HT.sIx xs.length xs.length hi = xs.length) : cutD xs lo hi = xs := by
  unfold cutD
  rw [h.1, h.2, List.drop_zero, Nat.sub_zero, List.take_length]
theorem s_sl {K : Fg} {w : Wd} {x : V} {o : Od} {lo hi : Option Int} {rv : Rv} {Q : VK} (hx : Same w.G w.H) (h : OdOk K w x o) (e : opSl o lo hi = some rv) (q : Post K w rv Q) : rSlV K x lo hi w.H Q := by
  unfold opSl at e
  split at e
  · cases e
    obtain ⟨p, vs, rfl, hs, ra⟩ := h.list hx
    exact .inl ⟨p, vs, rfl, hs, fun a ha => post_lst q (rp_cut lo hi ra) ha hx⟩
  · cases e
    obtain ⟨p, vs, rfl, hs, ra⟩ := h.tup
    refine .inr ⟨p, vs, rfl, SqT.of (hx _ _ hs), fun hw => ?_, fun hw a ha => post_tup q (rp_cut lo hi ra) ha hx⟩
    rw [ra.length] at hw
    rw [cut_whole hw] at q
    exact post_d q (.tup hs ra)
  · cases e
def cI (c : CE) : S → R Int := fun s => (cv c s).bind fun a s1 => match a with
  | .d (.int i) => .ok i s1
  | _ => .bad
def cPt : Option CE → S → R (Option Int)
  | none => fun s => .ok none s
  | some c => fun s => (cI c s).bind fun i s1 => .ok (some i) s1
def rdO (K : Fg) (ec : EC) (W : WX) (c : S → R (Option Int)) : TO := fun σ H Q => ∃ w s, w.H = H ∧ Rel ec K w σ s ∧ Res (fun o s' => ∀ w', Le w w' → Rel ec K w' σ s' → Q o w'.H) (okE K ec W σ w) (c s)
theorem PO.imp {e : Option Expr} {t t' : TO} (h : PO X e t) (i : ∀ σ H Q, t' σ H Q → t σ H Q) : PO X e t' := ⟨fun pins s σ H Q I q => h.run pins s σ H Q I (i _ _ _ q)⟩
theorem o_none : PO X none (rdO X.K ec W (cPt none)) := PO.imp po_none fun σ H Q h => by
  obtain ⟨w, s, rfl, hr, h⟩ := h
  exact h w (Le.refl w) hr
theorem run_i {K : Fg} {σ : L2.St} {w : Wd} {s : S} {α : Type} {c : CE} {k : Int → S → R α} {P : α → S → Prop} {Q : VK} (hr : Rel ec K w σ s) (h : Res P (okE K ec W σ w) ((cI c s).bind k))
    (hk : ∀ i w1 s1, Le w w1 → Rel ec K w1 σ s1 → Res P (okE K ec W σ w) (k i s1) → Q (.int i) w1.H) : rd K ec W c σ w.H Q := by
  have h' : Res P (okE K ec W σ w) ((cv c s).bind fun a s1 => (match a with
    | .d (.int b) => R.ok b s1
    | _ => R.bad).bind k) := by
    unfold cI at h
    cases e : cv c s with
    | bad => rw [e] at h; exact h
    | ex n s' => rw [e] at h; exact h
    | ok a s' => rw [e] at h; exact h
  refine run_cv hr h' fun x w1 s1 a le1 hr1 ha hn h1 => ?_
  cases a with
  | ref n => exact h1.elim
  | new c => exact h1.elim
  | d y =>
    cases y with
    | int b =>
      have e : x = .int b := by
        have ha : Rp K w1.G x (.int b) := ha
        cases ha
        rfl
      rw [e]
      exact hk b w1 s1 le1 hr1 h1
    | none => exact h1.elim
    | bool _ => exact h1.elim
    | str _ => exact h1.elim
    | list _ => exact h1.elim
    | tuple _ => exact h1.elim
    | dict _ => exact h1.elim
theorem o_some {e : Expr} {c : CE} (h : Ex X ec W e c) : PO X (some e) (rdO X.K ec W (cPt (some c))) := PO.imp (po_some h) fun σ H Q h => by
  obtain ⟨w, s, rfl, hr, h⟩ := h
  exact run_i hr h fun i w1 s1 le1 r1 h1 => ⟨i, rfl, h1 w1 le1 r1⟩
def cSl (c : CE) (lo hi : S → R (Option Int)) : CE := fun s => (cv c s).bind fun a s1 => (lo s1).bind fun l s2 => (hi s2).bind fun u s3 => opt (a.od s3.m) fun o => opt (opSl o l u) fun rv => .ok rv s3
theorem run_o {K : Fg} {σ : L2.St} {w : Wd} {s : S} {α : Type} {c : S → R (Option Int)} {k : Option Int → S → R α} {P : α → S → Prop} {Q : Option Int → Hp → Prop} (hr : Rel ec K w σ s) (h : Res P (okE K ec W σ w) ((c s).bind k))
    (hk : ∀ b w1 s1, Le w w1 → Rel ec K w1 σ s1 → Res P (okE K ec W σ w) (k b s1) → Q b w1.H) : rdO K ec W c σ w.H Q := by
  refine ⟨w, s, rfl, hr, ?_⟩
  cases e : c s with
  | bad => rw [e] at h; exact h
  | ex n s' => rw [e] at h; exact h
  | ok b s' =>
    rw [e] at h
    exact fun w' le r' => hk b w' s' le r' h
theorem e_sl {e : Expr} {lo hi : Option Expr} {c : CE} {cl ch : S → R (Option Int)} {p2 pos : Pos} (he : Ex X ec W e c) (hl : PO X lo (rdO X.K ec W cl)) (hh : PO X hi (rdO X.K ec W ch)) : Ex X ec W (.Subscript e (.Slice lo hi none p2) pos) (cSl c cl ch) :=
  (pe_slice slr_V he hl hh).imp fun σ H Q h => by
    obtain ⟨w, s, rfl, hr, h⟩ := h
    refine run_cv hr h fun x w1 s1 a le1 r1 ha hn h1 => ?_
    refine run_o r1 (Res.mono h1 (fun _ _ q => q) fun _ _ q => okE_le le1 q) fun l w2 s2 le2 r2 h2 => ?_
    refine run_o r2 (Res.mono h2 (fun _ _ q => q) fun _ _ q => okE_le le2 q) fun u w3 s3 le3 r3 h3 => ?_
    obtain ⟨o, e1, h4⟩ := h3.opt
    obtain ⟨rv, e2, h5⟩ := h4.opt
    exact s_sl r3.mem.ext (od_of r3 (ha.le hn (le2.trans le3)) e1) e2 (post_of r3 fun z w' le r' o f => h5 z w' (((le1.trans le2).trans le3).trans le) r' o (f.back ((le1.trans le2).trans le3) le o))

/-! ### a < b < c -/
def cChain (f g : Od → Od → Option Rv) (a b c : CE) : CE := fun s => (cv a s).bind fun x s1 => (cv b s1).bind fun y s2 => opt (x.od s2.m) fun o => opt (y.od s2.m) fun o' => opt (f o o') fun rv => match rv with
  | .d (.bool true) => (cv c s2).bind fun z s3 => opt (y.od s3.m) fun p => opt (z.od s3.m) fun p' => opt (g p p') fun rv' => .ok rv' s3
  | .d (.bool false) => .ok (.d (.bool false)) s2
  | _ => .bad
theorem chain_rd {ca cb cc : CE} {r r' : R2} {f g : Od → Od → Option Rv} {σ : L2.St} {H : Hp} {Q : VK} (hs : Op2S X.K r f) (hs' : Op2S X.K r' g) (h : rd X.K ec W (cChain f g ca cb cc) σ H Q) : tChain r r' (rd X.K ec W ca) (rd X.K ec W cb) (rd X.K ec W cc) σ H Q := by
  obtain ⟨w, s, rfl, hr, h⟩ := h
  refine run_cv hr h fun x w1 s1 a le1 hr1 ha hn h1 => ?_
  refine run_cv hr1 (Res.mono h1 (fun _ _ q => q) fun _ _ q => okE_le le1 q) fun y w2 s2 b le2 hr2 hb hn2 h2 => ?_
  obtain ⟨o, e1, h2⟩ := h2.opt
  obtain ⟨o', e2, h2⟩ := h2.opt
  obtain ⟨rv, e3, h3⟩ := h2.opt
  refine hs w2 x y o o' rv _ hr2.mem.ext (od_of hr2 (ha.le hn le2) e1) (od_of hr2 hb e2) e3 fun z w3 gr rn => ?_
  have hr3 := hr2.grow gr
  have le3 := gr.le
  split at h3
  · have rn : Rp X.K w3.G z (.bool true) := rn
    cases rn
    refine ⟨true, rfl, iteT ?_⟩
    refine run_cv hr3 (Res.mono h3 (fun _ _ q => q) fun _ _ q => okE_le (le2.trans le3) q) fun z w4 s4 d le4 hr4 hd hn4 h4 => ?_
    obtain ⟨p, e4, h4⟩ := h4.opt
    obtain ⟨p', e5, h4⟩ := h4.opt
    obtain ⟨rv', e6, h5⟩ := h4.opt
    exact hs' w4 y z p p' rv' Q hr4.mem.ext (od_of hr4 (hb.le hn2 (le3.trans le4)) e4) (od_of hr4 hd e5) e6 (post_of hr4 fun z w' le r' o f => h5 z w' ((((le1.trans le2).trans le3).trans le4).trans le) r' o (f.back (((le1.trans le2).trans le3).trans le4) le o))
  · have rn : Rp X.K w3.G z (.bool false) := rn
    cases rn
    exact ⟨false, rfl, iteF (h3 (.bl false) w3 ((le1.trans le2).trans le3) hr3 (.bl false) .d)⟩
  · exact h3.elim
theorem e_chain {op op' : CmpOp} {a b c : Expr} {ca cb cc : CE} {r r' : R2} {f g : Od → Od → Option Rv} {pos : Pos} (ho : OpR X (compareOp op) r) (ho' : OpR X (compareOp op') r') (hs : Op2S X.K r f) (hs' : Op2S X.K r' g) (ha : Ex X ec W a ca) (hb : Ex X ec W b cb) (hc : Ex X ec W c cc)
    (hm : lastMarks [op, op'] [b, c] = false := by with_unfolding_all rfl) : Ex X ec W (.Compare a [op, op'] [b, c] pos) (cChain f g ca cb cc) := (pe_chain ho ho' ha hb hc hm).imp fun σ H Q h => chain_rd hs hs' h
theorem t_chain {op op' : CmpOp} {a b c : Expr} {ca cb cc : CE} {r r' : R2} {f g : Od → Od → Option Rv} {pos : Pos} (ho : OpR X (compareOp op) r) (ho' : OpR X (compareOp op') r') (hs : Op2S X.K r f) (hs' : Op2S X.K r' g) (ha : Ex X ec W a ca) (hb : Ex X ec W b cb) (hc : Ex X ec W c cc)
    (hm : lastMarks [op, op'] [b, c] = false := by with_unfolding_all rfl) : Tx X ec W (.Compare a [op, op'] [b, c] pos) (cB (cChain f g ca cb cc)) := (pt_chain ho ho' ha hb hc hm).imp fun σ H Q h => chain_rd hs hs' (cB_rd h)
end
end Vm

namespace Vm
open PySem L2 PySem.Spec PyProof.Rows

/-! ### defs of the text and their promises -/
structure DefF (K : Fg) (mg : Str → Option Value) (x : Str) (st : Stmt) (ps : List Str) : Prop where
  ex : ∃ f fd, Fun K x x st f fd ∧ mg x = some (.ref f) ∧ ∀ us : List Value, us.length = ps.length → bindArgs fd ⟨us, []⟩ = pure (ps.zip us)
theorem defF_mk {K : Fg} {mg : Str → Option Value} {x : Str} {st : Stmt} {ps : List Str} {f : Addr} {oc : Value} {od an : Option Addr} {osl : Array (Option Value)} {kV doc pm cdv ct : Value} (hm : mg x = some (.ref f))
    (l : K.lookup f = some ⟨oc, od, .func (PySem.W.fnOf x x (defArgs st) (defBody st) (defScope st) .none kV doc pm an cdv ct), osl⟩) (c : PySem.W.codeIn K cdv x = true) (k : PySem.W.keepIn K (.ref f) = true)
    (h : ∀ (kV doc pm : Value) (an : Option Addr) (cdv ct : Value) (us : List Value), us.length = ps.length → bindArgs (PySem.W.fnOf x x (defArgs st) (defBody st) (defScope st) .none kV doc pm an cdv ct) ⟨us, []⟩ = pure (ps.zip us)) : DefF K mg x st ps :=
  ⟨f, _, fun_mk l c k, hm, h _ _ _ _ _ _⟩
def Cal (P : Program) (wo : World) (K : Fg) (mg : Str → Option Value) (base : Heap) (ec : EC) (x : Str) (ps : List Str) (f : Fn) (k : Nat) : Prop :=
  ∃ fa fd oc od osl, K.lookup fa = some ⟨oc, od, .func fd, osl⟩ ∧ FnG P wo K mg base k fa fd ps (spF K ec ps.length f) ∧ mg x = some (.ref fa) ∧ PySem.W.keepIn K (.ref fa) = true ∧ Binds K fd ps []
section
variable {P : Program} {wo : World} {K : Fg} {mg : Str → Option Value} {base : Heap} {ec : EC} {x : Str} {st : Stmt} {ps : List Str} {k : Nat} {f : Fn}
theorem DefF.cal (D : DefF K mg x st ps) (h : ∀ {fa : Addr} {fd : FuncData}, Fun K x x st fa fd → FnG P wo K mg base k fa fd ps (spF K ec ps.length f)) : Cal P wo K mg base ec x ps f k := by
  obtain ⟨fa, fd, F, hm, hb⟩ := D.ex
  obtain ⟨oc, od, kV, doc, pm, an, cdv, ct, osl, e, lk, _⟩ := F.ex
  exact ⟨fa, fd, oc, od, osl, lk, h F, hm, F.kp, .all hb⟩
theorem DefF.cal0 (D : DefF K mg x st ps) (k : Nat) (h : ∀ as m, f as m = .bad) : Cal P wo K mg base ec x ps f k :=
  D.cal fun _ => ⟨fun _ _ _ _ q => q.1, fun _ _ _ _ q => by
    obtain ⟨_, w, m, as, _, _, _, q⟩ := q
    rw [h as m] at q
    exact q.elim⟩
end
section
variable {X : Cx} {ec : EC} {W : WX}
theorem e_callC {k : Nat} {ps : List Str} {f : Fn} {x : Str} {p pos : Pos} {e : Expr} {es : List Expr} {cl : CL} (C : Cal X.prog X.w X.K X.mg X.base ec x ps f k) (hr : Rg k X.A)
    (tk : Takes X W) (ha : PA X (e :: es) (rdL X.K ec W cl)) (hl : LLen ps.length cl) (hg : Gl X x := by rfl) (hdb : (x == ("__debug__" : Str)) = false := by decide) (he : starEach (e :: es) X.env = (false, eval e X.env) :: starEach es X.env := by rfl)
    (hpl : (backTo pos (starEach es X.env)).any (·.1) = false := by rfl) : Ex X ec W (.Call (.Name x p) (e :: es) [] pos) (cCall f cl) := by
  obtain ⟨fa, fd, oc, od, osl, lk, F, hm, hk, hb⟩ := C
  exact e_call F hr hm hk hb tk ha hl hg hdb he hpl
/-- a call that is handed data alone: it runs by itself, our cells held back -/
def Sl.isD : Sl → Bool
  | .d _ => true
  | _ => false
def RF.pure (s : S) : RF → R Rv
  | .ok (.d x) _ => .ok (.d x) s
  | .ok (.new c) _ => .ok (.new c) s
  | .ex e _ => .ex e s
  | _ => .bad
def cCallP (f : Fn) (cl : CL) : CE := fun s => (cl s).bind fun as s1 => if as.all Sl.isD = true then (f as []).pure s1 else .bad
theorem args_data {K : Fg} {w w' : Wd} (g : w.G = w'.G) {vs : List V} {as : List Sl} (h : ArgsOk ec K w vs as) : as.all Sl.isD = true → ArgsOk ec K w' vs as := by
  induction h with
  | nil => exact fun _ => .nil
  | cons r t ih =>
    intro hd
    rw [List.all_cons, Bool.and_eq_true] at hd
    refine .cons ?_ (ih hd.2)
    rename_i v sl vs as
    cases sl with
    | u => trivial
    | d x =>
      obtain ⟨u, e, q⟩ := r
      exact ⟨u, e, g ▸ q⟩
    | c n => exact absurd hd.1 (by simp [Sl.isD])
    | x n => exact absurd hd.1 (by simp [Sl.isD])
    | f => exact absurd hd.1 (by simp [Sl.isD])
theorem nv_back {w1 w' : Wd} {m : List Cell} {G : Hp} (hk : ∀ a o, w1.H a = some o → ∃ o', w'.H a = some o' ∧ (NoTb o → o' = o)) (h : NV ec w1 m) (hf : ∀ p, w1.F p → p ∈ ec.T.map (·.1) ∨ ∃ o, w'.H p = some o ∧ NoTb o ∧ NoTup o) : NV ec ⟨G, w1.r, w1.F, w'.H⟩ m := by
  refine ⟨fun t q n j ds e1 e2 => ?_, hf⟩
  obtain ⟨h1, h2⟩ := h.1 t q n j ds e1 e2
  refine ⟨h1, fun p' ks e3 e4 => ?_⟩
  obtain ⟨ws, k, e5, e6⟩ := h2 p' ks e3 e4
  obtain ⟨o', e7, z⟩ := hk p' _ e5
  exact ⟨ws, k, by rw [z noTb_t] at e7; exact e7, e6⟩
theorem mem_out {K : Fg} {w1 w' : Wd} {σ : L2.St} {s : S} {m' : List Cell} (r1 : Rel ec K w1 σ s) (le : Le ⟨w1.G, [], fun p => w1.F p ∨ (p ∈ w1.r ∧ w1.G p = none), w1.H⟩ w') (mm : Mem ec K w' m') : Rel ec K ⟨w'.G, w1.r, w1.F, w'.H⟩ σ s ∧ Le w1 ⟨w'.G, w1.r, w1.F, w'.H⟩ := by
  have hk : ∀ a o, w1.H a = some o → ∃ o', w'.H a = some o' ∧ (NoTb o → o' = o) := fun a o e => le.k a o e (by simp)
  have le' : Le w1 ⟨w'.G, w1.r, w1.F, w'.H⟩ := ⟨le.g, fun a o e _ => hk a o e, List.prefix_refl _, fun _ h => .inl h, rfl⟩
  refine ⟨⟨⟨mm.ext, r1.mem.len, r1.mem.nd, fun n p c h1 h2 => ?_, fun p hp => ?_, r1.mem.tab.back mm.tab, r1.mem.inv.trans (le'.ch _), mm.gt, nv_back hk r1.mem.nv fun p hp => mm.nv.2 p (by rw [le.s]; exact .inl hp)⟩, r1.len, fun i sl e => slOk_mono le' (r1.slot i sl e)⟩, le'⟩
  · have c0 := r1.mem.cell n p c h1 h2
    refine cOk_mono le.g (fun hc => ?_) (fun o hc e => ?_) c0
    rotate_left
    · obtain ⟨o', e1, q⟩ := hk p o e
      have hn : NoTb o := by
        cases c with
        | l ds =>
          obtain ⟨_, vs, hv, _⟩ := c0
          rw [hv] at e
          cases e
          exact noTb_l
        | k kvs =>
          obtain ⟨_, vs, hv, _⟩ := c0
          rw [hv] at e
          cases e
          exact noTb_k
        | t kvs =>
          obtain ⟨_, vs, hv, _⟩ := c0
          rw [hv] at e
          cases e
          exact noTb_t
        | r kvs =>
          obtain ⟨_, vs, hv, _⟩ := c0
          rw [hv] at e
          cases e
          exact noTb_t
        | i n' j' kvs =>
          obtain ⟨_, vs, hv, _⟩ := c0
          rw [hv] at e
          cases e
          exact noTb_l
        | gone => exact absurd rfl hc
      rw [e1, q hn]
    have hg : w1.G p = none := by
      cases c with
      | l ds => exact c0.1
      | k kvs => exact c0.1
      | t kvs => exact c0.1
      | r ks => exact c0.1
      | i n' j' ds => exact c0.1
      | gone => exact absurd rfl hc
    exact (mm.fo p (by rw [le.s]; exact .inr ⟨List.mem_of_getElem? h1, hg⟩)).1
  · obtain ⟨a, b, c⟩ := mm.fo p (by rw [le.s]; exact .inl hp)
    exact ⟨a, (r1.mem.fo p hp).2.1, c⟩
theorem e_callP {k : Nat} {ps : List Str} {f : Fn} {x : Str} {p pos : Pos} {e : Expr} {es : List Expr} {cl : CL} (C : Cal X.prog X.w X.K X.mg X.base ec x ps f k) (hr : Rg k X.A)
    (tk : Takes X W) (ha : PA X (e :: es) (rdL X.K ec W cl)) (hl : LLen ps.length cl) (hg : Gl X x := by rfl) (hdb : (x == ("__debug__" : Str)) = false := by decide) (he : starEach (e :: es) X.env = (false, eval e X.env) :: starEach es X.env := by rfl)
    (hpl : (backTo pos (starEach es X.env)).any (·.1) = false := by rfl) (hw : ec.w = bot := by assumption) : Ex X ec W (.Call (.Name x p) (e :: es) [] pos) (cCallP f cl) := by
  obtain ⟨fa, fd, oc, od, osl, lk, F, hm, hk, hb⟩ := C
  exact (pe_callG F hr hg hm hk hb (fun σ => passAt tk σ) ha hdb he hpl).imp fun σ H Q h => by
    obtain ⟨w, s, rfl, hr, h⟩ := h
    refine ⟨w, s, rfl, hr, ?_⟩
    unfold cCallP at h
    cases e1 : cl s with
    | bad => rw [e1] at h; exact h
    | ex n s' => rw [e1] at h; exact h
    | ok as s1 =>
      rw [e1] at h
      intro vs w1 le1 r1 ao
      have h1 : Res (okV ec X.K w σ Q) (okE X.K ec W σ w) (if as.all Sl.isD = true then (f as []).pure s1 else .bad) := h
      by_cases hd : as.all Sl.isD = true
      · rw [if_pos hd] at h1
        refine ⟨by rw [paired_len ao]; exact hl _ _ _ e1, ⟨w1.G, [], fun p => w1.F p ∨ (p ∈ w1.r ∧ w1.G p = none), w1.H⟩, [], as, rfl, ⟨r1.mem.ext, rfl, List.nodup_nil, fun n p c h _ => by simp at h, fun p hp => ?_, r1.mem.tab.f fun _ h => .inl h, by rw [hw]; exact Le.bot _, r1.mem.gt, ⟨fun t q n j ds e1 => by simp at e1, fun p hp => hp.elim (fun hp => r1.mem.nv.2 p hp) fun hp => .inr (by obtain ⟨n, e⟩ := List.getElem?_of_mem hp.1; exact r1.liveT e hp.2)⟩⟩, args_data (w := w1) (w' := ⟨w1.G, [], fun p => w1.F p ∨ (p ∈ w1.r ∧ w1.G p = none), w1.H⟩) rfl ao hd, ?_⟩
        · rcases hp with hp | hp
          · obtain ⟨a, b, c⟩ := r1.mem.fo p hp
            exact ⟨a, by simp, c⟩
          · exact ⟨hp.2, by simp, r1.live hp.1⟩
        · cases e2 : f as [] with
          | bad => rw [e2] at h1; exact h1
          | ex n m' =>
            rw [e2] at h1
            intro w2 le2 m2
            obtain ⟨r3, le3⟩ := mem_out r1 le2 m2
            exact h1 ⟨w2.G, w1.r, w1.F, w2.H⟩ (le1.trans le3) r3
          | ok a m' =>
            rw [e2] at h1
            intro x w2 le2 m2 o fr
            obtain ⟨r3, le3⟩ := mem_out r1 le2 m2
            cases a with
            | ref n => exact h1.elim
            | d y => exact h1 x ⟨w2.G, w1.r, w1.F, w2.H⟩ (le1.trans le3) r3 o .d
            | new c =>
              obtain ⟨p, ex, ⟨hp1, hp2⟩, hc⟩ := o
              have hf : w1.H p = none := fr c rfl p ex
              have hnr : p ∉ w1.r := fun hm => by
                obtain ⟨o, ho⟩ := r1.live hm
                rw [hf] at ho
                cases ho
              have hnF : ¬ w1.F p := fun hF => hp2 (by rw [le2.s]; exact .inl hF)
              have o3 : RvOk X.K ⟨w2.G, w1.r, w1.F, w2.H⟩ x (.new c) := ⟨p, ex, ⟨hnr, hnF⟩, hc⟩
              have f3 : FrR w1 x (.new c) := fun c' ec p' ep => fr c' ec p' ep
              exact h1 x ⟨w2.G, w1.r, w1.F, w2.H⟩ (le1.trans le3) r3 o3 (FrR.back le1 le3 o3 f3)
      · rw [if_neg hd] at h1
        exact h1.elim
theorem e_globI {x : Str} {i : Int} {pos : Pos} (h : ∃ t, X.mg x = some (.int i t)) (hg : Gl X x := by rfl) (hb : (x == ("__debug__" : Str)) = false := by decide) : Ex X ec W (.Name x pos) (cC (.int i)) := by
  obtain ⟨t, h⟩ := h
  exact e_glob (v := .int i) h ⟨t, rfl⟩ (fun _ => .int i) hg hb
end
/-! ### the law -/
def spLaw (K : Fg) (f : Fn) (T : List (Addr × Str)) : Sp := fun vs H Q E => (∀ q ∈ T, H q.1 = some (.tbl #[]) ∧ K.lookup q.1 = none) ∧ ∃ (a : Addr) (ns : List Int), vs = [.ref a] ∧ SqL K H a (ns.map V.int) ∧ f [.d (.list (ns.map PyData.int))] [] = .ok (.d (.bool true)) [] ∧ ∀ H', Q (.bl true) H'
theorem spLaw_in {K : Fg} {f : Fn} {H : Hp} {a : Addr} {ns : List Int} (hS : SqL K H a (ns.map V.int)) (h : f [.d (.list (ns.map PyData.int))] [] = .ok (.d (.bool true)) []) : spLaw K f [] [.ref a] H (fun v _ => v = .bl true) fun _ _ _ => False :=
  ⟨(fun q hq => nomatch hq), a, ns, rfl, hS, h, fun _ => rfl⟩
theorem cx_none {P : Program} {w : World} {H : Hp} {s : Shared} {e : Value} {s' : Shared} (h : L2.CX P w [] H s (fun _ _ _ => False) e s') : False := by
  obtain ⟨_, _, _, _, _, _, _, _, _, _, _, _, z⟩ := h
  exact z
/-- the ground at the start: all but the tables -/
def gndT (H : Hp) : Hp := fun b => match H b with
  | some (.tbl _) => none
  | x => x
theorem gndT_no {H : Hp} {b : Addr} {o : HO} (h : H b = some o) (n : NoTb o) : gndT H b = some o := by
  unfold gndT
  rw [h]
  split
  · rename_i ps e
    exact absurd (Option.some.inj e) (n ps)
  · rfl
theorem gndT_t {H : Hp} {b : Addr} {ps : Array Value} (h : H b = some (.tbl ps)) : gndT H b = none := by
  unfold gndT
  rw [h]
theorem gndT_of {H : Hp} {b : Addr} {o : HO} (h : gndT H b = some o) : H b = some o ∧ NoTb o := by
  unfold gndT at h
  split at h
  · cases h
  · rename_i x e
    exact ⟨h, fun ps z => e ps (by rw [h, z])⟩
theorem spLaw_spF {K : Fg} {ec : EC} (hw : ec.w = bot) {f : Fn} {vs : List V} {H : Hp} {Q : VK} {E : XK} (h : spLaw K f ec.T vs H Q E) : spF K ec 1 f vs H Q E := by
  obtain ⟨hT, a, ns, rfl, hS, hf, q⟩ := h
  have hS' : SqL K (gndT H) a (ns.map V.int) := by
    rcases hS with (h | ⟨o, h⟩) | h
    · exact .inl (.inl (gndT_no h noTb_l))
    · exact .inl (.inr ⟨o, gndT_no h fun _ z => by cases z⟩)
    · exact .inr h
  refine ⟨rfl, ⟨gndT H, [], fun b => b ∈ ec.T.map (·.1), H⟩, [], [.d (.list (ns.map PyData.int))], rfl, ⟨fun b u e => (gndT_of e).1, rfl, List.nodup_nil, fun n p c h _ => by simp at h, fun p h => ?_, fun q hq => ?_, ?_, fun b o e => (gndT_of e).2, ⟨fun t q n j ds e1 => by simp at e1, fun p hp => .inl hp⟩⟩, .cons ⟨.ref a, rfl, .lst hS' (rpAll_ints ns)⟩ .nil, ?_⟩
  · obtain ⟨q, hq, e⟩ := List.mem_map.mp h
    exact ⟨by rw [← e]; exact gndT_t (hT q hq).1, by simp, _, by rw [← e]; exact (hT q hq).1⟩
  · exact ⟨List.mem_map.mpr ⟨q, hq, rfl⟩, LamX.TabS.nil (hT q hq).1⟩
  · rw [hw]
    exact Le.bot _
  rw [hf]
  intro x w' _ _ hx _
  have hx : Rp K w'.G x (.bool true) := hx
  cases hx
  exact q _
theorem spLaw_of {P : Program} {wo : World} {K : Fg} {mg : Str → Option Value} {ec : EC} (hw : ec.w = bot) {x : Str} {st : Stmt} {k : Nat} {f : Fn} {fa : Addr} (D : DefF K mg x st ["_law_script"]) (hfa : mg x = some (.ref fa))
    (C : ∀ base : Heap, K.In base → base.Ns mainGlobals mg → Cal P wo K mg base ec x ["_law_script"] f k) :
    ∃ fd : FuncData, (∀ (s : Shared) (v : Value), BindsTo s fd ⟨[v], []⟩ [("_law_script", v)]) ∧ ∀ base : Heap, K.In base → base.Ns mainGlobals mg → FnG P wo K mg base k fa fd ["_law_script"] (spLaw K f ec.T) := by
  obtain ⟨fa', fd, F, hm, hb⟩ := D.ex
  rw [hfa] at hm
  cases hm
  obtain ⟨oc, od, kV, doc, pm, an, cdv, ct, osl, e, lk, _⟩ := F.ex
  refine ⟨fd, fun s v => .of_eq (hb [v] rfl), fun base h1 h2 => ?_⟩
  obtain ⟨fa2, fd2, oc2, od2, osl2, lk2, F2, hm2, _, _⟩ := C base h1 h2
  rw [hfa] at hm2
  cases hm2
  rw [lk] at lk2
  cases lk2
  exact F2.imp fun vs H Q E q => spLaw_spF hw q
/-- the law's call, from the caller's place -/
theorem walkG {l : PySem.W.OpenLaw} {n k : Nat} {q : Program} {loose : List Str} {XP : (Str → Option Value) → Heap → Prop} {YP : World → Heap → Prop} {d : DefRec} {K : Params → PySem.W.Frag} {f : Fn}
    (hn : l.most = some n) (hn2 : n ≤ sizeLine) (hdf : d.params.defaults = []) (hr : Room k callerA) (hY : ∀ (w : World) (h : Heap), YP w h → (K w.params).In h)
    (F : ∀ (w : World) (mg : Str → Option Value) (fa : Addr) (h : Heap), (K w.params).In h → h.Ns mainGlobals mg → mg d.name = some (.ref fa) →
      ∃ fd : FuncData, (∀ (s : Shared) (u : Value), BindsTo s fd ⟨[u], []⟩ [("_law_script", u)]) ∧ ∀ base : Heap, (K w.params).In base → base.Ns mainGlobals mg → FnG l.prog w (K w.params) mg base k fa fd ["_law_script"] (spLaw (K w.params) f []))
    (hf : ∀ ns : List Int, ns.length ≤ n → f [.d (.list (ns.map PyData.int))] [] = .ok (.d (.bool true)) []) : PySem.W.WalkO q loose XP YP l.row.toRowW d [] (fun g vs => PySem.call g vs) := by
  refine Att.attach_call hn hdf fun w s₀ s₁ mg mb fa o pm cd doc a vs ns G Y _ _ _ hmg hobj hints hlen hg => ?_
  have KX := hY w _ Y
  obtain ⟨fd, hb, FF⟩ := F w mg fa _ KX G.T.g hmg
  have T := G.T
  have rv := vals_ints hints
  have lz := hints.length
  have l16 := Nat.le_trans hlen hn2
  have main : ∀ H : Hp, Only H → SqL (K w.params) H a (ns.map V.int) → HOk l.prog w H s₁.heap → (∀ b, H b ≠ none → b = a) → (H a ≠ none → (K w.params).lookup a = none) →
      codeAny (model l.prog w) callerA (.call (.ref fa) ⟨[.ref a], []⟩) (fun r s' => r = .ok (.ret (.bool true)) ∧ OldK s₁.heap s'.heap ∧ s'.os = s₁.os ∧ AllBare s'.gens) s₁ := by
    intro H only seq ok1 own1 own2
    have hid : ∀ {b : Addr} {o : Obj}, s₁.heap.get? b = some o → H b = none → (hidT s₁.heap H).get? b = some o := fun e z => hidT_get e z
    have dic : ∀ {b : Addr} {o : Obj} {es : Array DictEntry} {ep : Nat}, s₁.heap.get? b = some o → o.data = .dict es ep → H b = none := fun {b o es ep} e dd => by
      rcases z : H b with _ | u
      · rfl
      · have eb : b = a := own1 b (by rw [z]; simp)
        subst eb
        rw [hobj] at e
        cases e
        exact nomatch (show Data.seq vs.toArray _ = Data.dict es ep from dd)
    have nsT : ∀ {b : Addr} {mm : Str → Option Value}, s₁.heap.Ns b mm → (hidT s₁.heap H).Ns b mm := fun {b mm} ⟨o, es, ep, e, dd, r⟩ => ⟨o, es, ep, hid e (dic e dd), dd, r⟩
    have inB : (K w.params).In (hidT s₁.heap H) := fun b o e => hid (KX b o e) (by
      rcases z : H b with _ | u
      · rfl
      · have eb : b = a := own1 b (by rw [z]; simp)
        subst eb
        rw [own2 (by rw [z]; simp)] at e
        cases e)
    have md : Mod (K w.params) mg (hidT s₁.heap H) := ⟨inB, nsT T.g, ⟨mb, nsT T.b, T.builtins⟩, let ⟨mc, z1, z2⟩ := T.nolimit; ⟨mc, nsT z1, z2⟩⟩
    have e0 : Env0 l.prog w (K w.params) mg (hidT s₁.heap H) callerA [] s₁ H := ⟨rfl, md, fun b o e => of_hidT e, Nat.le_of_eq (hidT_size _ _), trivial, fun b z => absurd (show b ∈ ([] : List Addr) from z) (by simp), ok1, .of_eq hg⟩
    refine codeAny_mono ((FF _ inB (nsT T.g)).go (us := [.ref a]) (vs := [.ref a]) ⟨hr, rfl⟩ e0 (hb s₁ (.ref a)) (.cons rfl .nil) (spLaw_in seq (hf ns hlen))) fun r s2 z => ?_
    rcases r with e | fl
    · exact (cx_none z).elim
    cases fl with
    | next => exact z.elim
    | brk => exact z.elim
    | cont => exact z.elim
    | ret u =>
      obtain ⟨v, H2, os, bare, un, ok2, rv2, ve⟩ := z
      have ve : v = .bl true := ve
      subst ve
      obtain rfl : u = Value.bool true := rv2
      refine ⟨rfl, OldK.of_keep fun b o e => ?_, os, bare⟩
      rcases z : H b with _ | u
      · exact un.keep b o e z (by intro zz; exact absurd (show b ∈ ([] : List Addr) from zz) (by simp)) (by simp)
      · rcases only b with y | ⟨ob, xs, y⟩
        · rw [z] at y
          cases y
        · obtain ⟨e1, _⟩ := ok1 b _ y
          obtain ⟨e2, _⟩ := ok2 b _ (un.frzs b ob _ y)
          rw [e] at e1
          cases e1
          exact e2
  rcases lk : (K w.params).lookup a with _ | o1
  · refine main (fun b => if b = a then some (.frz { cls := .type "list", data := .seq vs.toArray } (.lst (ns.map V.int))) else none) (fun b => ?_) (.inl (.inr ⟨{ cls := .type "list", data := .seq vs.toArray }, if_pos rfl⟩)) (fun b u z => ?_) (fun b z => ?_) fun _ => lk
    · by_cases e : b = a
      · exact .inr ⟨_, _, if_pos e⟩
      · exact .inl (if_neg e)
    · by_cases e : b = a
      · have z := (if_pos e).symm.trans z
        cases z
        subst e
        exact ⟨hobj, by rw [List.length_map]; exact l16, vs, _, rv, hobj⟩
      · exact nomatch (if_neg e).symm.trans z
    · by_cases e : b = a
      · exact e
      · exact absurd (if_neg e) z
  · have e := KX a o1 lk
    rw [hobj] at e
    cases e
    exact main (fun _ => none) (fun _ => .inl rfl) (.inr ⟨_, vs.toArray, _, lk, rfl, rfl, rfl, by rw [List.size_toArray, lz]; exact l16, by simpa using rv⟩) (fun b u z => nomatch (show (none : Option HO) = some u from z)) (fun b z => absurd rfl z) fun z => absurd rfl z
/-! ### exceptions by name -/
def ecOf (mg : Str → Option Value) (T : List (Addr × Str) := []) (L : List String := []) : EC := ⟨fun n => match mg (Str.ofString n) with
  | some (.ref a) => a
  | _ => 0, T, L, bot, 0⟩
theorem exc_g {mg : Str → Option Value} {T : List (Addr × Str)} {L : List String} {n : String} {a : Addr} (h : mg (Str.ofString n) = some (.ref a)) : mg (Str.ofString n) = some (.ref ((ecOf mg T L).f n)) := by
  show mg (Str.ofString n) = some (.ref (match mg (Str.ofString n) with
    | some (.ref a) => a
    | _ => 0))
  rw [h]
theorem exc_e {mg : Str → Option Value} {T : List (Addr × Str)} {L : List String} {n : String} {a : Addr} {P : Addr → Prop} (h : mg (Str.ofString n) = some (.ref a)) (q : P a) : P ((ecOf mg T L).f n) := by
  show P (match mg (Str.ofString n) with
    | some (.ref a) => a
    | _ => 0)
  rw [h]
  exact q

section
variable {X : Cx} {ec : EC} {W : WX}
/-! ### times: ints, a list or a tuple so many times -/
theorem op_repV : OpR X (binaryOp .Mult) (rRepV X.K) := by
  intro pins s σ H x y v u Q I rx ry h
  obtain ⟨l, k, xs, rfl, rfl, hH, h1, h2, hz, q⟩ := h
  cases rx
  obtain ⟨t, rfl⟩ := ry
  obtain ⟨its, r, p, z⟩ := I.list hH
  obtain ⟨⟨cls, dd, data, sl⟩, n, e, hc, hd, hs⟩ := p
  dsimp only at hc hd hs
  subst hc
  subst hd
  subst hs
  have hl : xs.length = its.length := r.length
  have hlen : its.toArray.size * k.toNat ≤ sizeLine := by rw [List.size_toArray, ← hl]; exact hz
  have hcap : ¬ its.toArray.size * k.toNat > (2 ^ 63 - 1) / 8 := by
    have : (sizeLine : Nat) ≤ (2 ^ 63 - 1) / 8 := by decide
    omega
  have hfit : ¬ (!Builtin.List.listFitsIndex k) = true := by
    rw [fitsIndex_both h1 h2]
    exact Bool.false_ne_true
  have hlong : ¬ Builtin.List.listTooLong (its.toArray.size * k.toNat) = true := by
    rw [notLongL hlen]
    exact Bool.false_ne_true
  have hnew : List.foldl (fun x1 x2 => x1 ++ x2) #[] (List.replicate (if its.toArray.isEmpty = true then 0 else k.toNat) its.toArray) = (List.replicate k.toNat its).flatten.toArray := by
    have f0 : ∀ m : Nat, List.foldl (fun x1 x2 => x1 ++ x2) #[] (List.replicate m its.toArray) = (List.replicate m its).flatten.toArray := fun m => by
      have := foldl_rep its m []
      rw [List.nil_append] at this
      exact this
    rw [f0]
    cases its with
    | nil => simp
    | cons a r' => rw [if_neg (by simp)]
  refine wpAny_binaryOp_repeat_ref (T := "list") (U := "int") (by decide) ⟨_, e, rfl⟩ (fun s' => typeIs_int s' k t) noFill_list_mul F.fills_int_mul F.slot_int_rmul repeat_list F.slot_int_index.lookup
    (call_meets F.slot_int_rmul (typeIs_int s k t) F.entry_int_rmul (F.args_int_rmul_2 _ _) (lm_int_rmul_list_any k t l its.toArray n _ _)
      ⟨e, rfl, ⟨_, e, rfl⟩, call_meets F.slot_list_mul ⟨_, e, rfl⟩ F.entry_list_mul (F.args_list_mul_2 _ _) (lm_list_mul_any l its.toArray n _ _ k t hfit hcap hlong) ⟨e, ?_⟩⟩)
  rw [hnew]
  exact ⟨.ref _, _, I.lnew (t' := s.toks) (r.rep k.toNat) (by rw [PyProof.Rows.lm_len_rep_flat, Nat.mul_comm]; rw [List.size_toArray] at hlen; omega), rfl, q _ I.fresh⟩
theorem tuple_mul1 (l : Addr) (items : Array Value) (n : Nat) (dd : Option Addr) (sl : Array (Option Value)) (x : Int) (u : Tok) (c0 : (decide (x < -(2 ^ 63)) || decide (x ≥ 2 ^ 63)) = false) (c1 : (items.isEmpty || x == 1) = true) :
    Meets (Builtin.«tuple.__mul__» ⟨[.ref l, .int x u], []⟩) (fun _ R s => s.heap.get? l = some { cls := .type "tuple", dict := dd, data := .seq items n, slots := sl } ∧ R (.ok (.ret (Value.ref l))) s) :=
  .of_wp fun prog w A R s h => by
    obtain ⟨hp, g, d, tk, os⟩ := s
    obtain ⟨hl, h⟩ := h
    have f1 := AutoSeq1.idx_int
    wp_walk using wpAny_loadPart' hl
    repeat (first
      | (refine wpAny_ite_false (decide_eq_false (by rw [c0]; exact Bool.false_ne_true)) ?_; wp_walk using wpAny_loadPart' hl)
      | (refine wpAny_ite_true (decide_eq_true c1) ?_; wp_walk using wpAny_loadPart' hl))
    exact ⟨_, rfl, h⟩
def rRepT1 (K : Fg) : R2 := fun x y H Q => ∃ l xs, x = .ref l ∧ y = .int 1 ∧ SqT K H l xs ∧ Q (.ref l) H
theorem op_repT1 : OpR X (binaryOp .Mult) (rRepT1 X.K) := by
  intro pins s σ H x y v u Q I rx ry h
  obtain ⟨l, xs, rfl, rfl, hT, q⟩ := h
  cases rx
  obtain ⟨t, rfl⟩ := ry
  obtain ⟨its, r, ⟨⟨cls, dd, data, sl⟩, ho, hc, n, hd⟩, hs⟩ := I.tuple hT
  simp only at hc hd
  subst hc hd
  refine wpAny_binaryOp_repeat_ref (T := "tuple") (U := "int") (by decide) ⟨_, ho, rfl⟩ (fun s' => typeIs_int s' 1 t) noFill_tuple_mul F.fills_int_mul F.slot_int_rmul repeat_tuple F.slot_int_index.lookup
    (call_meets F.slot_int_rmul (typeIs_int s 1 t) F.entry_int_rmul (F.args_int_rmul_2 _ _) (int_rmul_tuple 1 t l its.toArray n dd sl)
      ⟨ho, rfl, ⟨_, ho, rfl⟩, call_meets F.slot_tuple_mul ⟨_, ho, rfl⟩ F.entry_tuple_mul (F.args_tuple_mul_2 _ _) (tuple_mul1 l its.toArray n dd sl 1 t (by decide) (by simp)) ⟨ho, ?_⟩⟩)
  exact ⟨.ref l, _, I.kept (t' := s.toks) (fun _ _ e => e), rfl, q⟩
theorem tuple_mul0 (l : Addr) (items : Array Value) (n : Nat) (dd : Option Addr) (sl : Array (Option Value)) (x : Int) (u : Tok) (c0 : (decide (x < -(2 ^ 63)) || decide (x ≥ 2 ^ 63)) = false) (c1 : (items.isEmpty || x == 1) = false) (c2 : (decide (x ≤ 0) || items.isEmpty) = true) :
    Meets (Builtin.«tuple.__mul__» ⟨[.ref l, .int x u], []⟩) (fun _ R s => s.heap.get? l = some { cls := .type "tuple", dict := dd, data := .seq items n, slots := sl } ∧
      R (.ok (.ret (Value.ref s.heap.objs.size))) { s with heap := s.heap.push { cls := Value.type "tuple", data := Data.seq #[] }, toks := s.toks }) :=
  .of_wp fun prog w A R s h => by
    obtain ⟨hp, g, d, tk, os⟩ := s
    obtain ⟨hl, h⟩ := h
    have f1 := AutoSeq1.idx_int
    wp_walk using wpAny_loadPart' hl
    repeat (first
      | (refine wpAny_ite_false (decide_eq_false (by rw [c0]; exact Bool.false_ne_true)) ?_; wp_walk using wpAny_loadPart' hl)
      | (refine wpAny_ite_false (decide_eq_false (by rw [c1]; exact Bool.false_ne_true)) ?_; wp_walk using wpAny_loadPart' hl)
      | (refine wpAny_ite_true (decide_eq_true c2) ?_; wp_walk using wpAny_loadPart' hl))
    exact ⟨_, rfl, h⟩
def rRepT0 (K : Fg) : R2 := fun x y H Q => ∃ l k xs, x = .ref l ∧ y = .int k ∧ SqT K H l xs ∧ xs ≠ [] ∧ k ≤ 0 ∧ -1000 ≤ k ∧ ∀ p, H p = none → Q (.ref p) (upd H p (.tup []))
theorem op_repT0 : OpR X (binaryOp .Mult) (rRepT0 X.K) := by
  intro pins s σ H x y v u Q I rx ry h
  obtain ⟨l, k, xs, rfl, rfl, hT, hne, h1, h2, q⟩ := h
  cases rx
  obtain ⟨t, rfl⟩ := ry
  obtain ⟨its, r, ⟨⟨cls, dd, data, sl⟩, ho, hc, n, hd⟩, hs⟩ := I.tuple hT
  simp only at hc hd
  subst hc hd
  have hle : its.length = xs.length := r.length.symm
  have hn : its ≠ [] := fun e => hne (by
    rw [e] at hle
    exact List.eq_nil_of_length_eq_zero hle.symm)
  have hi : its.toArray.isEmpty = false := by
    cases its with
    | nil => exact absurd rfl hn
    | cons a b => rfl
  have c0 : (decide (k < -(2 ^ 63)) || decide (k ≥ 2 ^ 63)) = false := by
    rw [decide_eq_false (by omega), decide_eq_false (by omega)] <;> rfl
  have c1 : (its.toArray.isEmpty || k == 1) = false := by
    rw [hi, Bool.false_or]
    exact beq_eq_false_iff_ne.mpr (by omega)
  have c2 : (decide (k ≤ 0) || its.toArray.isEmpty) = true := by
    rw [decide_eq_true h1, Bool.true_or]
  refine wpAny_binaryOp_repeat_ref (T := "tuple") (U := "int") (by decide) ⟨_, ho, rfl⟩ (fun s' => typeIs_int s' k t) noFill_tuple_mul F.fills_int_mul F.slot_int_rmul repeat_tuple F.slot_int_index.lookup
    (call_meets F.slot_int_rmul (typeIs_int s k t) F.entry_int_rmul (F.args_int_rmul_2 _ _) (int_rmul_tuple k t l its.toArray n dd sl)
      ⟨ho, rfl, ⟨_, ho, rfl⟩, call_meets F.slot_tuple_mul ⟨_, ho, rfl⟩ F.entry_tuple_mul (F.args_tuple_mul_2 _ _) (tuple_mul0 l its.toArray n dd sl k t c0 c1 c2) ⟨ho, ?_⟩⟩)
  refine ⟨.ref s.heap.objs.size, _, I.laid (t' := s.toks) (o := .tup []) (fun b ob q => Heap.get?_push_of_some _ q) (Nat.le_refl _) ?_, rfl, q _ (I.hok.fresh (Nat.le_refl _))⟩
  exact ⟨Nat.zero_le _, _, .nil, IsTup.new _ _⟩
def rMulV (K : Fg) : R2 := fun x y H Q => (rI (fun i j => mulOk i j = true) (fun i j => .int (i * j))) x y H Q ∨ rRepV K x y H Q ∨ rRepT K x y H Q ∨ rRepT1 K x y H Q ∨ rRepT0 K x y H Q
theorem or_mul : OpR X (binaryOp .Mult) (rMulV X.K) := OpR.or op_mulV (OpR.or op_repV (OpR.or op_repT (OpR.or op_repT1 op_repT0)))
def opMulV : Od → Od → Option Rv
  | .d (.int i), .d (.int j) => if mulOk i j = true then some (.d (.int (i * j))) else none
  | .d (.list ds), .d (.int k) => if decide (k < 2 ^ 63) && decide (-(2 ^ 63) ≤ k) && decide (ds.length * k.toNat ≤ 16000000) then some (.new (.l (List.replicate k.toNat ds).flatten)) else none
  | .d (.tuple ds), .d (.int k) => if k = 1 then some (.d (.tuple ds)) else if !ds.isEmpty && decide (2 ≤ k) && decide (k ≤ 1000) && decide (ds.length ≤ 1000) then some (.d (.tuple (List.replicate k.toNat ds).flatten)) else if !ds.isEmpty && decide (k ≤ 0) && decide (-1000 ≤ k) then some (.d (.tuple [])) else none
  | _, _ => none
theorem rp_rep {K : Fg} {H : Hp} {vs : List V} {ds : List D} (r : RpAll K H vs ds) : ∀ n, RpAll K H (List.replicate n vs).flatten (List.replicate n ds).flatten
  | 0 => .nil
  | n + 1 => by
    rw [List.replicate_succ, List.flatten_cons, List.replicate_succ, List.flatten_cons]
    exact r.append (rp_rep r n)
theorem s_mulV {K : Fg} : Op2S K (rMulV K) opMulV := by
  intro w x y o o' rv Q hx h h' e q
  unfold opMulV at e
  split at e
  · split at e
    · rename_i hm
      cases e
      exact .inl ⟨_, _, h.int, h'.int, hm, post_int q⟩
    · cases e
  · split at e
    · rename_i ds k hc
      cases e
      simp only [Bool.and_eq_true, decide_eq_true_eq] at hc
      obtain ⟨p, vs, rfl, hl, r⟩ := h.list hx
      refine .inr (.inl ⟨p, k, vs, rfl, h'.int, hl, hc.1.2, hc.1.1, sz16 (by rw [r.length]; exact hc.2), fun a ha => post_lst q (rp_rep r _) ha hx⟩)
    · cases e
  · split at e
    · rename_i ds k hk
      subst hk
      cases e
      obtain ⟨p, vs, rfl, hg, r⟩ := h.tup
      exact .inr (.inr (.inr (.inl ⟨p, vs, rfl, h'.int, .inl (.inl (hx _ _ hg)), post_d q (.tup hg r)⟩)))
    · split at e
      · rename_i ds k hk hc
        cases e
        simp only [Bool.and_eq_true, decide_eq_true_eq, Bool.not_eq_true', List.isEmpty_eq_false_iff] at hc
        obtain ⟨p, vs, rfl, hg, r⟩ := h.tup
        refine .inr (.inr (.inl ⟨p, k, vs, rfl, h'.int, .inl (.inl (hx _ _ hg)), fun e => hc.1.1.1 ?_, hc.1.1.2, hc.1.2, by rw [r.length]; exact hc.2, fun a ha => post_tup q (rp_rep r _) ha hx⟩))
        subst e
        cases r
        rfl
      · split at e
        · rename_i ds k hk hc2 hc
          cases e
          simp only [Bool.and_eq_true, decide_eq_true_eq, Bool.not_eq_true', List.isEmpty_eq_false_iff] at hc
          obtain ⟨p, vs, rfl, hg, r⟩ := h.tup
          refine .inr (.inr (.inr (.inr ⟨p, k, vs, rfl, h'.int, .inl (.inl (hx _ _ hg)), fun e => hc.1.1 ?_, hc.1.2, hc.2, fun a ha => post_tup q .nil ha hx⟩)))
          subst e
          cases r
          rfl
        · cases e
  · cases e
/-! ### methods of a list -/
def fPopAt : List D → List D → Option (D × List D)
  | xs, [.int i] => if decide (-(2 ^ 63) ≤ i) && decide (i < 2 ^ 63) then match seqIndex? i xs.length with
    | some k => match xs[k]? with
      | some d => some (d, xs.eraseIdx k)
      | none => none
    | none => none else none
  | _, _ => none
theorem rp_erase {K : Fg} {H : Hp} : ∀ {vs : List V} {ds : List D} (i : Nat), RpAll K H vs ds → RpAll K H (vs.eraseIdx i) (ds.eraseIdx i)
  | _, _, _, .nil => .nil
  | _, _, 0, .cons _ t => t
  | _, _, i + 1, .cons r t => .cons r (rp_erase i t)
theorem m_popAt {K : Fg} : MutS K rPopAt fPopAt := by
  intro w p vs xs us ds d ys Q hx hg hv rx ru e q
  unfold fPopAt at e
  split at e
  · split at e
    · rename_i i hc
      simp only [Bool.and_eq_true, decide_eq_true_eq] at hc
      split at e
      · rename_i k hk
        split at e
        · rename_i d' hd
          cases e
          obtain ⟨y, hy, ry⟩ := rx.get hd
          cases ru with
          | cons r t =>
            cases t
            cases r
            exact ⟨p, vs, i, k, y, rfl, rfl, hv, hc.1, hc.2, by rw [rx.length]; exact hk, hy, q _ _ ry (rp_erase k rx)⟩
        · cases e
      · cases e
    · cases e
  · cases e
theorem list_extendV (l : Addr) (items : Array Value) (n : Nat) (b : Addr) (items2 : Array Value) (n2 : Nat) (sl : Array (Option Value)) (hc0 : ¬(!items.isEmpty && Builtin.List.listTooLong (items.size + items2.size)) = true) (hc1 : items.size ≤ sizeLine) (hs2 : items.size + items2.size ≤ sizeLine + 1) :
    Meets (Builtin.«list.extend» ⟨[.ref l, .ref b], []⟩) (fun _ R s => s.heap.get? l = some { cls := .type "list", dict := none, data := .seq items n, slots := #[] } ∧ s.heap.get? b = some { cls := .type "list", dict := none, data := .seq items2 n2, slots := sl } ∧ R (.ok (.ret Value.none)) { s with heap := s.heap.update l (Obj.mapSeq fun x => x ++ items2), toks := s.toks }) :=
  .of_wp fun prog w A R s h => by
    obtain ⟨hp, g, d, tk, os⟩ := s; obtain ⟨hl, hb, h⟩ := h; have f1 := AutoSeq1.idx_int; have f2 := AutoSeq1.sub_tuple_tuple; have f3 := AutoSeq1.sub_list_list; have f4 := AutoSeq1.sub_tuple_list; have f5 := AutoSeq1.sub_list_tuple;
    have hz' : (items ++ items2).size ≤ sizeLine + 1 := by rw [Array.size_append]; exact hs2
    wp_walk using (wpAny_updateSeq hl rfl (hz := hc1) (_hz' := hz')), wpAny_loadPart' hl, wpAny_loadPart' hb; exact ⟨_, rfl, h⟩
def rExtendV (K : Fg) : V → List V → Hp → VK → Prop := fun x vs H Q => ∃ l b xs zs, x = .ref l ∧ vs = [.ref b] ∧ H l = some (.lst xs) ∧ SqL K H b zs ∧ xs.length + zs.length ≤ sizeLine ∧ Q .non (upd H l (.lst (xs ++ zs)))
theorem mt_extendV : MtR X "list.extend" (rExtendV X.K) := by
  intro pins s σ H x vs v us Q I rx rv h
  obtain ⟨l, b, xs, zs, rfl, rfl, hH, hB, hz, q⟩ := h
  cases rx
  obtain ⟨u, rfl, ru⟩ := rv.one
  cases ru
  obtain ⟨z, its, n, r, hl, e⟩ := I.lstM hH
  obtain ⟨its2, r2, p2, z2⟩ := I.list hB
  obtain ⟨⟨cls, dd, data, sl⟩, n2, e2, hc, hd, hs⟩ := p2
  dsimp only at hc hd hs
  subst hc
  subst hd
  subst hs
  have hl2 : zs.length = its2.length := r2.length
  have hsz : its.toArray.size + its2.toArray.size ≤ sizeLine := by rw [List.size_toArray, List.size_toArray]; omega
  have hlong : ¬ (!its.toArray.isEmpty && Builtin.List.listTooLong (its.toArray.size + its2.toArray.size)) = true := by
    rw [notLongL hsz, Bool.and_false]
    exact Bool.false_ne_true
  refine call_meets F.slot_list_extend ⟨_, e, rfl⟩ F.entry_list_extend (F.args_list_extend_2 _ _)
    (list_extendV l its.toArray n b its2.toArray n2 sl hlong (by rw [List.size_toArray]; omega) (by omega)) ⟨e, e2, ?_⟩
  refine ⟨.non, _, I.lset (its' := its ++ its2) hH e (by simp) (r.append r2) ?_, rfl, q⟩
  rw [List.length_append]
  omega
theorem m_extend {K : Fg} : MutS K (rExtendV K) fExt := by
  intro w p vs xs us ds d ys Q hx hg hv rx ru e q
  unfold fExt at e
  split at e
  · split at e
    · rename_i zs hc
      cases e
      cases ru with
      | cons r t =>
        cases t
        cases r with
        | lst hs ha =>
          exact ⟨p, _, vs, _, rfl, rfl, hv, hx.seq hs, sz16 (by rw [rx.length, ha.length]; exact hc), q _ _ .non (rx.append ha)⟩
    · cases e
  · cases e
section
variable {o e : Expr} {es : List Expr} {apos cpos : Pos} {co : CE} {ca : CA}
theorem e_append (ho : Ex X ec W o co) (ha : PA X (e :: es) (rdA X.K ec W ca)) (hbase : attributeBase o "append" X.env (eval o X.env) = eval o X.env := by rfl)
    (hfew : ((backTo cpos (starEach (e :: es) X.env)).all (fun x => !x.1) && (backToKw cpos (keywordEach [] X.env)).all (fun x => x.1.isSome) && decide ((e :: es).length + ([] : List Keyword).length + (if ([] : List Keyword).isEmpty then 0 else 1) < 30)) = true := by rfl)
    (hline : (apos.endLine == cpos.line) = true := by rfl) (hs : starEach (e :: es) X.env = (false, eval e X.env) :: starEach es X.env := by rfl) (hplain : (backTo cpos (starEach es X.env)).any (·.1) = false := by rfl) :
    Ex X ec W (.Call (.Attribute o "append" apos) (e :: es) [] cpos) (cMut fApp co ca) :=
  e_mut m_append mt_append F.slot_list_append F.type_list_append ho ha fun h1 h2 => pe_bm F.plainAttrs_list F.slot_list_append F.type_list_append mt_append h1 h2 hbase hfew hline hs hplain
theorem e_extend (ho : Ex X ec W o co) (ha : PA X (e :: es) (rdA X.K ec W ca)) (hbase : attributeBase o "extend" X.env (eval o X.env) = eval o X.env := by rfl)
    (hfew : ((backTo cpos (starEach (e :: es) X.env)).all (fun x => !x.1) && (backToKw cpos (keywordEach [] X.env)).all (fun x => x.1.isSome) && decide ((e :: es).length + ([] : List Keyword).length + (if ([] : List Keyword).isEmpty then 0 else 1) < 30)) = true := by rfl)
    (hline : (apos.endLine == cpos.line) = true := by rfl) (hs : starEach (e :: es) X.env = (false, eval e X.env) :: starEach es X.env := by rfl) (hplain : (backTo cpos (starEach es X.env)).any (·.1) = false := by rfl) :
    Ex X ec W (.Call (.Attribute o "extend" apos) (e :: es) [] cpos) (cMut fExt co ca) :=
  e_mut m_extend mt_extendV F.slot_list_extend F.type_list_extend ho ha fun h1 h2 => pe_bm F.plainAttrs_list F.slot_list_extend F.type_list_extend mt_extendV h1 h2 hbase hfew hline hs hplain
theorem e_popAt (ho : Ex X ec W o co) (ha : PA X (e :: es) (rdA X.K ec W ca)) (hbase : attributeBase o "pop" X.env (eval o X.env) = eval o X.env := by rfl)
    (hfew : ((backTo cpos (starEach (e :: es) X.env)).all (fun x => !x.1) && (backToKw cpos (keywordEach [] X.env)).all (fun x => x.1.isSome) && decide ((e :: es).length + ([] : List Keyword).length + (if ([] : List Keyword).isEmpty then 0 else 1) < 30)) = true := by rfl)
    (hline : (apos.endLine == cpos.line) = true := by rfl) (hs : starEach (e :: es) X.env = (false, eval e X.env) :: starEach es X.env := by rfl) (hplain : (backTo cpos (starEach es X.env)).any (·.1) = false := by rfl) :
    Ex X ec W (.Call (.Attribute o "pop" apos) (e :: es) [] cpos) (cMut fPopAt co ca) :=
  e_mut m_popAt mt_popAt F.slot_list_pop F.type_list_pop ho ha fun h1 h2 => pe_bm F.plainAttrs_list F.slot_list_pop F.type_list_pop mt_popAt h1 h2 hbase hfew hline hs hplain
theorem e_pop0 (ho : Ex X ec W o co) (hbase : attributeBase o "pop" X.env (eval o X.env) = eval o X.env := by rfl) (hline : (apos.endLine == cpos.line) = true := by rfl) : Ex X ec W (.Call (.Attribute o "pop" apos) [] [] cpos) (cMut fPop co cNil) :=
  e_mut0 m_pop ho fun h1 => pe_bm0 F.plainAttrs_list F.slot_list_pop F.type_list_pop mt_pop h1 hbase hline
theorem e_reverse0 (ho : Ex X ec W o co) (hbase : attributeBase o "reverse" X.env (eval o X.env) = eval o X.env := by rfl) (hline : (apos.endLine == cpos.line) = true := by rfl) : Ex X ec W (.Call (.Attribute o "reverse" apos) [] [] cpos) (cMut fRev co cNil) :=
  e_mut0 m_reverse ho fun h1 => pe_bm0 F.plainAttrs_list F.slot_list_reverse F.type_list_reverse mt_reverse h1 hbase hline
theorem e_clear0 (ho : Ex X ec W o co) (hbase : attributeBase o "clear" X.env (eval o X.env) = eval o X.env := by rfl) (hline : (apos.endLine == cpos.line) = true := by rfl) : Ex X ec W (.Call (.Attribute o "clear" apos) [] [] cpos) (cMut fClr co cNil) :=
  e_mut0 m_clear ho fun h1 => pe_bm0 F.plainAttrs_list F.slot_list_clear F.type_list_clear mt_clear h1 hbase hline
end
end
end Vm

namespace Vm
open PySem L2
/-! ### runs step by step, for simp -/
def frz : Rv → S → R Rv
  | .d x, s => .ok (.d x) s
  | .ref n, s => .ok (.ref n) s
  | .new (.l ds), s => .ok (.d (.list ds)) s
  | .new (.k kvs), s => .ok (.d (.dict (kvs.map fun p => (kD p.1, p.2)))) s
  | .new _, _ => .bad
@[simp] theorem frz_d {x : D} {s : S} : frz (.d x) s = .ok (.d x) s := Eq.trans rfl rfl
@[simp] theorem frz_ref {n : Nat} {s : S} : frz (.ref n) s = .ok (.ref n) s := Eq.trans rfl rfl
@[simp] theorem frz_l {ds : List D} {s : S} : frz (.new (.l ds)) s = .ok (.d (.list ds)) s := Eq.trans rfl rfl
@[simp] theorem frz_k {kvs : List (L2.Key × D)} {s : S} : frz (.new (.k kvs)) s = .ok (.d (.dict (kvs.map fun p => (kD p.1, p.2)))) s := Eq.trans rfl rfl
section
variable {α β : Type}
@[simp] theorem bind_ok {a : α} {s : S} {k : α → S → R β} : (R.ok a s).bind k = k a s := Eq.trans rfl rfl
@[simp] theorem bind_ex {e : String} {s : S} {k : α → S → R β} : (R.ex e s).bind k = .ex e s := Eq.trans rfl rfl
@[simp] theorem out_ok {a : α} {s : S} {k : α → S → Out} : (R.ok a s).out k = k a s := Eq.trans rfl rfl
@[simp] theorem out_ex {e : String} {s : S} {k : α → S → Out} : (R.ex e s : R α).out k = .ex e s := Eq.trans rfl rfl
@[simp] theorem opt_some {a : α} {k : α → R β} : opt (some a) k = k a := Eq.trans rfl rfl
end
@[simp] theorem cv_s {c : CE} {s : S} : cv c s = (c s).bind frz := by
  unfold cv
  congr 1
  funext rv s1
  cases rv with
  | d x => rfl
  | ref n => rfl
  | new c => cases c <;> rfl
theorem cVar_s {i : Nat} {v : List Sl} {m : List Cell} : cVar i ⟨v, m⟩ = match v[i]? with
  | some (.d x) => .ok (.d x) ⟨v, m⟩
  | some (.c n) => .ok (.ref n) ⟨v, m⟩
  | _ => .bad := rfl
def slR : Option Sl → S → R Rv
  | some (.d x), s => .ok (.d x) s
  | some (.c n), s => .ok (.ref n) s
  | _, _ => .bad
@[simp] theorem slR_d {x : D} {s : S} : slR (some (.d x)) s = .ok (.d x) s := Eq.trans rfl rfl
@[simp] theorem slR_c {n : Nat} {s : S} : slR (some (.c n)) s = .ok (.ref n) s := Eq.trans rfl rfl
@[simp] theorem cVar_r {i : Nat} {s : S} : cVar i s = slR s.v[i]? s := by
  unfold cVar
  generalize s.v[i]? = o
  rcases o with _ | (_ | _ | _) <;> rfl
@[simp] theorem cC_s {d : D} {s : S} : cC d s = .ok (.d d) s := Eq.trans rfl rfl
def odC : Option Cell → Option Od
  | some (.l ds) => some (.d (.list ds))
  | some (.k kvs) => some (.c (.k kvs))
  | some (.t kvs) => some (.c (.t kvs))
  | some (.r ks) => some (.c (.r ks))
  | _ => none
@[simp] theorem odC_l {ds : List D} : odC (some (.l ds)) = some (.d (.list ds)) := Eq.trans rfl rfl
@[simp] theorem odC_k {kvs : List (L2.Key × D)} : odC (some (.k kvs)) = some (.c (.k kvs)) := Eq.trans rfl rfl
@[simp] theorem odC_t {kvs : List (List L2.Key × D)} : odC (some (.t kvs)) = some (.c (.t kvs)) := Eq.trans rfl rfl
@[simp] theorem odC_r {ks : List (List L2.Key)} : odC (some (.r ks)) = some (.c (.r ks)) := Eq.trans rfl rfl
@[simp] theorem od_d {x : D} {m : List Cell} : (Rv.d x).od m = some (.d x) := Eq.trans rfl rfl
@[simp] theorem od_ref {n : Nat} {m : List Cell} : (Rv.ref n).od m = odC m[n]? := by
  unfold Rv.od
  dsimp only
  generalize m[n]? = o
  rcases o with _ | (_ | _ | _ | _ | _ | _) <;> rfl
/-! what comes behind has a name: simp stays out of it -/
def rvK : Option Rv → S → R Rv
  | some rv, s => .ok rv s
  | none, _ => .bad
@[simp] theorem rvK_s {rv : Rv} {s : S} : rvK (some rv) s = .ok rv s := Eq.trans rfl rfl
theorem opt_rv {o : Option Rv} {s : S} : (opt o fun rv => .ok rv s) = rvK o s := by cases o <;> rfl
def odK1 (f : Od → Option Rv) : Option Od → S → R Rv
  | some o, s => rvK (f o) s
  | none, _ => .bad
@[simp] theorem odK1_s {f : Od → Option Rv} {o : Od} {s : S} : odK1 f (some o) s = rvK (f o) s := Eq.trans rfl rfl
def kOp1 (f : Od → Option Rv) (x : Rv) (s1 : S) : R Rv := odK1 f (x.od s1.m) s1
@[simp] theorem kOp1_s {f : Od → Option Rv} {x : Rv} {s1 : S} : kOp1 f x s1 = odK1 f (x.od s1.m) s1 := Eq.trans rfl rfl
@[simp] theorem cOp1_s {f : Od → Option Rv} {a : CE} {s : S} : cOp1 f a s = (cv a s).bind (kOp1 f) := by
  unfold cOp1
  congr 1
  funext x s1
  rw [kOp1_s]
  cases x.od s1.m with
  | none => rfl
  | some o => exact opt_rv
def odK2 (f : Od → Od → Option Rv) : Option Od → Option Od → S → R Rv
  | some o, some o', s => rvK (f o o') s
  | _, _, _ => .bad
@[simp] theorem odK2_s {f : Od → Od → Option Rv} {o o' : Od} {s : S} : odK2 f (some o) (some o') s = rvK (f o o') s := Eq.trans rfl rfl
def kOp2b (f : Od → Od → Option Rv) (x y : Rv) (s2 : S) : R Rv := odK2 f (x.od s2.m) (y.od s2.m) s2
@[simp] theorem kOp2b_s {f : Od → Od → Option Rv} {x y : Rv} {s2 : S} : kOp2b f x y s2 = odK2 f (x.od s2.m) (y.od s2.m) s2 := Eq.trans rfl rfl
def kOp2 (f : Od → Od → Option Rv) (b : CE) (x : Rv) (s1 : S) : R Rv := (cv b s1).bind (kOp2b f x)
@[simp] theorem kOp2_s {f : Od → Od → Option Rv} {b : CE} {x : Rv} {s1 : S} : kOp2 f b x s1 = (cv b s1).bind (kOp2b f x) := Eq.trans rfl rfl
theorem opt_od2 {f : Od → Od → Option Rv} {a b : Option Od} {s : S} : (opt a fun o => opt b fun o' => opt (f o o') fun rv => .ok rv s) = odK2 f a b s := by
  cases a with
  | none => rfl
  | some o =>
    cases b with
    | none => rfl
    | some o' => exact opt_rv
@[simp] theorem cOp2_s {f : Od → Od → Option Rv} {a b : CE} {s : S} : cOp2 f a b s = (cv a s).bind (kOp2 f b) := by
  unfold cOp2
  congr 1
  funext x s1
  rw [kOp2_s]
  congr 1
  funext y s2
  exact opt_od2
@[simp] theorem cOp2r_s {f : Od → Od → Option Rv} {a b : CE} {s : S} : cOp2r f a b s = cOp2 (fun o o' => f o' o) a b s := Eq.trans rfl rfl
def boolR : Rv → S → R Bool
  | .d (.bool b), s => .ok b s
  | _, _ => .bad
@[simp] theorem boolR_b {b : Bool} {s : S} : boolR (.d (.bool b)) s = .ok b s := Eq.trans rfl rfl
@[simp] theorem cB_s {c : CE} {s : S} : cB c s = (cv c s).bind boolR := by
  unfold cB
  congr 1
  funext a s1
  rcases a with (_ | _ | _ | _ | _ | _ | _) | _ | _ <;> rfl
def bK : Option Bool → S → R Bool
  | some b, s => .ok b s
  | none, _ => .bad
@[simp] theorem bK_s {b : Bool} {s : S} : bK (some b) s = .ok b s := Eq.trans rfl rfl
def truK : Option Od → S → R Bool
  | some o, s => bK (truthy o) s
  | none, _ => .bad
@[simp] theorem truK_s {o : Od} {s : S} : truK (some o) s = bK (truthy o) s := Eq.trans rfl rfl
def kTru (a : Rv) (s1 : S) : R Bool := truK (a.od s1.m) s1
@[simp] theorem kTru_s {a : Rv} {s1 : S} : kTru a s1 = truK (a.od s1.m) s1 := Eq.trans rfl rfl
@[simp] theorem cTru_s {c : CE} {s : S} : cTru c s = (cv c s).bind kTru := by
  unfold cTru
  congr 1
  funext a s1
  rw [kTru_s]
  cases a.od s1.m with
  | none => rfl
  | some o =>
    show (opt (truthy o) fun b => R.ok b s1) = bK (truthy o) s1
    cases truthy o <;> rfl
@[simp] theorem truthy_b {b : Bool} : truthy (.d (.bool b)) = some b := Eq.trans rfl rfl
@[simp] theorem truthy_i {i : Int} : truthy (.d (.int i)) = some (i != 0) := Eq.trans rfl rfl
@[simp] theorem truthy_l {ds : List D} : truthy (.d (.list ds)) = some (!ds.isEmpty) := Eq.trans rfl rfl
@[simp] theorem truthy_t {ds : List D} : truthy (.d (.tuple ds)) = some (!ds.isEmpty) := Eq.trans rfl rfl
@[simp] theorem truthy_n : truthy (.d .none) = some false := Eq.trans rfl rfl
def kAndT (b : CT) (x : Bool) (s1 : S) : R Bool := if x = true then b s1 else .ok false s1
@[simp] theorem kAndT_s {b : CT} {x : Bool} {s1 : S} : kAndT b x s1 = if x = true then b s1 else .ok false s1 := Eq.trans rfl rfl
@[simp] theorem tAnd_s {a b : CT} {s : S} : tAnd' a b s = (a s).bind (kAndT b) := Eq.trans rfl rfl
def kOrT (b : CT) (x : Bool) (s1 : S) : R Bool := if x = true then .ok true s1 else b s1
@[simp] theorem kOrT_s {b : CT} {x : Bool} {s1 : S} : kOrT b x s1 = if x = true then .ok true s1 else b s1 := Eq.trans rfl rfl
@[simp] theorem tOr_s {a b : CT} {s : S} : tOr' a b s = (a s).bind (kOrT b) := Eq.trans rfl rfl
def kNotT (x : Bool) (s1 : S) : R Bool := .ok (!x) s1
@[simp] theorem kNotT_s {x : Bool} {s1 : S} : kNotT x s1 = .ok (!x) s1 := Eq.trans rfl rfl
@[simp] theorem tNot_s {a : CT} {s : S} : tNot' a s = (a s).bind kNotT := Eq.trans rfl rfl
def kAndE (b : CE) (x : Bool) (s1 : S) : R Rv := if x = true then b s1 else .ok (.d (.bool false)) s1
@[simp] theorem kAndE_s {b : CE} {x : Bool} {s1 : S} : kAndE b x s1 = if x = true then b s1 else .ok (.d (.bool false)) s1 := Eq.trans rfl rfl
@[simp] theorem cAnd_s {a b : CE} {s : S} : cAnd a b s = (cB a s).bind (kAndE b) := Eq.trans rfl rfl
def kOrE (b : CE) (x : Bool) (s1 : S) : R Rv := if x = true then .ok (.d (.bool true)) s1 else b s1
@[simp] theorem kOrE_s {b : CE} {x : Bool} {s1 : S} : kOrE b x s1 = if x = true then .ok (.d (.bool true)) s1 else b s1 := Eq.trans rfl rfl
@[simp] theorem cOr_s {a b : CE} {s : S} : cOr a b s = (cB a s).bind (kOrE b) := Eq.trans rfl rfl
def kNotE (x : Bool) (s1 : S) : R Rv := .ok (.d (.bool (!x))) s1
@[simp] theorem kNotE_s {x : Bool} {s1 : S} : kNotE x s1 = .ok (.d (.bool (!x))) s1 := Eq.trans rfl rfl
@[simp] theorem cNot_s {a : CE} {s : S} : cNot a s = (cB a s).bind kNotE := Eq.trans rfl rfl
def kIf (a b : CE) (x : Bool) (s1 : S) : R Rv := if x = true then a s1 else b s1
@[simp] theorem kIf_s {a b : CE} {x : Bool} {s1 : S} : kIf a b x s1 = if x = true then a s1 else b s1 := Eq.trans rfl rfl
@[simp] theorem cIf_s {t : CT} {a b : CE} {s : S} : cIf t a b s = (t s).bind (kIf a b) := Eq.trans rfl rfl
@[simp] theorem cNil_s {s : S} : cNil s = .ok [] s := Eq.trans rfl rfl
def kCons (x : D) (xs : List D) (s2 : S) : R (List D) := .ok (x :: xs) s2
@[simp] theorem kCons_s {x : D} {xs : List D} {s2 : S} : kCons x xs s2 = .ok (x :: xs) s2 := Eq.trans rfl rfl
def consR (ca : CA) : Rv → S → R (List D)
  | .d x, s1 => (ca s1).bind (kCons x)
  | _, _ => .bad
@[simp] theorem consR_d {ca : CA} {x : D} {s1 : S} : consR ca (.d x) s1 = (ca s1).bind (kCons x) := Eq.trans rfl rfl
@[simp] theorem cCons_s {c : CE} {ca : CA} {s : S} : cCons c ca s = (cv c s).bind (consR ca) := by
  unfold cCons
  congr 1
  funext a s1
  cases a <;> rfl
def kTup (ds : List D) (s1 : S) : R Rv := .ok (.d (.tuple ds)) s1
@[simp] theorem kTup_s {ds : List D} {s1 : S} : kTup ds s1 = .ok (.d (.tuple ds)) s1 := Eq.trans rfl rfl
@[simp] theorem cTup_s {ca : CA} {s : S} : cTup ca s = (ca s).bind kTup := Eq.trans rfl rfl
def kLst (ds : List D) (s1 : S) : R Rv := .ok (.new (.l ds)) s1
@[simp] theorem kLst_s {ds : List D} {s1 : S} : kLst ds s1 = .ok (.new (.l ds)) s1 := Eq.trans rfl rfl
@[simp] theorem cLst_s {ca : CA} {s : S} : cLst ca s = (ca s).bind kLst := Eq.trans rfl rfl
/-! statements -/
def Out.then (o : Out) (b : CS) : Out := match o with
  | .nx s1 => b s1
  | o => o
@[simp] theorem then_nx {s : S} {b : CS} : (Out.nx s).then b = b s := Eq.trans rfl rfl
@[simp] theorem then_rt {a : Rv} {s : S} {b : CS} : (Out.rt a s).then b = .rt a s := Eq.trans rfl rfl
@[simp] theorem then_bk {s : S} {b : CS} : (Out.bk s).then b = .bk s := Eq.trans rfl rfl
@[simp] theorem then_ct {s : S} {b : CS} : (Out.ct s).then b = .ct s := Eq.trans rfl rfl
@[simp] theorem then_ex {e : String} {s : S} {b : CS} : (Out.ex e s).then b = .ex e s := Eq.trans rfl rfl
@[simp] theorem cSeq_s {a b : CS} {s : S} : cSeq a b s = (a s).then b := by
  unfold cSeq
  generalize a s = o
  cases o <;> rfl
@[simp] theorem cNx_s {s : S} : cNx s = .nx s := Eq.trans rfl rfl
@[simp] theorem cBk_s {s : S} : cBk s = .bk s := Eq.trans rfl rfl
@[simp] theorem cCt_s {s : S} : cCt s = .ct s := Eq.trans rfl rfl
def kExp (_ : Rv) (s1 : S) : Out := .nx s1
@[simp] theorem kExp_s {a : Rv} {s1 : S} : kExp a s1 = .nx s1 := Eq.trans rfl rfl
@[simp] theorem cExp_s {c : CE} {s : S} : cExp c s = (c s).out kExp := Eq.trans rfl rfl
@[simp] theorem cRet_s {c : CE} {s : S} : cRet c s = (c s).out .rt := Eq.trans rfl rfl
@[simp] theorem cRetN_s {s : S} : cRetN s = .rt (.d .none) s := Eq.trans rfl rfl
def kIfS (a b : CS) (x : Bool) (s1 : S) : Out := if x = true then a s1 else b s1
@[simp] theorem kIfS_s {a b : CS} {x : Bool} {s1 : S} : kIfS a b x s1 = if x = true then a s1 else b s1 := Eq.trans rfl rfl
@[simp] theorem cIfS_s {t : CT} {a b : CS} {s : S} : cIfS t a b s = (t s).out (kIfS a b) := Eq.trans rfl rfl
def setR (i : Nat) : Rv → S → Out
  | .d x, s1 => .nx ⟨s1.v.set i (.d x), s1.m⟩
  | .ref n, s1 => .nx ⟨s1.v.set i (.c n), s1.m⟩
  | .new _, _ => .bad
@[simp] theorem setR_d {i : Nat} {x : D} {s1 : S} : setR i (.d x) s1 = .nx ⟨s1.v.set i (.d x), s1.m⟩ := Eq.trans rfl rfl
@[simp] theorem setR_ref {i : Nat} {x : Nat} {s1 : S} : setR i (.ref x) s1 = .nx ⟨s1.v.set i (.c x), s1.m⟩ := Eq.trans rfl rfl
@[simp] theorem cSet_s {i : Nat} {c : CE} {s : S} : cSet i c s = (cv c s).out (setR i) := by
  unfold cSet
  congr 1
  funext a s1
  cases a <;> rfl
def setMR (i : Nat) : Rv → S → Out
  | .new .gone, _ => .bad
  | .new (.i _ _ _), _ => .bad
  | .new cell, s1 => .nx ⟨s1.v.set i (.c s1.m.length), s1.m ++ [cell]⟩
  | .ref n, s1 => .nx ⟨s1.v.set i (.c n), s1.m⟩
  | .d _, _ => .bad
@[simp] theorem setMR_l {i : Nat} {ds : List D} {s1 : S} : setMR i (.new (.l ds)) s1 = .nx ⟨s1.v.set i (.c s1.m.length), s1.m ++ [.l ds]⟩ := Eq.trans rfl rfl
@[simp] theorem setMR_k {i : Nat} {ds : List (L2.Key × D)} {s1 : S} : setMR i (.new (.k ds)) s1 = .nx ⟨s1.v.set i (.c s1.m.length), s1.m ++ [.k ds]⟩ := Eq.trans rfl rfl
@[simp] theorem setMR_t {i : Nat} {ds : List (List L2.Key × D)} {s1 : S} : setMR i (.new (.t ds)) s1 = .nx ⟨s1.v.set i (.c s1.m.length), s1.m ++ [.t ds]⟩ := Eq.trans rfl rfl
@[simp] theorem setMR_r {i : Nat} {ds : List (List L2.Key)} {s1 : S} : setMR i (.new (.r ds)) s1 = .nx ⟨s1.v.set i (.c s1.m.length), s1.m ++ [.r ds]⟩ := Eq.trans rfl rfl
@[simp] theorem setMR_ref {i : Nat} {n : Nat} {s1 : S} : setMR i (.ref n) s1 = .nx ⟨s1.v.set i (.c n), s1.m⟩ := Eq.trans rfl rfl
@[simp] theorem cSetM_s {i : Nat} {c : CE} {s : S} : cSetM i c s = (c s).out (setMR i) := by
  unfold cSetM
  congr 1
  funext a s1
  cases a with
  | d x => rfl
  | ref n => rfl
  | new c => cases c <;> rfl
def putR (i o v : Rv) (s3 : S) : Out := match v, o, i with
  | .d v, .ref n, .d k => match s3.m[n]? with
    | some c => match putIn c k v with
      | some c' => .nx ⟨s3.v, s3.m.set n c'⟩
      | none => .bad
    | none => .bad
  | _, _, _ => .bad
def kPut3 (o v i : Rv) (s3 : S) : Out := putR i o v s3
@[simp] theorem kPut3_s {o v i : Rv} {s3 : S} : kPut3 o v i s3 = putR i o v s3 := Eq.trans rfl rfl
def kPut2 (ci : CE) (v o : Rv) (s2 : S) : Out := (cv ci s2).out (kPut3 o v)
@[simp] theorem kPut2_s {ci : CE} {v o : Rv} {s2 : S} : kPut2 ci v o s2 = (cv ci s2).out (kPut3 o v) := Eq.trans rfl rfl
def kPut1 (co ci : CE) (v : Rv) (s1 : S) : Out := (cv co s1).out (kPut2 ci v)
@[simp] theorem kPut1_s {co ci : CE} {v : Rv} {s1 : S} : kPut1 co ci v s1 = (cv co s1).out (kPut2 ci v) := Eq.trans rfl rfl
@[simp] theorem cPut_s {co ci cw : CE} {s : S} : cPut co ci cw s = (cv cw s).out (kPut1 co ci) := Eq.trans rfl rfl
def putK (v : List Sl) (m : List Cell) (n : Nat) : Option Cell → Out
  | some c => .nx ⟨v, m.set n c⟩
  | none => .bad
@[simp] theorem putK_s {v : List Sl} {m : List Cell} {n : Nat} {c : Cell} : putK v m n (some c) = .nx ⟨v, m.set n c⟩ := Eq.trans rfl rfl
@[simp] theorem putR_s {n : Nat} {k v : D} {s3 : S} {c : Cell} (h : s3.m[n]? = some c) : putR (.d k) (.ref n) (.d v) s3 = putK s3.v s3.m n (putIn c k v) := by
  unfold putR
  dsimp only
  rw [h]
  dsimp only
  generalize putIn c k v = o
  cases o <;> rfl
/-! calls -/
@[simp] theorem lNil_s {s : S} : lNil s = .ok [] s := Eq.trans rfl rfl
def kLc (x : Sl) (r : List Sl) (s2 : S) : R (List Sl) := .ok (x :: r) s2
@[simp] theorem kLc_s {x : Sl} {r : List Sl} {s2 : S} : kLc x r s2 = .ok (x :: r) s2 := Eq.trans rfl rfl
def lconsR (cl : CL) : Rv → S → R (List Sl)
  | .d x, s1 => (cl s1).bind (kLc (.d x))
  | .ref n, s1 => (cl s1).bind (kLc (.c n))
  | _, _ => .bad
@[simp] theorem lconsR_d {cl : CL} {x : D} {s1 : S} : lconsR cl (.d x) s1 = (cl s1).bind (kLc (.d x)) := Eq.trans rfl rfl
@[simp] theorem lconsR_r {cl : CL} {x : Nat} {s1 : S} : lconsR cl (.ref x) s1 = (cl s1).bind (kLc (.c x)) := Eq.trans rfl rfl
@[simp] theorem lCons_s {c : CE} {cl : CL} {s : S} : lCons c cl s = (cv c s).bind (lconsR cl) := by
  unfold lCons
  congr 1
  funext a s1
  cases a <;> rfl
def kCall (f : Fn) (as : List Sl) (s1 : S) : R Rv := (f as s1.m).toR s1.v
@[simp] theorem kCall_s {f : Fn} {as : List Sl} {s1 : S} : kCall f as s1 = (f as s1.m).toR s1.v := Eq.trans rfl rfl
@[simp] theorem cCall_s {f : Fn} {cl : CL} {s : S} : cCall f cl s = (cl s).bind (kCall f) := Eq.trans rfl rfl
@[simp] theorem toR_ok {a : Rv} {m : List Cell} {v : List Sl} : (RF.ok a m).toR v = .ok a ⟨v, m⟩ := Eq.trans rfl rfl
@[simp] theorem toR_ex {a : String} {m : List Cell} {v : List Sl} : (RF.ex a m).toR v = .ex a ⟨v, m⟩ := Eq.trans rfl rfl
def kCallP (f : Fn) (as : List Sl) (s1 : S) : R Rv := if as.all Sl.isD = true then (f as []).pure s1 else .bad
@[simp] theorem kCallP_s {f : Fn} {as : List Sl} {s1 : S} : kCallP f as s1 = if as.all Sl.isD = true then (f as []).pure s1 else .bad := Eq.trans rfl rfl
@[simp] theorem cCallP_s {f : Fn} {cl : CL} {s : S} : cCallP f cl s = (cl s).bind (kCallP f) := Eq.trans rfl rfl
@[simp] theorem isD_d {x : D} : (Sl.d x).isD = true := Eq.trans rfl rfl
@[simp] theorem pure_d {x : D} {m : List Cell} {s : S} : (RF.ok (.d x) m).pure s = .ok (.d x) s := Eq.trans rfl rfl
@[simp] theorem pure_new {x : Cell} {m : List Cell} {s : S} : (RF.ok (.new x) m).pure s = .ok (.new x) s := Eq.trans rfl rfl
@[simp] theorem pure_ex {x : String} {m : List Cell} {s : S} : (RF.ex x m).pure s = .ex x s := Eq.trans rfl rfl
theorem runF_s {n : Nat} {c : CS} {as : List Sl} {m : List Cell} : runF n c as m = fin m (c ⟨as ++ List.replicate (n - as.length) .u, m⟩) := rfl
@[simp] theorem fin_d {m : List Cell} {x : D} {s : S} : fin m (.rt (.d x) s) = .ok (.d x) (s.m.take m.length) := Eq.trans rfl rfl
@[simp] theorem fin_new {m : List Cell} {x : Cell} {s : S} : fin m (.rt (.new x) s) = .ok (.new x) (s.m.take m.length) := Eq.trans rfl rfl
@[simp] theorem fin_ex {m : List Cell} {x : String} {s : S} : fin m (.ex x s) = .ex x (s.m.take m.length) := Eq.trans rfl rfl
@[simp] theorem fin_nx {m : List Cell} {s : S} : fin m (.nx s) = .ok (.d .none) (s.m.take m.length) := Eq.trans rfl rfl
/-! operations -/
section
variable {i j : Int}
@[simp] theorem opAdd_i : opAdd (.d (.int i)) (.d (.int j)) = some (.d (.int (i + j))) := Eq.trans rfl rfl
@[simp] theorem opSub_i : opSub (.d (.int i)) (.d (.int j)) = some (.d (.int (i - j))) := Eq.trans rfl rfl
@[simp] theorem opNeg_i : opNeg (.d (.int i)) = some (.d (.int (-i))) := Eq.trans rfl rfl
@[simp] theorem opAbs_i : opAbs (.d (.int i)) = some (.d (.int (if i < 0 then -i else i))) := Eq.trans rfl rfl
theorem opMul_i (h : mulOk i j = true) : opMulV (.d (.int i)) (.d (.int j)) = some (.d (.int (i * j))) := by
  show (if mulOk i j = true then _ else _) = _
  rw [if_pos h]
theorem opMod_i (h : 0 < j) : opMod (.d (.int i)) (.d (.int j)) = some (.d (.int (i % j))) := by
  show (if j ≠ 0 then some (Rv.d (.int (fmd i j))) else none) = _
  rw [if_pos (by omega)]
  unfold fmd
  rw [if_pos h]
theorem opDiv_i (h : 0 < j) (h2 : j.natAbs.log2 < 9000) : opDiv (.d (.int i)) (.d (.int j)) = some (.d (.int (i / j))) := by
  show (if j ≠ 0 ∧ j.natAbs.log2 < 9000 then some (Rv.d (.int (fdv i j))) else none) = _
  rw [if_pos ⟨by omega, h2⟩]
  unfold fdv
  rw [if_pos h]
theorem opPow_i (h : 0 ≤ j) (h2 : j ≤ 1000000) (h3 : i.natAbs < 2 ^ 64) : opPow (.d (.int i)) (.d (.int j)) = some (.d (.int (i ^ j.toNat))) := by
  show (if 0 ≤ j ∧ j ≤ 1000000 ∧ i.natAbs < 2 ^ 64 then some (Rv.d (.int (i ^ j.toNat))) else none) = _
  rw [if_pos ⟨h, h2, h3⟩]
@[simp] theorem opLt_i : opLt (.d (.int i)) (.d (.int j)) = some (.d (.bool (decide (i < j)))) := Eq.trans rfl rfl
@[simp] theorem opLe_i : opLe (.d (.int i)) (.d (.int j)) = some (.d (.bool (decide (i ≤ j)))) := Eq.trans rfl rfl
@[simp] theorem opGt_i : opGt (.d (.int i)) (.d (.int j)) = some (.d (.bool (decide (j < i)))) := Eq.trans rfl rfl
@[simp] theorem opGe_i : opGe (.d (.int i)) (.d (.int j)) = some (.d (.bool (decide (j ≤ i)))) := Eq.trans rfl rfl
@[simp] theorem opEq_i : opEq (.d (.int i)) (.d (.int j)) = some (.d (.bool (decide (i = j)))) := Eq.trans rfl rfl
@[simp] theorem opNe_i : opNe (.d (.int i)) (.d (.int j)) = some (.d (.bool (!decide (i = j)))) := Eq.trans rfl rfl
@[simp] theorem opLen_l {ds : List D} : opLen (.d (.list ds)) = some (.d (.int ds.length)) := Eq.trans rfl rfl
@[simp] theorem opLen_t {ds : List D} : opLen (.d (.tuple ds)) = some (.d (.int ds.length)) := Eq.trans rfl rfl
end
theorem atI_nat {α : Type} {xs : List α} {i : Int} {x : α} (h0 : 0 ≤ i) (h : xs[i.toNat]? = some x) : atI xs i = some x := by
  have hl : i.toNat < xs.length := (List.getElem?_eq_some_iff.mp h).1
  unfold atI ixN
  rw [if_pos h0, if_pos (by omega)]
  exact h
theorem opIx_l {ds : List D} {i : Int} {x : D} (h : atI ds i = some x) : opIx (.d (.list ds)) (.d (.int i)) = some (.d x) := by
  show (match atI ds i with | some d => some (Rv.d d) | none => none) = _
  rw [h]
theorem opIx_t {ds : List D} {i : Int} {x : D} (h : atI ds i = some x) : opIx (.d (.tuple ds)) (.d (.int i)) = some (.d x) := by
  show (match atI ds i with | some d => some (Rv.d d) | none => none) = _
  rw [h]
theorem log2_lt {n k : Nat} (h : n < 2 ^ k) : n.log2 < k + 1 := by
  by_cases h0 : n = 0
  · subst h0
    show 0 < k + 1
    omega
  · have := (Nat.log2_lt h0).mpr h
    omega
theorem mulOk_small {i j : Int} (hi : i.natAbs < 2 ^ 200) (hj : j.natAbs < 2 ^ 200) : mulOk i j = true := by
  unfold mulOk
  rw [decide_eq_true_eq]
  have h1 := log2_lt hi
  have h2 := log2_lt hj
  omega
theorem log2_many {j : Int} (h0 : 0 < j) (h : j < 2 ^ 200) : j.natAbs.log2 < 9000 := by
  have := log2_lt (n := j.natAbs) (k := 200) (by omega)
  omega
theorem opDiv_s {i j : Int} (h : 0 < j) (h2 : j < 18446744073709551616) : opDiv (.d (.int i)) (.d (.int j)) = some (.d (.int (i / j))) := opDiv_i h (log2_many h (by omega))
/-! loops -/
def Out.loop (o : Out) (k : S → Out) : Out := match o with
  | .nx s => k s
  | .ct s => k s
  | .bk s => .nx s
  | o => o
@[simp] theorem loop_nx {s : S} {k : S → Out} : (Out.nx s).loop k = k s := Eq.trans rfl rfl
@[simp] theorem loop_ct {s : S} {k : S → Out} : (Out.ct s).loop k = k s := Eq.trans rfl rfl
@[simp] theorem loop_bk {s : S} {k : S → Out} : (Out.bk s).loop k = .nx s := Eq.trans rfl rfl
@[simp] theorem loop_rt {a : Rv} {s : S} {k : S → Out} : (Out.rt a s).loop k = .rt a s := Eq.trans rfl rfl
@[simp] theorem forL_nil {tg : Tg} {body : CS} {s : S} : forL tg body [] s = .nx s := Eq.trans rfl rfl
theorem forL_cons {tg : Tg} {body : CS} {d : D} {ds : List D} {s s1 : S} (h : tg d s = some s1) : forL tg body (d :: ds) s = (body s1).loop (forL tg body ds) := by
  show (match tg d s with | none => Out.bad | some s1 => (match body s1 with
      | .nx s2 => forL tg body ds s2
      | .ct s2 => forL tg body ds s2
      | .bk s2 => .nx s2
      | o => o)) = _
  rw [h]
  dsimp only
  generalize body s1 = o
  cases o <;> rfl
theorem forL_from {tg : Tg} {body : CS} (I : Nat → S → Prop) : ∀ (ds : List D) (k : Nat) (s : S), (∀ i s d, ds[i]? = some d → I (k + i) s → ∃ s1 s2, tg d s = some s1 ∧ (body s1 = .nx s2 ∨ body s1 = .ct s2) ∧ I (k + i + 1) s2) → I k s → ∃ s', forL tg body ds s = .nx s' ∧ I (k + ds.length) s'
  | [], k, s, _, h0 => ⟨s, rfl, h0⟩
  | d :: ds, k, s, h, h0 => by
    obtain ⟨s1, s2, e1, e2, h1⟩ := h 0 s d rfl h0
    have r : forL tg body (d :: ds) s = forL tg body ds s2 := by
      rw [forL_cons e1]
      rcases e2 with e2 | e2 <;> rw [e2] <;> rfl
    rw [r]
    obtain ⟨s', e, h2⟩ := forL_from I ds (k + 1) s2 (fun i s d hd hi => by
      have := h (i + 1) s d (by simpa using hd) (by rw [show k + (i + 1) = k + 1 + i by omega]; exact hi)
      rw [show k + (i + 1) + 1 = k + 1 + i + 1 by omega] at this
      exact this) h1
    refine ⟨s', e, ?_⟩
    rw [List.length_cons, show k + (ds.length + 1) = k + 1 + ds.length by omega]
    exact h2
/-- a for loop that keeps I -/
theorem forL_inv {tg : Tg} {body : CS} (I : Nat → S → Prop) {ds : List D} {s : S} (h0 : I 0 s) (h : ∀ i s d, ds[i]? = some d → I i s → ∃ s1 s2, tg d s = some s1 ∧ (body s1 = .nx s2 ∨ body s1 = .ct s2) ∧ I (i + 1) s2) : ∃ s', forL tg body ds s = .nx s' ∧ I ds.length s' := by
  obtain ⟨s', e, h1⟩ := forL_from I ds 0 s (fun i s d hd hi => by
    rw [Nat.zero_add] at hi ⊢
    exact h i s d hd hi) h0
  rw [Nat.zero_add] at h1
  exact ⟨s', e, h1⟩
theorem rangeD_at : ∀ (n : Nat) (lo : Int) (i : Nat), i < n → (rangeD lo n)[i]? = some (.int (lo + i))
  | 0, _, _, h => by omega
  | n + 1, lo, 0, _ => by
    show some (PyData.int lo) = _
    rw [show lo + ((0 : Nat) : Int) = lo by omega]
  | n + 1, lo, i + 1, h => by
    show (rangeD (lo + 1) n)[i]? = _
    rw [rangeD_at n (lo + 1) i (by omega), show lo + 1 + (i : Int) = lo + ((i + 1 : Nat) : Int) by omega]
theorem rangeD_lt {n : Nat} {lo : Int} {i : Nat} {d : D} (h : (rangeD lo n)[i]? = some d) : i < n ∧ d = .int (lo + i) := by
  have hl : i < (rangeD lo n).length := (List.getElem?_eq_some_iff.mp h).1
  rw [rangeD_len] at hl
  refine ⟨hl, ?_⟩
  rw [rangeD_at n lo i hl] at h
  cases h
  rfl
@[simp] theorem cFor_s {ci : CI} {tg : Tg} {body : CS} {s : S} : cFor ci tg body s = (ci s).out fun ds s1 => forL tg body ds s1 := Eq.trans rfl rfl
theorem ciR1_s {c : CE} {s s1 : S} {n : Int} (h : c s = .ok (.d (.int n)) s1) (hn : -4611686018427387904 ≤ n) (hn2 : n < 4611686018427387904) : ciR1 c s = .ok (rangeD 0 n.toNat) s1 := by
  unfold ciR1
  rw [cv_s, h, bind_ok, frz_d, bind_ok]
  dsimp only
  rw [if_pos (by unfold small62; simp; omega)]
theorem ciR2_s {c c' : CE} {s s1 s2 : S} {n m : Int} (h : c s = .ok (.d (.int n)) s1) (h' : c' s1 = .ok (.d (.int m)) s2) (hn : -4611686018427387904 ≤ n) (hn2 : n < 4611686018427387904) (hm : -4611686018427387904 ≤ m) (hm2 : m < 4611686018427387904) : ciR2 c c' s = .ok (rangeD n (m - n).toNat) s2 := by
  unfold ciR2
  rw [cv_s, h, bind_ok, frz_d, bind_ok, cv_s, h', bind_ok, frz_d, bind_ok]
  dsimp only
  rw [if_pos ⟨by unfold small62; simp; omega, by unfold small62; simp; omega⟩]
def seqR : Rv → S → R (List D)
  | .d (.list ds), s1 => .ok ds s1
  | .d (.tuple ds), s1 => .ok ds s1
  | _, _ => .bad
@[simp] theorem seqR_l {ds : List D} {s : S} : seqR (.d (.list ds)) s = .ok ds s := Eq.trans rfl rfl
@[simp] theorem seqR_t {ds : List D} {s : S} : seqR (.d (.tuple ds)) s = .ok ds s := Eq.trans rfl rfl
@[simp] theorem ciSeq_s {c : CE} {s : S} : ciSeq c s = (cv c s).bind seqR := by
  unfold ciSeq
  congr 1
  funext a s1
  rcases a with (_ | _ | _ | _ | _ | _ | _) | _ | _ <;> rfl
@[simp] theorem tgN_s {i : Nat} {d : D} {s : S} : tgN i d s = some ⟨s.v.set i (.d d), s.m⟩ := Eq.trans rfl rfl
/-! checks that the kernel runs -/
def isT : RF → Bool
  | .ok (.d (.bool b)) _ => b
  | _ => false
theorem isT_ok {r : RF} (h : isT r = true) : ∃ m, r = .ok (.d (.bool true)) m := by
  unfold isT at h
  split at h
  · subst h
    exact ⟨_, rfl⟩
  · cases h
def newL : RF → Option (List D)
  | .ok (.new (.l ds)) _ => some ds
  | _ => none
theorem newL_ok {r : RF} (h : (newL r).isSome = true) : ∃ ds m, r = .ok (.new (.l ds)) m := by
  unfold newL at h
  split at h
  · exact ⟨_, _, rfl⟩
  · cases h
end Vm

namespace Vm
open PySem L2
/-! ### the pen that is a dict -/
def penC (cells : List Int) (at' left : Int) : Cell := .k [(.inr "cells", .list (cells.map PyData.int)), (.inr "at", .int at'), (.inr "left", .int left)]
section
variable {cells : List Int} {at' left v : Int}
@[simp] theorem odC_pen : odC (some (penC cells at' left)) = some (.c (penC cells at' left)) := rfl
@[simp] theorem pen_cells : opItem (.c (penC cells at' left)) (.d (.str "cells")) = some (.d (.list (cells.map PyData.int))) := by
  simp [opItem, penC, look, keyOf, getD]
@[simp] theorem pen_at : opItem (.c (penC cells at' left)) (.d (.str "at")) = some (.d (.int at')) := by
  have h : ((Sum.inr ("cells" : Str) : L2.Key) = Sum.inr ("at" : Str)) = False := eq_false (by decide)
  simp [opItem, penC, look, keyOf, getD, List.find?, h]
@[simp] theorem pen_left : opItem (.c (penC cells at' left)) (.d (.str "left")) = some (.d (.int left)) := by
  have h : ((Sum.inr ("cells" : Str) : L2.Key) = Sum.inr ("left" : Str)) = False := eq_false (by decide)
  have h2 : ((Sum.inr ("at" : Str) : L2.Key) = Sum.inr ("left" : Str)) = False := eq_false (by decide)
  simp [opItem, penC, look, keyOf, getD, List.find?, h, h2]
@[simp] theorem pen_put_at : putIn (penC cells at' left) (.str "at") (.int v) = some (penC cells v left) := by
  have h : ((Sum.inr ("cells" : Str) : L2.Key) = Sum.inr ("at" : Str)) = False := eq_false (by decide)
  have h2 : ((Sum.inr ("left" : Str) : L2.Key) = Sum.inr ("at" : Str)) = False := eq_false (by decide)
  simp [penC, putIn, keyOf, putD, h, h2]
@[simp] theorem pen_put_left : putIn (penC cells at' left) (.str "left") (.int v) = some (penC cells at' v) := by
  have h : ((Sum.inr ("cells" : Str) : L2.Key) = Sum.inr ("left" : Str)) = False := eq_false (by decide)
  have h2 : ((Sum.inr ("at" : Str) : L2.Key) = Sum.inr ("left" : Str)) = False := eq_false (by decide)
  simp [penC, putIn, keyOf, putD, h, h2]
end
structure IsPen (B : Nat) (p : Cell) : Prop where
  ex : ∃ cells at' left, p = penC cells at' left ∧ cells.length ≤ 63 ∧ 0 ≤ at' ∧ at' ≤ B ∧ 0 ≤ left
theorem IsPen.mono {B C : Nat} {p : Cell} (h : IsPen B p) (hb : B ≤ C) : IsPen C p := by
  obtain ⟨a, b, c, h1, h2, h3, h4, h5⟩ := h.ex
  exact ⟨a, b, c, h1, h2, h3, by omega, h5⟩
/-- a draw from many -/
def IsDraw (f : Fn) (P : Nat → Cell → Prop) : Prop := ∀ (B : Nat) (p : Cell) (r : List Cell) (many : Int), P B p → B < 1000000 → 0 < many → many.natAbs.log2 < 9000 → ∃ v p', f [.c 0, .d (.int many)] (p :: r) = .ok (.d (.int v)) (p' :: r) ∧ 0 ≤ v ∧ v < many ∧ P (B + 1) p'
def cRestA : CS :=
 (cSeq (cIfS (tAnd' (cB (cOp2 opLt (cVar 3) (cOp1 opLen (cOp2 opItem (cVar 0) (cC (.str "cells")))))) (cB (cOp2 opGe (cOp1 opAbs (cVar 4)) (cOp2 opPow (cC (.int 10)) (cC (.int 18))))))
 (cSeq (cPut (cVar 0) (cC (.str "left")) (cOp2 opDiv (cOp1 opAbs (cVar 4)) (cVar 1)))
 (cRet (cOp2 opMod (cOp1 opAbs (cVar 4)) (cVar 1))))
 cNx)
 (cSeq (cSet 5 (cOp2 opIx (cTup (cCons (cC (.int 2147483647)) (cCons (cC (.int 2147483629)) (cCons (cC (.int 2147483587)) (cCons (cC (.int 2147483579)) (cCons (cC (.int 2147483563)) (cCons (cC (.int 2147483549)) (cCons (cC (.int 2147483543)) cNil)))))))) (cOp2 opMod (cVar 3) (cC (.int 7)))))
 (cSeq (cSet 6 (cOp2 opMod (cOp2 opPow (cOp2 opAdd (cOp2 opAdd (cOp2 opAdd (cOp2 opMod (cVar 4) (cC (.int 2147483497))) (cOp2 opMulV (cOp2 opMulV (cC (.int 75329)) (cVar 3)) (cVar 3))) (cOp2 opMulV (cC (.int 30011)) (cVar 3))) (cC (.int 271))) (cC (.int 3))) (cVar 5)))
 (cSeq (cSet 6 (cOp2 opMod (cOp2 opPow (cOp2 opAdd (cOp2 opAdd (cVar 6) (cOp2 opMulV (cC (.int 11)) (cVar 3))) (cC (.int 5))) (cC (.int 2))) (cC (.int 2147483489))))
 (cRet (cOp2 opMod (cOp2 opDiv (cOp2 opMod (cOp2 opMulV (cVar 6) (cC (.int 69621))) (cC (.int 2147483477))) (cC (.int 1013))) (cVar 1)))))))
def cDrawA : CS :=
 (cSeq (cIfS (cB (cOp2 opGt (cOp2 opItem (cVar 0) (cC (.str "left"))) (cC (.int 0))))
 (cSeq (cSet 2 (cOp2 opMod (cOp2 opItem (cVar 0) (cC (.str "left"))) (cVar 1)))
 (cSeq (cPut (cVar 0) (cC (.str "left")) (cOp2 opDiv (cOp2 opItem (cVar 0) (cC (.str "left"))) (cVar 1)))
 (cRet (cVar 2))))
 cNx)
 (cSeq (cSet 3 (cOp2 opItem (cVar 0) (cC (.str "at"))))
 (cSeq (cPut (cVar 0) (cC (.str "at")) (cOp2 opAdd (cVar 3) (cC (.int 1))))
 (cSeq (cSet 4 (cOp2 opAdd (cOp2 opMulV (cC (.int 23)) (cVar 3)) (cC (.int 5))))
 (cSeq (cIfS (cB (cOp2 opGt (cOp1 opLen (cOp2 opItem (cVar 0) (cC (.str "cells")))) (cC (.int 0))))
 (cSet 4 (cOp2 opIx (cOp2 opItem (cVar 0) (cC (.str "cells"))) (cOp2 opMod (cVar 3) (cOp1 opLen (cOp2 opItem (cVar 0) (cC (.str "cells")))))))
 cNx)
 cRestA)))))
def fDrawA : Fn := runF 7 cDrawA
theorem restA {cells : List Int} {at' c many : Int} {r : List Cell} {B : Nat} (h63 : cells.length ≤ 63) (ha0 : 0 ≤ at') (haB : at' ≤ B) (hB : B < 1000000) (hm : 0 < many) (hm2 : many.natAbs.log2 < 9000) :
    ∃ v p' v', cRestA ⟨[.c 0, .d (.int many), .u, .d (.int at'), .d (.int c), .u, .u], penC cells (at' + 1) 0 :: r⟩ = .rt (.d (.int v)) ⟨v', p' :: r⟩ ∧ 0 ≤ v ∧ v < many ∧ IsPen (B + 1) p' := by
  have hp : opPow (.d (.int 10)) (.d (.int 18)) = some (.d (.int 1000000000000000000)) := rfl
  obtain ⟨a, ha⟩ : ∃ a : Int, (if c < 0 then -c else c) = a := ⟨_, rfl⟩
  have oa : opAbs (.d (.int c)) = some (.d (.int a)) := by rw [← ha]; rfl
  have ab : 0 ≤ a := by rw [← ha]; split <;> omega
  by_cases h : at' < cells.length ∧ 1000000000000000000 ≤ a
  · refine ⟨a % many, penC cells (at' + 1) (a / many), [.c 0, .d (.int many), .u, .d (.int at'), .d (.int c), .u, .u], ?_, Int.emod_nonneg _ (by omega), Int.emod_lt_of_pos _ hm, cells, at' + 1, _, rfl, h63, by omega, by omega, Int.ediv_nonneg ab (by omega)⟩
    simp [-opAbs_i, oa, cRestA, hp, h.1, h.2, opMod_i hm, opDiv_i hm hm2]
  · have hn : (at' < cells.length → ¬ (1000000000000000000 ≤ a)) := fun a b => h ⟨a, b⟩
    obtain ⟨pr, hpr, hp0, hpb⟩ : ∃ pr : Int, atI [PyData.int 2147483647, .int 2147483629, .int 2147483587, .int 2147483579, .int 2147483563, .int 2147483549, .int 2147483543] (at' % 7) = some (.int pr) ∧ 0 < pr ∧ pr ≤ 2147483647 := by
      have h7 : at' % 7 = 0 ∨ at' % 7 = 1 ∨ at' % 7 = 2 ∨ at' % 7 = 3 ∨ at' % 7 = 4 ∨ at' % 7 = 5 ∨ at' % 7 = 6 := by omega
      rcases h7 with e | e | e | e | e | e | e <;> rw [e]
      · exact ⟨2147483647, rfl, by decide, by decide⟩
      · exact ⟨2147483629, rfl, by decide, by decide⟩
      · exact ⟨2147483587, rfl, by decide, by decide⟩
      · exact ⟨2147483579, rfl, by decide, by decide⟩
      · exact ⟨2147483563, rfl, by decide, by decide⟩
      · exact ⟨2147483549, rfl, by decide, by decide⟩
      · exact ⟨2147483543, rfl, by decide, by decide⟩
    have hc1 : 0 ≤ c % 2147483497 := Int.emod_nonneg _ (by decide)
    have hc2 : c % 2147483497 < 2147483497 := Int.emod_lt_of_pos _ (by decide)
    have hb1 : 75329 * at' * at' ≤ 75329 * 1000000 * 1000000 := Int.mul_le_mul (by omega) (by omega) ha0 (by omega)
    have hb0 : 0 ≤ 75329 * at' * at' := Int.mul_nonneg (by omega) ha0
    have m1 : opMulV (.d (.int 75329)) (.d (.int at')) = some (.d (.int (75329 * at'))) := opMul_i (mulOk_small (by omega) (by omega))
    have m2 : opMulV (.d (.int (75329 * at'))) (.d (.int at')) = some (.d (.int (75329 * at' * at'))) := opMul_i (mulOk_small (by omega) (by omega))
    have m3 : opMulV (.d (.int 30011)) (.d (.int at')) = some (.d (.int (30011 * at'))) := opMul_i (mulOk_small (by omega) (by omega))
    have m4 : opMulV (.d (.int 11)) (.d (.int at')) = some (.d (.int (11 * at'))) := opMul_i (mulOk_small (by omega) (by omega))
    have p1 : opPow (.d (.int (c % 2147483497 + 75329 * at' * at' + 30011 * at' + 271))) (.d (.int 3)) = some (.d (.int ((c % 2147483497 + 75329 * at' * at' + 30011 * at' + 271) ^ 3))) := opPow_i (by decide) (by decide) (by omega)
    generalize hx : (c % 2147483497 + 75329 * at' * at' + 30011 * at' + 271) ^ 3 % pr = x at *
    have hx0 : 0 ≤ x := by rw [← hx]; exact Int.emod_nonneg _ (by omega)
    have hx1 : x < 2147483647 := by have := Int.emod_lt_of_pos ((c % 2147483497 + 75329 * at' * at' + 30011 * at' + 271) ^ 3) hp0; omega
    have p2 : opPow (.d (.int (x + 11 * at' + 5))) (.d (.int 2)) = some (.d (.int ((x + 11 * at' + 5) ^ 2))) := opPow_i (by decide) (by decide) (by omega)
    generalize hy : (x + 11 * at' + 5) ^ 2 % 2147483489 = y at *
    have hy0 : 0 ≤ y := by rw [← hy]; exact Int.emod_nonneg _ (by omega)
    have hy1 : y < 2147483489 := by rw [← hy]; exact Int.emod_lt_of_pos _ (by decide)
    have m5 : opMulV (.d (.int y)) (.d (.int 69621)) = some (.d (.int (y * 69621))) := opMul_i (mulOk_small (by omega) (by omega))
    refine ⟨y * 69621 % 2147483477 / 1013 % many, penC cells (at' + 1) 0, [.c 0, .d (.int many), .u, .d (.int at'), .d (.int c), .d (.int pr), .d (.int y)], ?_, Int.emod_nonneg _ (by omega), Int.emod_lt_of_pos _ hm, cells, at' + 1, 0, rfl, h63, by omega, by omega, by omega⟩
    have ix := opIx_t hpr
    by_cases h1 : at' < cells.length
    · simp [-opAbs_i, oa, cRestA, hp, h1, hn h1, opMod_i hm, opMod_i, opDiv_s, m1, m2, m3, m4, m5, p1, p2, hx, hy, ix, hp0]
    · simp [-opAbs_i, oa, cRestA, hp, h1, opMod_i hm, opMod_i, opDiv_s, m1, m2, m3, m4, m5, p1, p2, hx, hy, ix, hp0]
theorem drawA : IsDraw fDrawA IsPen := by
  intro B p r many hp hB hm hm2
  obtain ⟨cells, at', left, rfl, h63, ha0, haB, hl⟩ := hp.ex
  unfold fDrawA
  rw [runF_s]
  by_cases h : 0 < left
  · refine ⟨left % many, penC cells at' (left / many), ?_, Int.emod_nonneg _ (by omega), Int.emod_lt_of_pos _ hm, cells, at', left / many, rfl, h63, ha0, by omega, Int.ediv_nonneg hl (by omega)⟩
    simp [cDrawA, h, opMod_i hm, opDiv_i hm hm2]
  · have hl0 : left = 0 := by omega
    subst hl0
    have m1 : opMulV (.d (.int 23)) (.d (.int at')) = some (.d (.int (23 * at'))) := opMul_i (mulOk_small (by omega) (by omega))
    by_cases hc : 0 < cells.length
    · have hc' : (0 : Int) < cells.length := by omega
      have hi0 : 0 ≤ at' % cells.length := Int.emod_nonneg _ (by omega)
      have hi1 : at' % cells.length < cells.length := Int.emod_lt_of_pos _ hc'
      obtain ⟨c, hcx⟩ : ∃ c, cells[(at' % (cells.length : Int)).toNat]? = some c := ⟨_, List.getElem?_eq_getElem (by omega)⟩
      have ix := opIx_l (ds := cells.map PyData.int) (i := at' % cells.length) (x := .int c) (atI_nat hi0 (by rw [List.getElem?_map, hcx]; rfl))
      obtain ⟨v, p', v', e, h1, h2, h3⟩ := restA (c := c) (r := r) h63 ha0 haB hB hm hm2
      refine ⟨v, p', ?_, h1, h2, h3⟩
      simp [cDrawA, h, m1, hc, hc', opMod_i hc', ix, e]
    · obtain ⟨v, p', v', e, h1, h2, h3⟩ := restA (c := 23 * at' + 5) (r := r) h63 ha0 haB hB hm hm2
      refine ⟨v, p', ?_, h1, h2, h3⟩
      simp [cDrawA, h, m1, hc, e]
def cDrawB : CS :=
 (cSeq (cIfS (cB (cOp2 opGt (cOp2 opItem (cVar 0) (cC (.str "left"))) (cC (.int 0))))
 (cSeq (cSet 2 (cOp2 opMod (cOp2 opItem (cVar 0) (cC (.str "left"))) (cVar 1)))
 (cSeq (cPut (cVar 0) (cC (.str "left")) (cOp2 opDiv (cOp2 opItem (cVar 0) (cC (.str "left"))) (cVar 1)))
 (cRet (cVar 2))))
 cNx)
 (cSeq (cSet 3 (cOp2 opItem (cVar 0) (cC (.str "at"))))
 (cSeq (cPut (cVar 0) (cC (.str "at")) (cOp2 opAdd (cVar 3) (cC (.int 1))))
 (cSeq (cSet 4 (cOp2 opAdd (cOp2 opMulV (cOp2 opMulV (cC (.int 11)) (cVar 3)) (cVar 3)) (cC (.int 5))))
 (cSeq (cIfS (cB (cOp2 opGt (cOp1 opLen (cOp2 opItem (cVar 0) (cC (.str "cells")))) (cC (.int 0))))
 (cSet 4 (cOp2 opIx (cOp2 opItem (cVar 0) (cC (.str "cells"))) (cOp2 opMod (cVar 3) (cOp1 opLen (cOp2 opItem (cVar 0) (cC (.str "cells")))))))
 cNx)
 (cSeq (cIfS (tAnd' (cB (cOp2 opLt (cVar 3) (cOp1 opLen (cOp2 opItem (cVar 0) (cC (.str "cells")))))) (cB (cOp2 opGe (cOp1 opAbs (cVar 4)) (cOp2 opPow (cC (.int 10)) (cC (.int 18))))))
 (cSeq (cPut (cVar 0) (cC (.str "left")) (cOp2 opDiv (cOp1 opAbs (cVar 4)) (cVar 1)))
 (cRet (cOp2 opMod (cOp1 opAbs (cVar 4)) (cVar 1))))
 cNx)
 (cSeq (cSet 5 (cOp2 opMod (cOp2 opMulV (cOp2 opAdd (cOp2 opAdd (cOp2 opMod (cVar 4) (cC (.int 2147483629))) (cOp2 opMulV (cC (.int 104729)) (cVar 3))) (cC (.int 1))) (cC (.int 48271))) (cC (.int 2147483647))))
 (cSeq (cSet 5 (cOp2 opMod (cOp2 opAdd (cOp2 opAdd (cOp2 opMulV (cVar 5) (cVar 5)) (cOp2 opMulV (cC (.int 69621)) (cVar 5))) (cVar 3)) (cC (.int 2147483587))))
 (cSeq (cSet 5 (cOp2 opMod (cOp2 opMulV (cVar 5) (cOp2 opAdd (cOp2 opMod (cVar 5) (cC (.int 65521))) (cC (.int 3)))) (cC (.int 2147483579))))
 (cRet (cOp2 opMod (cOp2 opDiv (cVar 5) (cC (.int 64))) (cVar 1))))))))))))
def fDrawB : Fn := runF 6 cDrawB
end Vm

namespace Vm
open PySem L2
/-! ### more runs step by step -/
/-- the cell of a list -/
def mutR (f : List D → List D → Option (D × List D)) (ca : CA) : Rv → S → R Rv
  | .ref n, s1 => match s1.m[n]? with
    | some (.l _) => (ca s1).bind fun ds s2 => match s2.m[n]? with
      | some (.l xs) => match f xs ds with
        | some (d, ys) => .ok (.d d) ⟨s2.v, s2.m.set n (.l ys)⟩
        | none => .bad
      | _ => .bad
    | _ => .bad
  | _, _ => .bad
@[simp] theorem cMut_s {f : List D → List D → Option (D × List D)} {co : CE} {ca : CA} {s : S} : cMut f co ca s = (cv co s).bind (mutR f ca) := by
  unfold cMut
  congr 1
  funext a s1
  cases a <;> rfl
def mutK (v : List Sl) (m : List Cell) (n : Nat) : Option (D × List D) → R Rv
  | some (d, ys) => .ok (.d d) ⟨v, m.set n (.l ys)⟩
  | none => .bad
@[simp] theorem mutK_s {v : List Sl} {m : List Cell} {n : Nat} {d : D} {ys : List D} : mutK v m n (some (d, ys)) = .ok (.d d) ⟨v, m.set n (.l ys)⟩ := Eq.trans rfl rfl
def mutA (f : List D → List D → Option (D × List D)) (n : Nat) (ds : List D) (s2 : S) : R Rv := match s2.m[n]? with
  | some (.l xs) => mutK s2.v s2.m n (f xs ds)
  | _ => .bad
@[simp] theorem mutA_s {f : List D → List D → Option (D × List D)} {n : Nat} {ds xs : List D} {s2 : S} (h : s2.m[n]? = some (.l xs)) : mutA f n ds s2 = mutK s2.v s2.m n (f xs ds) := by
  unfold mutA
  rw [h]
@[simp] theorem mutR_s {f : List D → List D → Option (D × List D)} {ca : CA} {n : Nat} {s1 : S} {xs : List D} (h : s1.m[n]? = some (.l xs)) : mutR f ca (.ref n) s1 = (ca s1).bind (mutA f n) := by
  unfold mutR
  dsimp only
  rw [h]
  dsimp only
  congr 1
@[simp] theorem fRev_s {xs : List D} : fRev xs [] = some (.none, xs.reverse) := Eq.trans rfl rfl
@[simp] theorem fClr_s {xs : List D} : fClr xs [] = some (.none, []) := Eq.trans rfl rfl
theorem fApp_s {xs : List D} {d : D} (h : xs.length < 16000000) : fApp xs [d] = some (.none, xs ++ [d]) := by
  show (if xs.length < 16000000 then _ else _) = _
  rw [if_pos h]
theorem fExt_s {xs ys : List D} (h : xs.length + ys.length ≤ 16000000) : fExt xs [.list ys] = some (.none, xs ++ ys) := by
  show (if xs.length + ys.length ≤ 16000000 then _ else _) = _
  rw [if_pos h]
/-- xs[i] = e -/
def putLR (i o v : Rv) (s3 : S) : Out := match v, o, i with
  | .d v, .ref n, .d (.int k) => match s3.m[n]? with
    | some (.l xs) => match ixN xs.length k with
      | some j => .nx ⟨s3.v, s3.m.set n (.l (xs.set j v))⟩
      | none => .bad
    | _ => .bad
  | _, _, _ => .bad
def kPutL3 (o v i : Rv) (s3 : S) : Out := putLR i o v s3
@[simp] theorem kPutL3_s {o v i : Rv} {s3 : S} : kPutL3 o v i s3 = putLR i o v s3 := Eq.trans rfl rfl
def kPutL2 (ci : CE) (v o : Rv) (s2 : S) : Out := (cv ci s2).out (kPutL3 o v)
@[simp] theorem kPutL2_s {ci : CE} {v o : Rv} {s2 : S} : kPutL2 ci v o s2 = (cv ci s2).out (kPutL3 o v) := Eq.trans rfl rfl
def kPutL1 (co ci : CE) (v : Rv) (s1 : S) : Out := (cv co s1).out (kPutL2 ci v)
@[simp] theorem kPutL1_s {co ci : CE} {v : Rv} {s1 : S} : kPutL1 co ci v s1 = (cv co s1).out (kPutL2 ci v) := Eq.trans rfl rfl
@[simp] theorem cPutL_s {co ci cw : CE} {s : S} : cPutL co ci cw s = (cv cw s).out (kPutL1 co ci) := Eq.trans rfl rfl
theorem putLR_s {n : Nat} {k : Int} {v : D} {s3 : S} {xs : List D} (h : s3.m[n]? = some (.l xs)) (h0 : 0 ≤ k) (h1 : k < xs.length) : putLR (.d (.int k)) (.ref n) (.d v) s3 = .nx ⟨s3.v, s3.m.set n (.l (xs.set k.toNat v))⟩ := by
  unfold putLR
  dsimp only
  rw [h]
  dsimp only
  unfold ixN
  rw [if_pos h0, if_pos (by omega)]
/-! slices -/
@[simp] theorem cPt_n {s : S} : cPt none s = .ok none s := Eq.trans rfl rfl
def intR : Rv → S → R Int
  | .d (.int i), s => .ok i s
  | _, _ => .bad
@[simp] theorem intR_i {i : Int} {s : S} : intR (.d (.int i)) s = .ok i s := Eq.trans rfl rfl
@[simp] theorem cI_s {c : CE} {s : S} : cI c s = (cv c s).bind intR := by
  unfold cI
  congr 1
  funext a s1
  rcases a with (_ | _ | _ | _ | _ | _ | _) | _ | _ <;> rfl
def kPt (i : Int) (s1 : S) : R (Option Int) := .ok (some i) s1
@[simp] theorem kPt_s {i : Int} {s1 : S} : kPt i s1 = .ok (some i) s1 := Eq.trans rfl rfl
@[simp] theorem cPt_s {c : CE} {s : S} : cPt (some c) s = (cI c s).bind kPt := Eq.trans rfl rfl
def kSl3 (a : Rv) (l u : Option Int) (s3 : S) : R Rv := odK1 (fun o => opSl o l u) (a.od s3.m) s3
@[simp] theorem kSl3_s {a : Rv} {l u : Option Int} {s3 : S} : kSl3 a l u s3 = odK1 (fun o => opSl o l u) (a.od s3.m) s3 := Eq.trans rfl rfl
def kSl2 (hi : S → R (Option Int)) (a : Rv) (l : Option Int) (s2 : S) : R Rv := (hi s2).bind (kSl3 a l)
@[simp] theorem kSl2_s {hi : S → R (Option Int)} {a : Rv} {l : Option Int} {s2 : S} : kSl2 hi a l s2 = (hi s2).bind (kSl3 a l) := Eq.trans rfl rfl
def kSl1 (lo hi : S → R (Option Int)) (a : Rv) (s1 : S) : R Rv := (lo s1).bind (kSl2 hi a)
@[simp] theorem kSl1_s {lo hi : S → R (Option Int)} {a : Rv} {s1 : S} : kSl1 lo hi a s1 = (lo s1).bind (kSl2 hi a) := Eq.trans rfl rfl
@[simp] theorem cSl_s {c : CE} {lo hi : S → R (Option Int)} {s : S} : cSl c lo hi s = (cv c s).bind (kSl1 lo hi) := by
  unfold cSl
  congr 1
  funext a s1
  rw [kSl1_s]
  congr 1
  funext l s2
  rw [kSl2_s]
  congr 1
  funext u s3
  rw [kSl3_s]
  cases a.od s3.m with
  | none => rfl
  | some o => exact opt_rv
@[simp] theorem opSl_l {ds : List D} {lo hi : Option Int} : opSl (.d (.list ds)) lo hi = some (.new (.l (cutD ds lo hi))) := Eq.trans rfl rfl
@[simp] theorem opSl_t {ds : List D} {lo hi : Option Int} : opSl (.d (.tuple ds)) lo hi = some (.d (.tuple (cutD ds lo hi))) := Eq.trans rfl rfl
theorem cutD_to {α : Type} {xs : List α} {k : Int} (h : 0 ≤ k) : cutD xs none (some k) = xs.take k.toNat := by
  unfold cutD HT.sIx
  dsimp only
  rw [if_neg (by omega), List.drop_zero, Nat.sub_zero]
  by_cases hl : k.toNat ≤ xs.length
  · rw [Nat.min_eq_left hl]
  · rw [Nat.min_eq_right (by omega), List.take_length, List.take_of_length_le (by omega)]
theorem cutD_from {α : Type} {xs : List α} {k : Int} (h : 0 ≤ k) : cutD xs (some k) none = xs.drop k.toNat := by
  unfold cutD HT.sIx
  dsimp only
  rw [if_neg (by omega)]
  by_cases hl : k.toNat ≤ xs.length
  · rw [Nat.min_eq_left hl, List.take_of_length_le (by rw [List.length_drop]; omega)]
  · rw [Nat.min_eq_right (by omega), List.drop_length, List.drop_of_length_le (by omega), List.take_nil]
/-! dicts -/
def kDisp (ks : List L2.Key) (ds : List D) (s1 : S) : R Rv := .ok (.new (.k (mergeD [] ks ds))) s1
@[simp] theorem kDisp_s {ks : List L2.Key} {ds : List D} {s1 : S} : kDisp ks ds s1 = .ok (.new (.k (mergeD [] ks ds))) s1 := Eq.trans rfl rfl
@[simp] theorem cDisp_s {ks : List L2.Key} {ca : CA} {s : S} : cDisp ks ca s = (ca s).bind (kDisp ks) := Eq.trans rfl rfl
theorem merge_pen {a b c : D} : mergeD [] [.inr "cells", .inr "at", .inr "left"] [a, b, c] = [(.inr "cells", a), (.inr "at", b), (.inr "left", c)] := by
  have h : ((Sum.inr ("cells" : Str) : L2.Key) = Sum.inr ("at" : Str)) = False := eq_false (by decide)
  have h2 : ((Sum.inr ("cells" : Str) : L2.Key) = Sum.inr ("left" : Str)) = False := eq_false (by decide)
  have h3 : ((Sum.inr ("at" : Str) : L2.Key) = Sum.inr ("left" : Str)) = False := eq_false (by decide)
  simp [mergeD, putD, h, h2, h3]
def fPen : Fn := runF 1 (cRet (cDisp [(.inr "cells"), (.inr "at"), (.inr "left")] (cCons (cSl (cVar 0) (cPt none) (cPt (some (cC (.int 63))))) (cCons (cC (.int 0)) (cCons (cC (.int 0)) cNil)))))
theorem pen_new {ns : List Int} (h : ns.length ≤ 63) : fPen [.d (.list (ns.map PyData.int))] [] = .ok (.new (penC ns 0 0)) [] := by
  unfold fPen
  rw [runF_s]
  have e : cutD (ns.map PyData.int) none (some 63) = ns.map PyData.int := by
    rw [cutD_to (by decide)]
    exact List.take_of_length_le (by rw [List.length_map]; exact h)
  simp [e, merge_pen, penC]
theorem pen_is {ns : List Int} (h : ns.length ≤ 63) : IsPen 0 (penC ns 0 0) := ⟨ns, 0, 0, rfl, h, by decide, by decide, by decide⟩
@[simp] theorem setMR_pen {i : Nat} {a : List Int} {b c : Int} {s1 : S} : setMR i (.new (penC a b c)) s1 = .nx ⟨s1.v.set i (.c s1.m.length), s1.m ++ [penC a b c]⟩ := Eq.trans rfl rfl
@[simp] theorem pure_pen {a : List Int} {b c : Int} {m : List Cell} {s : S} : (RF.ok (.new (penC a b c)) m).pure s = .ok (.new (penC a b c)) s := Eq.trans rfl rfl
/-! comprehensions -/
theorem lcL_map {own : List Nat} {v0 : List Sl} {tg : Tg} {tt : CT} {el : CE} {m : List Cell} {p : D → Bool} {g : D → D} : ∀ (ds acc : List D), (∀ d, d ∈ ds → ∃ t, tg d ⟨wipeV v0 own, m⟩ = some t ∧ ∃ t2, tt t = .ok (p d) t2 ∧ (p d = false → t2.m = m) ∧ (p d = true → ∃ v3, cv el t2 = .ok (.d (g d)) ⟨v3, m⟩)) →
    lcL own v0 tg tt el ds acc m = .ok (.new (.l (acc ++ (ds.filter p).map g))) ⟨v0, m⟩
  | [], acc, _ => by
    show R.ok (Rv.new (.l acc)) _ = _
    rw [List.filter_nil, List.map_nil, List.append_nil]
  | d :: ds, acc, h => by
    obtain ⟨t, h1, t2, h2, h3, h4⟩ := h d (List.mem_cons_self ..)
    have ih := lcL_map (own := own) (v0 := v0) (tg := tg) (tt := tt) (el := el) (m := m) (p := p) (g := g) ds
    unfold lcL
    rw [h1]
    dsimp only
    rw [h2]
    show (if p d = true then _ else _) = _
    cases hp : p d with
    | false =>
      rw [if_neg (by decide), h3 hp, ih acc fun x hx => h x (List.mem_cons_of_mem _ hx), List.filter_cons_of_neg (by rw [hp]; decide)]
    | true =>
      obtain ⟨v3, h5⟩ := h4 hp
      rw [if_pos rfl, h5]
      show lcL own v0 tg tt el ds (acc ++ [g d]) m = _
      rw [ih (acc ++ [g d]) fun x hx => h x (List.mem_cons_of_mem _ hx), List.filter_cons_of_pos hp, List.map_cons, List.append_assoc]
      rfl
/-- a comprehension that keeps the cells -/
theorem lc_map {own : List Nat} {ci : CI} {tg : Tg} {tt : CT} {el : CE} {s s1 : S} {ds : List D} (p : D → Bool) (g : D → D) (h : ci s = .ok ds s1) (hl : ds.length ≤ 16000000)
    (hb : ∀ d, d ∈ ds → ∃ t, tg d ⟨wipeV s1.v own, s1.m⟩ = some t ∧ ∃ t2, tt t = .ok (p d) t2 ∧ (p d = false → t2.m = s1.m) ∧ (p d = true → ∃ v3, cv el t2 = .ok (.d (g d)) ⟨v3, s1.m⟩)) :
    cLc own ci tg tt el s = .ok (.new (.l ((ds.filter p).map g))) s1 := by
  unfold cLc
  rw [h, bind_ok, if_pos hl, lcL_map ds [] hb]
  rfl
/-- without an if -/
theorem lc_all {own : List Nat} {ci : CI} {tg : Tg} {el : CE} {s s1 : S} {ds : List D} (g : D → D) (h : ci s = .ok ds s1) (hl : ds.length ≤ 16000000)
    (hb : ∀ d, d ∈ ds → ∃ t, tg d ⟨wipeV s1.v own, s1.m⟩ = some t ∧ ∃ v3, cv el t = .ok (.d (g d)) ⟨v3, s1.m⟩) :
    cLc own ci tg ctYes el s = .ok (.new (.l (ds.map g))) s1 := by
  have := lc_map (own := own) (tt := ctYes) (el := el) (tg := tg) (fun _ => true) g h hl fun d hd => by
    obtain ⟨t, h1, v3, h2⟩ := hb d hd
    exact ⟨t, h1, t, rfl, (fun q => by cases q), fun _ => ⟨v3, h2⟩⟩
  rw [this, List.filter_eq_self.mpr fun _ _ => rfl]
/-- a comprehension that changes the cells: I k acc m -/
theorem lcL_inv {own : List Nat} {v0 : List Sl} {tg : Tg} {tt : CT} {el : CE} (I : Nat → List D → List Cell → Prop) : ∀ (ds : List D) (k : Nat) (acc : List D) (m : List Cell), (∀ i acc m d, ds[i]? = some d → I (k + i) acc m → ∃ t, tg d ⟨wipeV v0 own, m⟩ = some t ∧ ∃ b t2, tt t = .ok b t2 ∧ (b = false → I (k + i + 1) acc t2.m) ∧ (b = true → ∃ x s3, cv el t2 = .ok (.d x) s3 ∧ I (k + i + 1) (acc ++ [x]) s3.m)) →
    I k acc m → ∃ acc' m', lcL own v0 tg tt el ds acc m = .ok (.new (.l acc')) ⟨v0, m'⟩ ∧ I (k + ds.length) acc' m'
  | [], k, acc, m, _, h0 => ⟨acc, m, rfl, h0⟩
  | d :: ds, k, acc, m, h, h0 => by
    obtain ⟨t, h1, b, t2, h2, h3, h4⟩ := h 0 acc m d rfl h0
    have go : ∀ acc2 m2, I (k + 1) acc2 m2 → ∃ acc' m', lcL own v0 tg tt el ds acc2 m2 = .ok (.new (.l acc')) ⟨v0, m'⟩ ∧ I (k + (ds.length + 1)) acc' m' := fun acc2 m2 hi => by
      obtain ⟨a, b, e, q⟩ := lcL_inv I ds (k + 1) acc2 m2 (fun i acc m d hd hi => by
        have := h (i + 1) acc m d (by simpa using hd) (by rw [show k + (i + 1) = k + 1 + i by omega]; exact hi)
        rw [show k + (i + 1) + 1 = k + 1 + i + 1 by omega] at this
        exact this) hi
      exact ⟨a, b, e, by rw [show k + (ds.length + 1) = k + 1 + ds.length by omega]; exact q⟩
    unfold lcL
    rw [h1]
    dsimp only
    rw [h2]
    cases b with
    | false =>
      obtain ⟨a, b, e, q⟩ := go acc t2.m (h3 rfl)
      exact ⟨a, b, e, q⟩
    | true =>
      obtain ⟨x, s3, h5, h6⟩ := h4 rfl
      obtain ⟨a, b, e, q⟩ := go (acc ++ [x]) s3.m h6
      refine ⟨a, b, ?_, q⟩
      show ((cv el t2).nx.bind _) = _
      rw [h5]
      exact e
theorem lc_inv {own : List Nat} {ci : CI} {tg : Tg} {tt : CT} {el : CE} {s s1 : S} {ds : List D} (I : Nat → List D → List Cell → Prop) (h : ci s = .ok ds s1) (hl : ds.length ≤ 16000000) (h0 : I 0 [] s1.m)
    (hb : ∀ i acc m d, ds[i]? = some d → I i acc m → ∃ t, tg d ⟨wipeV s1.v own, m⟩ = some t ∧ ∃ b t2, tt t = .ok b t2 ∧ (b = false → I (i + 1) acc t2.m) ∧ (b = true → ∃ x s3, cv el t2 = .ok (.d x) s3 ∧ I (i + 1) (acc ++ [x]) s3.m)) :
    ∃ acc' m', cLc own ci tg tt el s = .ok (.new (.l acc')) ⟨s1.v, m'⟩ ∧ I ds.length acc' m' := by
  obtain ⟨a, b, e, q⟩ := lcL_inv (own := own) (v0 := s1.v) (tg := tg) (tt := tt) (el := el) I ds 0 [] s1.m (fun i acc m d hd hi => by
    rw [Nat.zero_add] at hi ⊢
    exact hb i acc m d hd hi) h0
  rw [Nat.zero_add] at q
  refine ⟨a, b, ?_, q⟩
  unfold cLc
  rw [h, bind_ok, if_pos hl]
  exact e
@[simp] theorem ctYes_s {s : S} : ctYes s = .ok true s := Eq.trans rfl rfl
/-! two names at once -/
def parR (i j : Nat) (x y : Rv) (s2 : S) : Out := match slOf x, slOf y with
  | some p, some q => .nx ⟨(s2.v.set i p).set j q, s2.m⟩
  | _, _ => .bad
@[simp] theorem parR_d {i j : Nat} {x y : D} {s : S} : parR i j (.d x) (.d y) s = .nx ⟨(s.v.set i (.d x)).set j (.d y), s.m⟩ := Eq.trans rfl rfl
def kPar (i j : Nat) (b : CE) (x : Rv) (s1 : S) : Out := (cv b s1).out (parR i j x)
@[simp] theorem kPar_s {i j : Nat} {b : CE} {x : Rv} {s1 : S} : kPar i j b x s1 = (cv b s1).out (parR i j x) := Eq.trans rfl rfl
@[simp] theorem cPar_s {i j : Nat} {a b : CE} {s : S} : cPar i j a b s = (cv a s).out (kPar i j b) := Eq.trans rfl rfl
theorem ciR1_c {n : Int} {s : S} (hn : -4611686018427387904 ≤ n) (hn2 : n < 4611686018427387904) : ciR1 (cC (.int n)) s = .ok (rangeD 0 n.toNat) s := ciR1_s rfl hn hn2
theorem ciR2_c {n m : Int} {s : S} (hn : -4611686018427387904 ≤ n) (hn2 : n < 4611686018427387904) (hm : -4611686018427387904 ≤ m) (hm2 : m < 4611686018427387904) : ciR2 (cC (.int n)) (cC (.int m)) s = .ok (rangeD n (m - n).toNat) s := ciR2_s rfl rfl hn hn2 hm hm2
/-! while -/
def Out.whk (o : Out) (k : S → Out) : Out := match o with
  | .nx s2 => k s2
  | .ct s2 => k s2
  | .bk s2 => .nx s2
  | o => o
theorem whL_s {t : CT} {b : CS} {n : Nat} {s : S} : whL t b (n + 1) s = (t s).out fun x s1 => if x = true then (b s1).loop (whL t b n) else .nx s1 := by
  show (t s).out _ = _
  congr 1
/-- a while loop: the variant falls, the invariant stays -/
theorem whL_inv {t : CT} {b : CS} (I : Nat → S → Prop) (Q : S → Prop) (h : ∀ k s, I k s → (∃ s1, t s = .ok false s1 ∧ Q s1) ∨ ∃ s1 s2 j, t s = .ok true s1 ∧ (b s1 = .nx s2 ∨ b s1 = .ct s2) ∧ j < k ∧ I j s2) : ∀ (n k : Nat) (s : S), k < n → I k s → ∃ s', whL t b n s = .nx s' ∧ Q s'
  | 0, k, s, hn, _ => by omega
  | n + 1, k, s, hn, hi => by
    rw [whL_s]
    rcases h k s hi with ⟨s1, e, q⟩ | ⟨s1, s2, j, e, e2, hj, q⟩
    · refine ⟨s1, ?_, q⟩
      rw [e]
      rfl
    · rw [e]
      obtain ⟨s', e3, q'⟩ := whL_inv I Q h n j s2 (by omega) q
      refine ⟨s', ?_, q'⟩
      rcases e2 with e2 | e2 <;> (show ((b s1).loop _) = _; rw [e2]; exact e3)
end Vm

namespace Vm
open PySem L2 PySem.Spec PyProof.Rows
/-! ### repr -/
def okr (d : D) : Bool := okd d && d.showable && decide (d.shown.length ≤ 16000000)
theorem plain_noDict : (∀ d : D, d.plain = true → d.hasDict = false) ∧ (∀ p : D × D, True) ∧ (∀ ds : List D, PyData.plainAll ds = true → PyData.hasDictAll ds = false) ∧ (∀ kvs : List (D × D), True) := by
  refine ⟨?_, fun _ => trivial, ?_, fun _ => trivial⟩
  · exact noD
  · exact noDs
where
  noD : ∀ d : D, d.plain = true → d.hasDict = false
    | .none, _ => rfl
    | .bool _, _ => rfl
    | .int _, _ => rfl
    | .str _, _ => rfl
    | .list xs, h => by
      simp only [PyData.hasDict]
      exact noDs xs (by simpa [PyData.plain] using h)
    | .tuple xs, h => by
      simp only [PyData.hasDict]
      exact noDs xs (by simpa [PyData.plain] using h)
    | .dict _, h => nomatch h
  noDs : ∀ ds : List D, PyData.plainAll ds = true → PyData.hasDictAll ds = false
    | [], _ => rfl
    | x :: xs, h => by
      have h2 : x.plain = true ∧ PyData.plainAll xs = true := by simpa [PyData.plainAll] using h
      simp only [PyData.hasDictAll, noD x h2.1, noDs xs h2.2, Bool.or_self]
mutual
def noLs : D → Bool
  | .none | .bool _ | .int _ | .str _ => true
  | .list _ => false
  | .tuple xs => noLsAll xs
  | .dict es => noLsKv es
def noLsAll : List D → Bool
  | [] => true
  | x :: xs => noLs x && noLsAll xs
def noLsKv : List (D × D) → Bool
  | [] => true
  | (k, v) :: r => noLs k && noLs v && noLsKv r
end
mutual
theorem Rp.readsN {X : Cx} {pins : List (Addr × Obj)} {σ : L2.St} {H : Hp} {s : Shared} (I : Inv X pins σ H s) : ∀ (d : D) (v : V) (u : Value), noLs d = true → Rp X.K H v d → RelV v u → ∃ as, Reads s.heap u d as ∧ sysModules ∉ as
  | .none, _, _, _, h, r => by
    cases h
    cases r
    exact ⟨_, Reads.none, by simp⟩
  | .bool b, _, _, _, h, r => by
    cases h
    cases r
    exact ⟨_, Reads.bool b, by simp⟩
  | .int i, _, _, _, h, r => by
    cases h
    obtain ⟨t, rfl⟩ := r
    exact ⟨_, Reads.int i t, by simp⟩
  | .str x, _, _, _, h, r => by
    cases h
    obtain ⟨t, rfl⟩ := r
    exact ⟨_, Reads.str x t, by simp⟩
  | .list _, _, _, hp, _, _ => by simp [noLs] at hp
  | .tuple ds, _, _, hp, h, r => by
    cases h with
    | tup hs ha =>
      cases r
      obtain ⟨its, rv, ⟨o, ho, hc, n, hd⟩, _⟩ := I.tuple (SqT.of (K := X.K) hs)
      obtain ⟨as, hr, hn⟩ := RpAll.readsN I ds _ its (by simpa [noLs] using hp) ha rv
      exact ⟨_, Reads.tuple ho hc hd hr, hn⟩
  | .dict es, _, _, hp, h, r => by
    cases h with
    | dct hH hkv =>
      cases r
      obtain ⟨_, hne, vs, kv, o, es', ep, ho, ex, hd, _, pr, _⟩ := I.hok _ _ hH
      obtain ⟨as, bs, h1, h2, h3, h4⟩ := RpKv.readsN I es _ vs es'.toList (by simpa [noLs] using hp) hkv kv pr
      refine ⟨_, Reads.dict ho ex.1 hd h1 h2, fun z => ?_⟩
      rcases List.mem_append.mp z with z | z
      · rcases List.mem_cons.mp z with z | z
        · rw [z] at hne
          simp at hne
        · exact h3 z
      · exact h4 z
    | dctT a b => exact absurd hp (by simp [noLs, noLsKv, tagT])
theorem RpAll.readsN {X : Cx} {pins : List (Addr × Obj)} {σ : L2.St} {H : Hp} {s : Shared} (I : Inv X pins σ H s) : ∀ (ds : List D) (vs : List V) (us : List Value), noLsAll ds = true → RpAll X.K H vs ds → Vals vs us → ∃ as, ReadsAll s.heap us ds as ∧ sysModules ∉ as
  | [], _, _, _, h, r => by
    cases h
    cases r
    exact ⟨_, ReadsAll.nil, by simp⟩
  | d :: ds, _, _, hp, h, r => by
    have hp' : noLs d = true ∧ noLsAll ds = true := by simpa [noLsAll] using hp
    cases h with
    | cons h1 h2 =>
      cases r with
      | cons r1 r2 =>
        obtain ⟨as, q1, n1⟩ := Rp.readsN I d _ _ hp'.1 h1 r1
        obtain ⟨bs, q2, n2⟩ := RpAll.readsN I ds _ _ hp'.2 h2 r2
        exact ⟨_, ReadsAll.cons q1 q2, fun z => (List.mem_append.mp z).elim n1 n2⟩
theorem RpKv.readsN {X : Cx} {pins : List (Addr × Obj)} {σ : L2.St} {H : Hp} {s : Shared} (I : Inv X pins σ H s) : ∀ (es : List (D × D)) (ws : List (L2.Key × V)) (vs : List (L2.Key × Value)) (ds : List DictEntry), noLsKv es = true → RpKv X.K H ws es → KV ws vs → Pairs (mixKind X.prog X.w) ds vs →
    ∃ as bs, ReadsAll s.heap (ds.map (·.key)) (es.map (·.1)) as ∧ ReadsAll s.heap (ds.map (·.val)) (es.map (·.2)) bs ∧ sysModules ∉ as ∧ sysModules ∉ bs
  | [], _, _, _, _, h, k, p => by
    cases h
    cases k
    cases p
    exact ⟨_, _, ReadsAll.nil, ReadsAll.nil, by simp, by simp⟩
  | (kd, d) :: es, _, _, _, hp, h, k, p => by
    have hp' : noLs d = true ∧ noLsKv es = true := by
      have hp : (noLs kd && noLs d && noLsKv es) = true := hp
      rw [Bool.and_eq_true, Bool.and_eq_true] at hp
      exact ⟨hp.1.2, hp.2⟩
    cases h with
    | cons h1 h2 =>
      cases k with
      | cons k1 k2 =>
        cases p with
        | @cons e0 kv0 _ _ p1 p2 p3 =>
          obtain ⟨as, bs, r1, r2, n1, n2⟩ := RpKv.readsN I es _ _ _ hp'.2 h2 k2 p3
          obtain ⟨cs, q, n3⟩ := Rp.readsN I d _ _ hp'.1 h1 (p2 ▸ k1.2)
          rw [← k1.1] at p1
          rename_i kk _ _ _ _ _
          have key : ∃ es, Reads s.heap e0.key (kD kk) es ∧ sysModules ∉ es := by
            rcases keyIs_shape p1 with ⟨i, t, e1, e2⟩ | ⟨x, t, e1, e2⟩
            · have e1 : kk = Sum.inl i := e1
              rw [e1, e2]
              exact ⟨[], Reads.int i t, by simp⟩
            · have e1 : kk = Sum.inr x := e1
              rw [e1, e2]
              exact ⟨[], Reads.str x t, by simp⟩
          obtain ⟨fs, q2, n4⟩ := key
          exact ⟨_, _, ReadsAll.cons q2 r1, ReadsAll.cons q r2, fun z => (List.mem_append.mp z).elim n4 n1, fun z => (List.mem_append.mp z).elim n3 n2⟩
end
def okrN (d : D) : Bool := noLs d && decide (d.depth ≤ 60) && d.showable && decide (d.shown.length ≤ 16000000)
theorem okrN_iff {d : D} (h : okrN d = true) : noLs d = true ∧ d.depth ≤ 60 ∧ d.showable = true ∧ d.shown.length ≤ sizeLine := by
  unfold okrN at h
  rw [Bool.and_eq_true, Bool.and_eq_true, Bool.and_eq_true, decide_eq_true_eq, decide_eq_true_eq] at h
  exact ⟨h.1.1.1, h.1.1.2, h.1.2, sz16 h.2⟩
def rReprV (K : Fg) : V → Hp → VK → Prop := fun x H Q => ∃ d, Rp K H x d ∧ (okr d = true ∨ okrN d = true) ∧ Q (.str d.shown) H
theorem okr_iff {d : D} (h : okr d = true) : d.plain = true ∧ d.depth ≤ 60 ∧ d.showable = true ∧ d.shown.length ≤ sizeLine := by
  unfold okr at h
  rw [Bool.and_eq_true, Bool.and_eq_true, decide_eq_true_eq] at h
  obtain ⟨a, b⟩ := okd_iff.mp h.1.1
  exact ⟨a, b, h.1.2, sz16 h.2⟩
theorem call_reprV {X : Cx} {k : Nat} (hr : Rg k X.A) : CallR X (.builtin "repr") (fun xs H Q => ∃ x, xs = [x] ∧ rReprV X.K x H Q) := by
  intro pins s σ H xs us Q I r h
  obtain ⟨x, rfl, d, hd, ok, q⟩ := h
  obtain ⟨u, rfl, rx⟩ := vals1 r
  have hu := hr.units
  obtain ⟨as, r1, hN, dp, sh, sz⟩ : ∃ as, Reads s.heap u d as ∧ (d.hasDict = true → sysModules ∉ as) ∧ d.depth ≤ 60 ∧ d.showable = true ∧ d.shown.length ≤ sizeLine := by
    rcases ok with ok | ok
    · obtain ⟨pd, dp, sh, sz⟩ := okr_iff ok
      obtain ⟨as, r1⟩ := Rp.reads I d x u pd hd rx
      exact ⟨as, r1, PyData.noDict_hsm (plain_noDict.1 d pd), dp, sh, sz⟩
    · obtain ⟨pd, dp, sh, sz⟩ := okrN_iff ok
      obtain ⟨as, r1, hn⟩ := Rp.readsN I d x u pd hd rx
      exact ⟨as, r1, fun _ => hn, dp, sh, sz⟩
  have seqs : ∀ a, u = .ref a → wpAny (model X.prog X.w) X.A (call (.builtin "repr") [u]) (EP X pins σ Q) X.xe s := fun a e => by
    subst e
    refine repr_of_reads' r1 sh hN hr.g (by omega) (fun _ _ e => e) (fun h' t tk hk => ⟨.str d.shown, H, I.kept hk, ⟨t, rfl⟩, q⟩) sz
  cases r1 with
  | list h1 h2 h3 h4 => exact seqs _ rfl
  | tuple h1 h2 h3 h4 => exact seqs _ rfl
  | dict h1 h2 h3 h4 h5 => exact seqs _ rfl
  | none => exact PySem.P.repr_of_none ⟨.str _, H, I.tok _, ⟨_, rfl⟩, q⟩
  | bool b => exact PySem.P.repr_of_bool ⟨.str _, H, I.tok _, ⟨_, rfl⟩, q⟩
  | int i => exact PySem.P.repr_of_int (by simpa [PyData.showable] using sh) ⟨.str _, H, I.tok _, ⟨_, rfl⟩, q⟩
  | str z => exact PySem.P.repr_of_str ⟨.str _, H, I.tok _, ⟨_, rfl⟩, q⟩ (by simpa [PyData.shown] using sz)
def opRepr : Od → Option Rv
  | .d d => if okr d = true ∨ okrN d = true then some (.d (.str d.shown)) else none
  | _ => none
theorem s_repr {K : Fg} : Op1S K (fun v H Q => ∃ x, [v] = [x] ∧ rReprV K x H Q) opRepr := by
  intro w x o rv Q hx h e q
  unfold opRepr at e
  split at e
  · split at e
    · rename_i d hd
      cases e
      exact ⟨x, rfl, d, h.rp hx, hd, post_str q⟩
    · cases e
  · cases e
/-! ### in, not in, of a list, a tuple -/
def rInV (K : Fg) (neg : Bool) : R2 := fun x c H Q => ∃ d xs, Rp K H x d ∧ (Rp K H c (.list xs) ∨ Rp K H c (.tuple xs)) ∧ okd d = true ∧ okd (.list xs) = true ∧ Q (.bl (if neg then !xs.any fun y => PyData.eqv y d else xs.any fun y => PyData.eqv y d)) H
section
variable {X : Cx}
theorem op_inV (hu : X.A.units + 64 < cLine) : OpR X (compareOp .In) (rInV X.K false) := by
  intro pins s σ H x y v u Q I rx ry h
  obtain ⟨d, xs, hd, he, sd, se, q⟩ := h
  obtain ⟨pd, dl⟩ := okd_iff.mp sd
  obtain ⟨pe, _⟩ := okd_iff.mp se
  have px : PyData.plainAll xs = true := by simpa [PyData.plain] using pe
  obtain ⟨as, r1⟩ := Rp.reads I d x v pd hd rx
  rcases he with he | he
  · obtain ⟨bs, r2⟩ := Rp.reads I _ y u pe he ry
    exact SeqAt.in_list_data r2 r1 px pd (by omega) ⟨.bl _, H, I, rfl, q⟩
  · obtain ⟨bs, r2⟩ := Rp.reads I _ y u (by simpa [PyData.plain] using px) he ry
    exact SeqAt.in_tuple_data r2 r1 px pd (by omega) ⟨.bl _, H, I, rfl, q⟩
theorem op_ninV (hu : X.A.units + 64 < cLine) : OpR X (compareOp .NotIn) (rInV X.K true) := by
  intro pins s σ H x y v u Q I rx ry h
  obtain ⟨d, xs, hd, he, sd, se, q⟩ := h
  obtain ⟨pd, dl⟩ := okd_iff.mp sd
  obtain ⟨pe, _⟩ := okd_iff.mp se
  have px : PyData.plainAll xs = true := by simpa [PyData.plain] using pe
  obtain ⟨as, r1⟩ := Rp.reads I d x v pd hd rx
  rcases he with he | he
  · obtain ⟨bs, r2⟩ := Rp.reads I _ y u pe he ry
    exact SeqAt.notIn_list_data r2 r1 px pd (by omega) ⟨.bl _, H, I, rfl, q⟩
  · obtain ⟨bs, r2⟩ := Rp.reads I _ y u (by simpa [PyData.plain] using px) he ry
    exact SeqAt.notIn_tuple_data r2 r1 px pd (by omega) ⟨.bl _, H, I, rfl, q⟩
end
def inB (d : D) (xs : List D) : Option Bool := if okd d = true ∧ okd (.list xs) = true then some (xs.any fun y => PyData.eqv y d) else none
def opIn : Od → Od → Option Rv
  | .d d, .d (.list xs) => match inB d xs with
    | some b => some (.d (.bool b))
    | none => none
  | .d d, .d (.tuple xs) => match inB d xs with
    | some b => some (.d (.bool b))
    | none => none
  | _, _ => none
def opNin : Od → Od → Option Rv
  | .d d, .d (.list xs) => match inB d xs with
    | some b => some (.d (.bool (!b)))
    | none => none
  | .d d, .d (.tuple xs) => match inB d xs with
    | some b => some (.d (.bool (!b)))
    | none => none
  | _, _ => none
theorem inB_ok {d : D} {xs : List D} {b : Bool} (h : inB d xs = some b) : okd d = true ∧ okd (.list xs) = true ∧ (xs.any fun y => PyData.eqv y d) = b := by
  unfold inB at h
  split at h
  · rename_i hh
    cases h
    exact ⟨hh.1, hh.2, rfl⟩
  · cases h
theorem s_in {K : Fg} : Op2S K (rInV K false) opIn := by
  intro w x y o o' rv Q hx h h' e q
  unfold opIn at e
  split at e
  · split at e
    · rename_i b eb
      cases e
      obtain ⟨h1, h2, h3⟩ := inB_ok eb
      refine ⟨_, _, h.rp hx, .inl (h'.rp hx), h1, h2, ?_⟩
      rw [if_neg (by decide), h3]
      exact post_bool q
    · cases e
  · split at e
    · rename_i b eb
      cases e
      obtain ⟨h1, h2, h3⟩ := inB_ok eb
      refine ⟨_, _, h.rp hx, .inr (h'.rp hx), h1, h2, ?_⟩
      rw [if_neg (by decide), h3]
      exact post_bool q
    · cases e
  · cases e
theorem s_nin {K : Fg} : Op2S K (rInV K true) opNin := by
  intro w x y o o' rv Q hx h h' e q
  unfold opNin at e
  split at e
  · split at e
    · rename_i b eb
      cases e
      obtain ⟨h1, h2, h3⟩ := inB_ok eb
      refine ⟨_, _, h.rp hx, .inl (h'.rp hx), h1, h2, ?_⟩
      rw [if_pos rfl, h3]
      exact post_bool q
    · cases e
  · split at e
    · rename_i b eb
      cases e
      obtain ⟨h1, h2, h3⟩ := inB_ok eb
      refine ⟨_, _, h.rp hx, .inr (h'.rp hx), h1, h2, ?_⟩
      rw [if_pos rfl, h3]
      exact post_bool q
    · cases e
  · cases e
/-! ### max, min of a list, a tuple of ints -/
def maxI : List Int → Option Int
  | [] => none
  | n :: ns => some (ns.foldl max n)
def minI : List Int → Option Int
  | [] => none
  | n :: ns => some (ns.foldl min n)
theorem alike_ints {ns : List Int} : PySem.W.AlikeAll (ns.map PyData.int) := by
  refine ⟨fun x hx y hy => ?_, fun x hx => ?_⟩
  · obtain ⟨i, _, rfl⟩ := List.mem_map.mp hx
    obtain ⟨j, _, rfl⟩ := List.mem_map.mp hy
    rfl
  · obtain ⟨i, _, rfl⟩ := List.mem_map.mp hx
    exact nofun
def rBest (K : Fg) (f : List Int → Option Int) : V → Hp → VK → Prop := fun v H Q => ∃ (a : Addr) (ns : List Int) (m : Int), v = V.ref a ∧ (SqL K H a (ns.map V.int) ∨ SqT K H a (ns.map V.int)) ∧ f ns = some m ∧ Q (.int m) H
theorem readsInts {h : Heap} {its : List Value} {ns : List Int} (hi : IntsAre its ns) : ∃ as, ReadsAll h its (ns.map PyData.int) as := by
  induction hi with
  | nil => exact ⟨_, .nil⟩
  | cons n t r ih =>
    obtain ⟨as, r⟩ := ih
    exact ⟨_, .cons (.int _ _) r⟩
theorem foldl_max_ge : ∀ (ns : List Int) (n : Int), n ≤ ns.foldl max n ∧ ∀ m, m ∈ ns → m ≤ ns.foldl max n
  | [], n => ⟨Int.le_refl _, fun m h => nomatch h⟩
  | k :: ks, n => by
    obtain ⟨h1, h2⟩ := foldl_max_ge ks (max n k)
    refine ⟨Int.le_trans (Int.le_max_left _ _) h1, fun m hm => ?_⟩
    rcases List.mem_cons.mp hm with rfl | hm
    · exact Int.le_trans (Int.le_max_right _ _) h1
    · exact h2 m hm
theorem foldl_max_mem : ∀ (ns : List Int) (n : Int), ns.foldl max n = n ∨ ns.foldl max n ∈ ns
  | [], n => .inl rfl
  | k :: ks, n => by
    rcases foldl_max_mem ks (max n k) with h | h
    · by_cases hk : k ≤ n
      · exact .inl (h.trans (Int.max_eq_left hk))
      · refine .inr ?_
        show ks.foldl max (max n k) ∈ k :: ks
        rw [h, Int.max_eq_right (by omega)]
        exact List.mem_cons_self ..
    · exact .inr (List.mem_cons_of_mem _ h)
theorem foldl_min_le : ∀ (ns : List Int) (n : Int), ns.foldl min n ≤ n ∧ ∀ m, m ∈ ns → ns.foldl min n ≤ m
  | [], n => ⟨Int.le_refl _, fun m h => nomatch h⟩
  | k :: ks, n => by
    obtain ⟨h1, h2⟩ := foldl_min_le ks (min n k)
    refine ⟨Int.le_trans h1 (Int.min_le_left _ _), fun m hm => ?_⟩
    rcases List.mem_cons.mp hm with rfl | hm
    · exact Int.le_trans h1 (Int.min_le_right _ _)
    · exact h2 m hm
theorem foldl_min_mem : ∀ (ns : List Int) (n : Int), ns.foldl min n = n ∨ ns.foldl min n ∈ ns
  | [], n => .inl rfl
  | k :: ks, n => by
    rcases foldl_min_mem ks (min n k) with h | h
    · by_cases hk : n ≤ k
      · exact .inl (h.trans (Int.min_eq_left hk))
      · refine .inr ?_
        show ks.foldl min (min n k) ∈ k :: ks
        rw [h, Int.min_eq_right (by omega)]
        exact List.mem_cons_self ..
    · exact .inr (List.mem_cons_of_mem _ h)
theorem maxI_is {ns : List Int} {m : Int} (h1 : m ∈ ns) (h2 : ∀ y, y ∈ ns → y ≤ m) : maxI ns = some m := by
  cases ns with
  | nil => cases h1
  | cons n ns =>
    show some (ns.foldl max n) = some m
    obtain ⟨a, b⟩ := foldl_max_ge ns n
    have c : m ≤ ns.foldl max n := by
      rcases List.mem_cons.mp h1 with rfl | h1
      · exact a
      · exact b m h1
    have d : ns.foldl max n ≤ m := by
      rcases foldl_max_mem ns n with e | e
      · rw [e]
        exact h2 n (List.mem_cons_self ..)
      · exact h2 _ (List.mem_cons_of_mem _ e)
    rw [Int.le_antisymm c d]
theorem minI_is {ns : List Int} {m : Int} (h1 : m ∈ ns) (h2 : ∀ y, y ∈ ns → m ≤ y) : minI ns = some m := by
  cases ns with
  | nil => cases h1
  | cons n ns =>
    show some (ns.foldl min n) = some m
    obtain ⟨a, b⟩ := foldl_min_le ns n
    have c : ns.foldl min n ≤ m := by
      rcases List.mem_cons.mp h1 with rfl | h1
      · exact a
      · exact b m h1
    have d : m ≤ ns.foldl min n := by
      rcases foldl_min_mem ns n with e | e
      · rw [e]
        exact h2 n (List.mem_cons_self ..)
      · exact h2 _ (List.mem_cons_of_mem _ e)
    rw [Int.le_antisymm d c]
section
variable {X : Cx}
theorem call_maxV {k : Nat} (hr : Rg k X.A) (hc : X.calm = true) : CallR X (.builtin "max") (fun xs H Q => ∃ x, xs = [x] ∧ rBest X.K maxI x H Q) := by
  intro pins s σ H xs us Q I r h
  obtain ⟨x, rfl, a, ns, m, rfl, hs | hs, hm, q⟩ := h
  · exact cr_max hc pins s σ H _ us Q I r ⟨a, ns, rfl, hs, by cases ns with | nil => cases hm | cons _ _ => exact Nat.succ_pos _, fun m' h1 h2 => by
      rw [maxI_is h1 h2] at hm
      cases hm
      exact q⟩
  · obtain ⟨its, rv, hl, _⟩ := I.tuple hs
    rw [Vals.ref1 r]
    cases ns with
    | nil => cases hm
    | cons n ns =>
      cases hm
      obtain ⟨as, ra⟩ := readsInts (h := s.heap) rv.ints
      have hu := hr.units
      refine PySem.W.max_tuple_data (I.ok.hd hc) hl ra (alike_ints (ns := n :: ns)) ?_ fun i v h' tk bs hv hb hk => ?_
      · show X.A.units + 1 + PyData.depthAll (List.map PyData.int (n :: ns)) < cLine
        rw [PySem.W.depth_ints]
        omega
      · have e : PySem.W.maxD (.int n) (ns.map .int) = .int (ns.foldl max n) := PySem.W.maxD_ints n ns
        rw [e] at hb
        cases hb
        exact ⟨.int _, H, I.kept hk, ⟨_, rfl⟩, q⟩
theorem call_minV {k : Nat} (hr : Rg k X.A) (hc : X.calm = true) : CallR X (.builtin "min") (fun xs H Q => ∃ x, xs = [x] ∧ rBest X.K minI x H Q) := by
  intro pins s σ H xs us Q I r h
  obtain ⟨x, rfl, a, ns, m, rfl, hs | hs, hm, q⟩ := h
  · exact cr_min hc pins s σ H _ us Q I r ⟨a, ns, rfl, hs, by cases ns with | nil => cases hm | cons _ _ => exact Nat.succ_pos _, fun m' h1 h2 => by
      rw [minI_is h1 h2] at hm
      cases hm
      exact q⟩
  · obtain ⟨its, rv, hl, _⟩ := I.tuple hs
    rw [Vals.ref1 r]
    cases ns with
    | nil => cases hm
    | cons n ns =>
      cases hm
      obtain ⟨as, ra⟩ := readsInts (h := s.heap) rv.ints
      have hu := hr.units
      refine PySem.W.min_tuple_data (I.ok.hd hc) hl ra (alike_ints (ns := n :: ns)) ?_ fun i v h' tk bs hv hb hk => ?_
      · show X.A.units + 1 + PyData.depthAll (List.map PyData.int (n :: ns)) < cLine
        rw [PySem.W.depth_ints]
        omega
      · have e : PySem.W.minD (.int n) (ns.map .int) = .int (ns.foldl min n) := PySem.W.minD_ints n ns
        rw [e] at hb
        cases hb
        exact ⟨.int _, H, I.kept hk, ⟨_, rfl⟩, q⟩
end
def opBest (f : List Int → Option Int) : Od → Option Rv
  | .d (.list ds) => (ints? ds).bind fun ns => (f ns).bind fun m => some (.d (.int m))
  | .d (.tuple ds) => (ints? ds).bind fun ns => (f ns).bind fun m => some (.d (.int m))
  | _ => none
def opMax : Od → Option Rv := opBest maxI
def opMin : Od → Option Rv := opBest minI
theorem s_best {K : Fg} {f : List Int → Option Int} : Op1S K (fun v H Q => ∃ x, [v] = [x] ∧ rBest K f x H Q) (opBest f) := by
  intro w x o rv Q hx h e q
  unfold opBest at e
  split at e
  · obtain ⟨ns, e1, e2⟩ := Option.bind_eq_some_iff.mp e
    obtain ⟨m, e3, e4⟩ := Option.bind_eq_some_iff.mp e2
    cases e4
    rw [ints?_eq e1] at h
    obtain ⟨p, vs, rfl, hs, ra⟩ := h.list hx
    rw [rp_ints ra] at hs
    exact ⟨_, rfl, p, ns, m, rfl, .inl hs, e3, post_int q⟩
  · obtain ⟨ns, e1, e2⟩ := Option.bind_eq_some_iff.mp e
    obtain ⟨m, e3, e4⟩ := Option.bind_eq_some_iff.mp e2
    cases e4
    rw [ints?_eq e1] at h
    obtain ⟨p, vs, rfl, hs, ra⟩ := h.tup
    rw [rp_ints ra] at hs
    exact ⟨_, rfl, p, ns, m, rfl, .inr (SqT.of (hx _ _ hs)), e3, post_int q⟩
  · cases e
theorem s_max {K : Fg} : Op1S K (fun v H Q => ∃ x, [v] = [x] ∧ rBest K maxI x H Q) opMax := s_best
theorem s_min {K : Fg} : Op1S K (fun v H Q => ∃ x, [v] = [x] ∧ rBest K minI x H Q) opMin := s_best
/-! ### sorted(xs, reverse=True), ints -/
def insD (i : Int) : List Int → List Int
  | [] => [i]
  | j :: js => if j ≤ i then i :: j :: js else j :: insD i js
def sortD : List Int → List Int
  | [] => []
  | i :: is => insD i (sortD is)
theorem insD_perm (i : Int) : ∀ js : List Int, (insD i js).Perm (i :: js)
  | [] => .refl _
  | j :: js => by
    unfold insD
    split
    · exact .refl _
    · exact (List.Perm.cons j (insD_perm i js)).trans (List.Perm.swap i j js)
theorem sortD_perm : ∀ js : List Int, (sortD js).Perm js
  | [] => .refl _
  | j :: js => (insD_perm j _).trans (List.Perm.cons j (sortD_perm js))
theorem insD_pw (i : Int) : ∀ js : List Int, js.Pairwise (· ≥ ·) → (insD i js).Pairwise (· ≥ ·)
  | [], _ => by
    show [i].Pairwise _
    simp
  | j :: js, h => by
    have h2 := List.pairwise_cons.mp h
    unfold insD
    split
    · refine List.pairwise_cons.mpr ⟨fun k hk => ?_, h⟩
      rcases List.mem_cons.mp hk with rfl | hk
      · assumption
      · have := h2.1 k hk
        show k ≤ i
        have : k ≤ j := this
        omega
    · refine List.pairwise_cons.mpr ⟨fun k hk => ?_, insD_pw i js h2.2⟩
      have := (insD_perm i js).mem_iff.mp hk
      rcases List.mem_cons.mp this with rfl | hk
      · show k ≤ j
        omega
      · exact h2.1 k hk
theorem sortD_pw : ∀ js : List Int, (sortD js).Pairwise (· ≥ ·)
  | [] => List.Pairwise.nil
  | j :: js => insD_pw j _ (sortD_pw js)
theorem sorted_one {as bs : List Int} (h : as.Perm bs) (ha : as.Pairwise (· ≥ ·)) (hb : bs.Pairwise (· ≥ ·)) : as = bs :=
  h.eq_of_pairwise (fun a b _ _ h1 h2 => Int.le_antisymm h2 h1) ha hb
def opSortedR : Od → Option Rv
  | .d (.list ds) => (ints? ds).bind fun ns => some (.new (.l ((sortD ns).map PyData.int)))
  | _ => none
theorem s_sortedR {K : Fg} : Op1S K (fun v H Q => rSortedKw K true [.bl true] [v] [.bl true] H Q) opSortedR := by
  intro w x o rv Q hx h e q
  unfold opSortedR at e
  split at e
  · obtain ⟨ns, e1, e2⟩ := Option.bind_eq_some_iff.mp e
    cases e2
    rw [ints?_eq e1] at h
    obtain ⟨p, vs, rfl, hs, ra⟩ := h.list hx
    rw [rp_ints ra] at hs
    refine ⟨p, ns, rfl, rfl, hs, fun ns' l h1 h2 hl => ?_⟩
    have e3 : ns' = sortD ns := sorted_one (h1.trans (sortD_perm ns).symm) h2 (sortD_pw ns)
    rw [e3]
    exact post_lst q (rpAll_ints _) hl hx
  · cases e
section
variable {X : Cx} {ec : EC} {W : WX}
theorem e_sortedR {a : Expr} {ca : CE} {p pos kp bp : Pos} {j : Nat} (hm : X.mg "sorted" = none) (ha : Ex X ec W a ca) (hg : Gl X "sorted" := by rfl) (h1 : starEach [a] X.env = (false, eval a X.env) :: starEach [] X.env := by rfl) 
    (he : backTo pos (starEach [a] X.env) = (false, eval a X.env) :: backTo pos (starEach [] X.env) := by rfl) (hpl : (backTo pos (starEach [a] X.env)).any (·.1) = false := by rfl) : Ex X ec W (.Call (.Name "sorted" p) [a] [⟨some "reverse", .Constant (.bool true) j bp, kp⟩] pos) (cOp1 opSortedR ca) :=
  (pe_callBK (cr_sortedRev (b := true)) hg hm (by decide +kernel) (pa_cons ha pa_nil h1) (pk_cons pe_bl pk_nil) (by decide) (by decide) he hpl).imp fun _ _ _ h => op1 s_sortedR h
end
end Vm

namespace Vm
open PySem L2
/-! ### the second draw -/
def cRestB : CS :=
 (cSeq (cIfS (tAnd' (cB (cOp2 opLt (cVar 3) (cOp1 opLen (cOp2 opItem (cVar 0) (cC (.str "cells")))))) (cB (cOp2 opGe (cOp1 opAbs (cVar 4)) (cOp2 opPow (cC (.int 10)) (cC (.int 18))))))
 (cSeq (cPut (cVar 0) (cC (.str "left")) (cOp2 opDiv (cOp1 opAbs (cVar 4)) (cVar 1)))
 (cRet (cOp2 opMod (cOp1 opAbs (cVar 4)) (cVar 1))))
 cNx)
 (cSeq (cSet 5 (cOp2 opMod (cOp2 opMulV (cOp2 opAdd (cOp2 opAdd (cOp2 opMod (cVar 4) (cC (.int 2147483629))) (cOp2 opMulV (cC (.int 104729)) (cVar 3))) (cC (.int 1))) (cC (.int 48271))) (cC (.int 2147483647))))
 (cSeq (cSet 5 (cOp2 opMod (cOp2 opAdd (cOp2 opAdd (cOp2 opMulV (cVar 5) (cVar 5)) (cOp2 opMulV (cC (.int 69621)) (cVar 5))) (cVar 3)) (cC (.int 2147483587))))
 (cSeq (cSet 5 (cOp2 opMod (cOp2 opMulV (cVar 5) (cOp2 opAdd (cOp2 opMod (cVar 5) (cC (.int 65521))) (cC (.int 3)))) (cC (.int 2147483579))))
 (cRet (cOp2 opMod (cOp2 opDiv (cVar 5) (cC (.int 64))) (cVar 1)))))))
theorem restB {cells : List Int} {at' c many : Int} {r : List Cell} {B : Nat} (h63 : cells.length ≤ 63) (ha0 : 0 ≤ at') (haB : at' ≤ B) (hB : B < 1000000) (hm : 0 < many) (hm2 : many.natAbs.log2 < 9000) :
    ∃ v p' v', cRestB ⟨[.c 0, .d (.int many), .u, .d (.int at'), .d (.int c), .u], penC cells (at' + 1) 0 :: r⟩ = .rt (.d (.int v)) ⟨v', p' :: r⟩ ∧ 0 ≤ v ∧ v < many ∧ IsPen (B + 1) p' := by
  have hp : opPow (.d (.int 10)) (.d (.int 18)) = some (.d (.int 1000000000000000000)) := rfl
  obtain ⟨a, ha⟩ : ∃ a : Int, (if c < 0 then -c else c) = a := ⟨_, rfl⟩
  have oa : opAbs (.d (.int c)) = some (.d (.int a)) := by rw [← ha]; rfl
  have ab : 0 ≤ a := by rw [← ha]; split <;> omega
  by_cases h : at' < cells.length ∧ 1000000000000000000 ≤ a
  · refine ⟨a % many, penC cells (at' + 1) (a / many), [.c 0, .d (.int many), .u, .d (.int at'), .d (.int c), .u], ?_, Int.emod_nonneg _ (by omega), Int.emod_lt_of_pos _ hm, cells, at' + 1, _, rfl, h63, by omega, by omega, Int.ediv_nonneg ab (by omega)⟩
    simp [-opAbs_i, oa, cRestB, hp, h.1, h.2, opMod_i hm, opDiv_i hm hm2]
  · have hn : (at' < cells.length → ¬ (1000000000000000000 ≤ a)) := fun a b => h ⟨a, b⟩
    have hc1 : 0 ≤ c % 2147483629 := Int.emod_nonneg _ (by decide)
    have hc2 : c % 2147483629 < 2147483629 := Int.emod_lt_of_pos _ (by decide)
    have m1 : opMulV (.d (.int 104729)) (.d (.int at')) = some (.d (.int (104729 * at'))) := opMul_i (mulOk_small (by omega) (by omega))
    have m2 : opMulV (.d (.int (c % 2147483629 + 104729 * at' + 1))) (.d (.int 48271)) = some (.d (.int ((c % 2147483629 + 104729 * at' + 1) * 48271))) := opMul_i (mulOk_small (by omega) (by omega))
    generalize hx : (c % 2147483629 + 104729 * at' + 1) * 48271 % 2147483647 = x at *
    have hx0 : 0 ≤ x := by rw [← hx]; exact Int.emod_nonneg _ (by decide)
    have hx1 : x < 2147483647 := by rw [← hx]; exact Int.emod_lt_of_pos _ (by decide)
    have m3 : opMulV (.d (.int x)) (.d (.int x)) = some (.d (.int (x * x))) := opMul_i (mulOk_small (by omega) (by omega))
    have m4 : opMulV (.d (.int 69621)) (.d (.int x)) = some (.d (.int (69621 * x))) := opMul_i (mulOk_small (by omega) (by omega))
    generalize hy : (x * x + 69621 * x + at') % 2147483587 = y at *
    have hy0 : 0 ≤ y := by rw [← hy]; exact Int.emod_nonneg _ (by decide)
    have hy1 : y < 2147483587 := by rw [← hy]; exact Int.emod_lt_of_pos _ (by decide)
    have hz0 : 0 ≤ y % 65521 := Int.emod_nonneg _ (by decide)
    have hz1 : y % 65521 < 65521 := Int.emod_lt_of_pos _ (by decide)
    have m5 : opMulV (.d (.int y)) (.d (.int (y % 65521 + 3))) = some (.d (.int (y * (y % 65521 + 3)))) := opMul_i (mulOk_small (by omega) (by omega))
    generalize hw : y * (y % 65521 + 3) % 2147483579 = z at *
    refine ⟨z / 64 % many, penC cells (at' + 1) 0, [.c 0, .d (.int many), .u, .d (.int at'), .d (.int c), .d (.int z)], ?_, Int.emod_nonneg _ (by omega), Int.emod_lt_of_pos _ hm, cells, at' + 1, 0, rfl, h63, by omega, by omega, by omega⟩
    by_cases h1 : at' < cells.length
    · simp [-opAbs_i, oa, cRestB, hp, h1, hn h1, opMod_i hm, opMod_i, opDiv_s, m1, m2, m3, m4, m5, hx, hy, hw]
    · simp [-opAbs_i, oa, cRestB, hp, h1, opMod_i hm, opMod_i, opDiv_s, m1, m2, m3, m4, m5, hx, hy, hw]
theorem drawB : IsDraw fDrawB IsPen := by
  intro B p r many hp hB hm hm2
  obtain ⟨cells, at', left, rfl, h63, ha0, haB, hl⟩ := hp.ex
  unfold fDrawB
  rw [runF_s]
  by_cases h : 0 < left
  · refine ⟨left % many, penC cells at' (left / many), ?_, Int.emod_nonneg _ (by omega), Int.emod_lt_of_pos _ hm, cells, at', left / many, rfl, h63, ha0, by omega, Int.ediv_nonneg hl (by omega)⟩
    simp [cDrawB, h, opMod_i hm, opDiv_i hm hm2]
  · have hl0 : left = 0 := by omega
    subst hl0
    have hb1 : 11 * at' * at' ≤ 11 * 1000000 * 1000000 := Int.mul_le_mul (by omega) (by omega) ha0 (by omega)
    have hb0 : 0 ≤ 11 * at' * at' := Int.mul_nonneg (by omega) ha0
    have m1 : opMulV (.d (.int 11)) (.d (.int at')) = some (.d (.int (11 * at'))) := opMul_i (mulOk_small (by omega) (by omega))
    have m2 : opMulV (.d (.int (11 * at'))) (.d (.int at')) = some (.d (.int (11 * at' * at'))) := opMul_i (mulOk_small (by omega) (by omega))
    have rest : cDrawB = (cSeq (cIfS (cB (cOp2 opGt (cOp2 opItem (cVar 0) (cC (.str "left"))) (cC (.int 0))))
      (cSeq (cSet 2 (cOp2 opMod (cOp2 opItem (cVar 0) (cC (.str "left"))) (cVar 1)))
      (cSeq (cPut (cVar 0) (cC (.str "left")) (cOp2 opDiv (cOp2 opItem (cVar 0) (cC (.str "left"))) (cVar 1)))
      (cRet (cVar 2))))
      cNx)
      (cSeq (cSet 3 (cOp2 opItem (cVar 0) (cC (.str "at"))))
      (cSeq (cPut (cVar 0) (cC (.str "at")) (cOp2 opAdd (cVar 3) (cC (.int 1))))
      (cSeq (cSet 4 (cOp2 opAdd (cOp2 opMulV (cOp2 opMulV (cC (.int 11)) (cVar 3)) (cVar 3)) (cC (.int 5))))
      (cSeq (cIfS (cB (cOp2 opGt (cOp1 opLen (cOp2 opItem (cVar 0) (cC (.str "cells")))) (cC (.int 0))))
      (cSet 4 (cOp2 opIx (cOp2 opItem (cVar 0) (cC (.str "cells"))) (cOp2 opMod (cVar 3) (cOp1 opLen (cOp2 opItem (cVar 0) (cC (.str "cells")))))))
      cNx) cRestB))))) := rfl
    rw [rest]
    by_cases hc : 0 < cells.length
    · have hc' : (0 : Int) < cells.length := by omega
      have hi0 : 0 ≤ at' % cells.length := Int.emod_nonneg _ (by omega)
      have hi1 : at' % cells.length < cells.length := Int.emod_lt_of_pos _ hc'
      obtain ⟨c, hcx⟩ : ∃ c, cells[(at' % (cells.length : Int)).toNat]? = some c := ⟨_, List.getElem?_eq_getElem (by omega)⟩
      have ix := opIx_l (ds := cells.map PyData.int) (i := at' % cells.length) (x := .int c) (atI_nat hi0 (by rw [List.getElem?_map, hcx]; rfl))
      obtain ⟨v, p', v', e, h1, h2, h3⟩ := restB (c := c) (r := r) h63 ha0 haB hB hm hm2
      refine ⟨v, p', ?_, h1, h2, h3⟩
      simp [h, m1, m2, hc, hc', opMod_i hc', ix, e]
    · obtain ⟨v, p', v', e, h1, h2, h3⟩ := restB (c := 11 * at' * at' + 5) (r := r) h63 ha0 haB hB hm hm2
      refine ⟨v, p', ?_, h1, h2, h3⟩
      simp [h, m1, m2, hc, e]
/-! ### lists and tuples of ints -/
theorem plain_ints : ∀ ns : List Int, PyData.plainAll (ns.map PyData.int) = true
  | [] => rfl
  | n :: ns => by
    show PyData.plainAll (.int n :: ns.map PyData.int) = true
    rw [PyData.plainAll, plain_ints ns]
    rfl
theorem okd_intsL (ns : List Int) : okd (.list (ns.map PyData.int)) = true := by
  unfold okd
  rw [Bool.and_eq_true, decide_eq_true_eq]
  refine ⟨by rw [PyData.plain]; exact plain_ints ns, ?_⟩
  show PyData.depthAll (ns.map PyData.int) + 1 ≤ 60
  rw [PySem.W.depth_ints]
  omega
theorem okd_intsT (ns : List Int) : okd (.tuple (ns.map PyData.int)) = true := by
  unfold okd
  rw [Bool.and_eq_true, decide_eq_true_eq]
  refine ⟨by rw [PyData.plain]; exact plain_ints ns, ?_⟩
  show PyData.depthAll (ns.map PyData.int) + 1 ≤ 60
  rw [PySem.W.depth_ints]
  omega
theorem eqv_ints : ∀ as bs : List Int, PyData.eqvAll (as.map PyData.int) (bs.map PyData.int) = decide (as = bs)
  | [], [] => rfl
  | [], b :: bs => rfl
  | a :: as, [] => rfl
  | a :: as, b :: bs => by
    show PyData.eqvAll (.int a :: as.map PyData.int) (.int b :: bs.map PyData.int) = _
    rw [PyData.eqvAll, eqv_ints as bs]
    show ((a == b) && decide (as = bs)) = _
    by_cases h : a = b
    · subst h
      by_cases h2 : as = bs
      · simp [h2]
      · simp [h2]
    · simp [h]
theorem opNe_intsL {as bs : List Int} : opNe (.d (.list (as.map PyData.int))) (.d (.list (bs.map PyData.int))) = some (.d (.bool (!decide (as = bs)))) := by
  unfold opNe eqB
  dsimp only
  rw [if_pos ⟨okd_intsL as, okd_intsL bs⟩, show PyData.eqv (.list (as.map PyData.int)) (.list (bs.map PyData.int)) = _ from by rw [PyData.eqv], eqv_ints]
theorem opEq_intsL {as bs : List Int} : opEq (.d (.list (as.map PyData.int))) (.d (.list (bs.map PyData.int))) = some (.d (.bool (decide (as = bs)))) := by
  unfold opEq eqB
  dsimp only
  rw [if_pos ⟨okd_intsL as, okd_intsL bs⟩, show PyData.eqv (.list (as.map PyData.int)) (.list (bs.map PyData.int)) = _ from by rw [PyData.eqv], eqv_ints]
theorem opNe_intsT {as bs : List Int} : opNe (.d (.tuple (as.map PyData.int))) (.d (.tuple (bs.map PyData.int))) = some (.d (.bool (!decide (as = bs)))) := by
  unfold opNe eqB
  dsimp only
  rw [if_pos ⟨okd_intsT as, okd_intsT bs⟩, show PyData.eqv (.tuple (as.map PyData.int)) (.tuple (bs.map PyData.int)) = _ from by rw [PyData.eqv], eqv_ints]
theorem opEq_intsT {as bs : List Int} : opEq (.d (.tuple (as.map PyData.int))) (.d (.tuple (bs.map PyData.int))) = some (.d (.bool (decide (as = bs)))) := by
  unfold opEq eqB
  dsimp only
  rw [if_pos ⟨okd_intsT as, okd_intsT bs⟩, show PyData.eqv (.tuple (as.map PyData.int)) (.tuple (bs.map PyData.int)) = _ from by rw [PyData.eqv], eqv_ints]
theorem atI_last {α : Type} {xs : List α} {x : α} (h : xs.getLast? = some x) : atI xs (-1) = some x := by
  have hl : xs ≠ [] := fun e => by
    subst e
    cases h
  have h0 : 0 < xs.length := List.length_pos_iff.mpr hl
  unfold atI ixN
  rw [if_neg (by decide), if_pos (by omega)]
  show xs[((xs.length : Int) + -1).toNat]? = some x
  rw [show ((xs.length : Int) + -1).toNat = xs.length - 1 by omega, ← h, List.getLast?_eq_getElem?]
def rangeI (lo : Int) : Nat → List Int
  | 0 => []
  | n + 1 => lo :: rangeI (lo + 1) n
theorem rangeD_eq : ∀ (n : Nat) (lo : Int), rangeD lo n = (rangeI lo n).map PyData.int
  | 0, lo => rfl
  | n + 1, lo => congrArg (PyData.int lo :: ·) (rangeD_eq n (lo + 1))
theorem rangeI_mem : ∀ {n : Nat} {lo i : Int}, i ∈ rangeI lo n → lo ≤ i ∧ i < lo + n
  | 0, lo, i, h => nomatch h
  | n + 1, lo, i, h => by
    rcases List.mem_cons.mp h with rfl | h
    · omega
    · have := rangeI_mem h
      omega
theorem rangeI_len : ∀ (n : Nat) (lo : Int), (rangeI lo n).length = n
  | 0, lo => rfl
  | n + 1, lo => congrArg (· + 1) (rangeI_len n (lo + 1))
theorem opAdd_l {xs ys : List D} (h : xs.length + ys.length ≤ 16000000) : opAdd (.d (.list xs)) (.d (.list ys)) = some (.new (.l (xs ++ ys))) := by
  show (if xs.length + ys.length ≤ 16000000 then _ else _) = _
  rw [if_pos h]
@[simp] theorem opSum_il {ns : List Int} : opSum (.d (.list (ns.map PyData.int))) = some (.d (.int ns.sum)) := by
  unfold opSum
  dsimp only
  rw [ints?_map]
@[simp] theorem opSum_it {ns : List Int} : opSum (.d (.tuple (ns.map PyData.int))) = some (.d (.int ns.sum)) := by
  unfold opSum
  dsimp only
  rw [ints?_map]
@[simp] theorem opTuple_l {ds : List D} : opTuple (.d (.list ds)) = some (.d (.tuple ds)) := Eq.trans rfl rfl
@[simp] theorem opTuple_t {ds : List D} : opTuple (.d (.tuple ds)) = some (.d (.tuple ds)) := Eq.trans rfl rfl
@[simp] theorem opList_l {ds : List D} : opList (.d (.list ds)) = some (.new (.l ds)) := Eq.trans rfl rfl
@[simp] theorem opList_t {ds : List D} : opList (.d (.tuple ds)) = some (.new (.l ds)) := Eq.trans rfl rfl
@[simp] theorem opMax_l {ns : List Int} : opMax (.d (.list (ns.map PyData.int))) = (maxI ns).bind fun m => some (.d (.int m)) := by
  unfold opMax opBest
  dsimp only
  rw [ints?_map]
  rfl
@[simp] theorem opMax_t {ns : List Int} : opMax (.d (.tuple (ns.map PyData.int))) = (maxI ns).bind fun m => some (.d (.int m)) := by
  unfold opMax opBest
  dsimp only
  rw [ints?_map]
  rfl
@[simp] theorem opMin_l {ns : List Int} : opMin (.d (.list (ns.map PyData.int))) = (minI ns).bind fun m => some (.d (.int m)) := by
  unfold opMin opBest
  dsimp only
  rw [ints?_map]
  rfl
@[simp] theorem opMin_t {ns : List Int} : opMin (.d (.tuple (ns.map PyData.int))) = (minI ns).bind fun m => some (.d (.int m)) := by
  unfold opMin opBest
  dsimp only
  rw [ints?_map]
  rfl
@[simp] theorem opIsi_d {T : String} {d : D} : opIsi T (.d d) = some (.d (.bool (isiB T (tyN (.d d))))) := Eq.trans rfl rfl
@[simp] theorem opMin2_i {i j : Int} : opMin2 (.d (.int i)) (.d (.int j)) = some (.d (.int (if j < i then j else i))) := Eq.trans rfl rfl
@[simp] theorem opMax2_i {i j : Int} : opMax2 (.d (.int i)) (.d (.int j)) = some (.d (.int (if j > i then j else i))) := Eq.trans rfl rfl
/-- what stands at the end of the cells -/
@[simp] theorem set_last {g : List Cell} {c c' : Cell} : (g ++ [c]).set g.length c' = g ++ [c'] := by
  rw [List.set_append_right _ _ (Nat.le_refl _), Nat.sub_self]
  rfl
theorem fin_cell {m : List Cell} {k : Nat} {s : S} {c : Cell} (h : m.length ≤ k) (h2 : s.m[k]? = some c) (h3 : c ≠ .gone) : fin m (.rt (.ref k) s) = .ok (.new c) (s.m.take m.length) := by
  show (if m.length ≤ k then _ else _) = _
  rw [if_pos h, h2]
  cases c with
  | gone => exact absurd rfl h3
  | l _ => rfl
  | k _ => rfl
  | t _ => rfl
  | r _ => rfl
  | i _ _ _ => rfl
@[simp] theorem fin_l {m : List Cell} {k : Nat} {s : S} {ds : List D} (h : m.length ≤ k) (h2 : s.m[k]? = some (.l ds)) : fin m (.rt (.ref k) s) = .ok (.new (.l ds)) (s.m.take m.length) := fin_cell h h2 nofun
end Vm

namespace Vm
open PySem L2
/-! ### how many bits -/
def Bs (k : Nat) (x : Int) : Prop := x.natAbs < 2 ^ k
theorem Bs.mono {j k : Nat} {x : Int} (h : Bs j x) (q : j ≤ k) : Bs k x := Nat.lt_of_lt_of_le h (Nat.pow_le_pow_right (by decide) q)
theorem Bs.le {k : Nat} {x y : Int} (h : Bs k y) (q : x.natAbs ≤ y.natAbs) : Bs k x := Nat.lt_of_le_of_lt q h
theorem Bs.mul {j k : Nat} {x y : Int} (h : Bs j x) (q : Bs k y) : Bs (j + k) (x * y) := by
  unfold Bs at *
  rw [Int.natAbs_mul, Nat.pow_add]
  exact Nat.mul_lt_mul'' h q
theorem Bs.add {j k m : Nat} {x y : Int} (h : Bs j x) (q : Bs k y) (h1 : j ≤ m) (h2 : k ≤ m) : Bs (m + 1) (x + y) := by
  have h := h.mono h1
  have q := q.mono h2
  unfold Bs at *
  rw [Nat.pow_succ]
  have := Int.natAbs_add_le x y
  omega
theorem Bs.neg {k : Nat} {x : Int} (h : Bs k x) : Bs k (-x) := by
  unfold Bs at *
  rw [Int.natAbs_neg]
  exact h
theorem Bs.sub {j k m : Nat} {x y : Int} (h : Bs j x) (q : Bs k y) (h1 : j ≤ m) (h2 : k ≤ m) : Bs (m + 1) (x - y) := by
  rw [Int.sub_eq_add_neg]
  exact h.add q.neg h1 h2
theorem Bs.log {k : Nat} {x : Int} (h : Bs k x) : x.natAbs.log2 < k + 1 := log2_lt h
theorem Bs.mulOk {j k : Nat} {x y : Int} (h : Bs j x) (q : Bs k y) (hk : j + k < 90000000) : mulOk x y = true := by
  unfold Vm.mulOk
  rw [decide_eq_true_eq]
  have := h.log
  have := q.log
  omega
theorem Bs.small {k : Nat} {x : Int} (h : x.natAbs < 2 ^ k) : Bs k x := h
/-! ### the greatest common measure -/
def cMeasure : CS := (cSeq (cWh (fun _ => 1000000) (cB (cOp2 opGt (cVar 1) (cC (.int 0))))
 (cPar 0 1 (cVar 1) (cOp2 opMod (cVar 0) (cVar 1))))
 (cRet (cVar 0)))
def fMeasure : Fn := runF 2 cMeasure
theorem two_mod {x y : Nat} (h0 : 0 < y) (h : y ≤ x) : 2 * (x % y) < x := by
  have h1 := Nat.mod_lt x h0
  have h2 := Nat.div_add_mod x y
  have h3 : 1 ≤ x / y := Nat.div_pos h h0
  have h4 : y * 1 ≤ y * (x / y) := Nat.mul_le_mul_left y h3
  omega
theorem measure_ok {a b k : Nat} (hb : b < 2 ^ k) (hk : k < 400000) : fMeasure [.d (.int a), .d (.int b)] [] = .ok (.d (.int (Nat.gcd a b : Nat))) [] := by
  obtain ⟨s', e, q⟩ := whL_inv (t := cB (cOp2 opGt (cVar 1) (cC (.int 0)))) (b := cPar 0 1 (cVar 1) (cOp2 opMod (cVar 0) (cVar 1)))
    (fun k s => ∃ x y j : Nat, s = ⟨[.d (.int x), .d (.int y)], []⟩ ∧ Nat.gcd x y = Nat.gcd a b ∧ ((k = 2 * j ∧ y < 2 ^ j) ∨ (k + 1 = 2 * j ∧ y < x ∧ x < 2 ^ j)))
    (fun s => s = ⟨[.d (.int (Nat.gcd a b : Nat)), .d (.int 0)], []⟩) (fun k s hi => by
      obtain ⟨x, y, j, rfl, hg, hc⟩ := hi
      by_cases hy : y = 0
      · subst hy
        refine .inl ⟨⟨[.d (.int x), .d (.int 0)], []⟩, by simp, ?_⟩
        rw [Nat.gcd_zero_right] at hg
        rw [hg]
      · have hy0 : 0 < y := Nat.pos_of_ne_zero hy
        have hyI : (0 : Int) < (y : Int) := by omega
        have hm := Nat.mod_lt x hy0
        have om : opMod (.d (.int x)) (.d (.int y)) = some (.d (.int ((x % y : Nat) : Int))) := opMod_i hyI
        have hgcd : Nat.gcd y (x % y) = Nat.gcd a b := by
          rw [← hg, Nat.gcd_comm x y, Nat.gcd_rec y x, Nat.gcd_comm]
        suffices hh : ∃ k', k' < k ∧ ∃ j : Nat, ((k' = 2 * j ∧ x % y < 2 ^ j) ∨ (k' + 1 = 2 * j ∧ x % y < y ∧ y < 2 ^ j)) by
          obtain ⟨k', hk', j', hj⟩ := hh
          exact .inr ⟨⟨[.d (.int x), .d (.int y)], []⟩, ⟨[.d (.int y), .d (.int ((x % y : Nat) : Int))], []⟩, k', by simp [hy0], .inl (by simp [om]), hk', ⟨y, x % y, j', rfl, hgcd, hj⟩⟩
        rcases hc with ⟨hk, hlt⟩ | ⟨hk, hlt, hx⟩
        · have hj : j ≠ 0 := fun z => by
            rw [z] at hlt
            have : (2 : Nat) ^ 0 = 1 := rfl
            omega
          exact ⟨2 * j - 1, by omega, j, .inr ⟨by omega, hm, hlt⟩⟩
        · have h2 := two_mod hy0 (Nat.le_of_lt hlt)
          have hj : j = j - 1 + 1 := by omega
          rw [hj, Nat.pow_succ] at hx
          exact ⟨2 * (j - 1), by omega, j - 1, .inl ⟨rfl, by omega⟩⟩) 1000000 (2 * k) ⟨[.d (.int a), .d (.int b)], []⟩ (by omega) ⟨a, b, k, rfl, rfl, .inl ⟨rfl, hb⟩⟩
  unfold fMeasure
  rw [runF_s]
  show fin [] (cSeq _ _ _) = _
  rw [cSeq_s]
  show fin [] ((whL _ _ 1000000 ⟨[.d (.int a), .d (.int b)], []⟩).then _) = _
  rw [e, q]
  simp
/-! ### shares -/
def shD (p q : Int) : D := .tuple [.int p, .int q]
def cShare : CS :=
 (cSeq (cIfS (cB (cOp2 opEq (cVar 1) (cC (.int 0))))
 (cRaise "NoShare")
 cNx)
 (cSeq (cSet 2 (cCallP fMeasure (lCons (cOp1 opAbs (cVar 0)) (lCons (cOp1 opAbs (cVar 1)) lNil))))
 (cSeq (cIfS (cB (cOp2 opLt (cVar 1) (cC (.int 0))))
 (cSet 2 (cOp2 opSub (cC (.int 0)) (cVar 2)))
 cNx)
 (cRet (cTup (cCons (cOp2 opDiv (cVar 0) (cVar 2)) (cCons (cOp2 opDiv (cVar 1) (cVar 2)) cNil)))))))
def fShare : Fn := runF 3 cShare
@[simp] theorem cRaise_s {n : String} {s : S} : cRaise n s = .ex n s := rfl
theorem share_none {top : Int} : fShare [.d (.int top), .d (.int 0)] [] = .ex "NoShare" [] := by
  unfold fShare
  rw [runF_s]
  simp [cShare]
/-- in lowest terms, of so many bits -/
structure Sh (k : Nat) (p q : Int) : Prop where
  pos : 1 ≤ q
  cop : Int.gcd p q = 1
  bp : Bs k p
  bq : Bs k q
theorem abs_nat (x : Int) : (if x < 0 then -x else x) = ((x.natAbs : Nat) : Int) := by
  split <;> omega
theorem gcd_pos {a b : Int} (h : b ≠ 0) : 0 < Int.gcd a b := Int.gcd_pos_iff.mpr (.inr h)
theorem share_ok {top bot : Int} {j k : Nat} (hb : bot ≠ 0) (ht : Bs j top) (hk : Bs k bot) (hk2 : k ≤ 8900) :
    ∃ p q, fShare [.d (.int top), .d (.int bot)] [] = .ok (.d (shD p q)) [] ∧ Sh (max j k) p q ∧ p * bot = top * q := by
  have hg := gcd_pos (a := top) hb
  obtain ⟨g, hgd⟩ : ∃ g : Nat, g = Int.gcd top bot := ⟨_, rfl⟩
  rw [← hgd] at hg
  obtain ⟨t, ht'⟩ : (g : Int) ∣ top := by rw [hgd]; exact Int.gcd_dvd_left ..
  obtain ⟨u, hu'⟩ : (g : Int) ∣ bot := by rw [hgd]; exact Int.gcd_dvd_right ..
  have hg0 : (0 : Int) < g := by omega
  have hgn : (g : Int) ≠ 0 := by omega
  have hu0 : u ≠ 0 := fun z => hb (by rw [hu', z, Int.mul_zero])
  have e := measure_ok (a := top.natAbs) (b := bot.natAbs) (k := k) hk (by omega)
  have hgg : Nat.gcd top.natAbs bot.natAbs = g := hgd.symm
  rw [hgg] at e
  have cop : Int.gcd t u = 1 := by
    have h1 : Int.gcd top bot = g * Int.gcd t u := by
      rw [ht', hu', Int.gcd_mul_left]
      rfl
    rw [← hgd] at h1
    exact Nat.eq_of_mul_eq_mul_left hg (by rw [← h1, Nat.mul_one])
  have hlt : (g : Int).natAbs.log2 < 9000 := by
    have hb1 : Bs k (g : Int) := hk.le (by
      show g ≤ bot.natAbs
      exact Nat.le_of_dvd (Int.natAbs_pos.mpr hb) (by rw [hgd]; exact Int.natAbs_dvd_natAbs.mpr (Int.gcd_dvd_right ..)))
    have := hb1.log
    omega
  have hat : t.natAbs ≤ top.natAbs := by
    rw [ht', Int.natAbs_mul]
    exact Nat.le_mul_of_pos_left _ hg
  have hau : u.natAbs ≤ bot.natAbs := by
    rw [hu', Int.natAbs_mul]
    exact Nat.le_mul_of_pos_left _ hg
  have o1 : opAbs (.d (.int top)) = some (.d (.int (top.natAbs : Nat))) := by rw [opAbs_i, abs_nat]
  have o2 : opAbs (.d (.int bot)) = some (.d (.int (bot.natAbs : Nat))) := by rw [opAbs_i, abs_nat]
  by_cases hn : bot < 0
  · have hdv : ∀ x : Int, ((g : Int) * x).fdiv (0 - (g : Int)) = -x := fun x => by
      rw [show (g : Int) * x = (0 - (g : Int)) * (-x) by rw [Int.zero_sub, Int.neg_mul_neg], Int.mul_fdiv_cancel_left _ (by omega)]
    have d1 : opDiv (.d (.int top)) (.d (.int (0 - (g : Int)))) = some (.d (.int (-t))) := by
      show (if (0 - (g : Int)) ≠ 0 ∧ (0 - (g : Int)).natAbs.log2 < 9000 then some (Rv.d (.int (fdv top (0 - (g : Int))))) else none) = _
      rw [if_pos ⟨by omega, by rw [Int.zero_sub, Int.natAbs_neg]; exact hlt⟩]
      unfold fdv
      rw [if_neg (by omega), ht', hdv]
    have d2 : opDiv (.d (.int bot)) (.d (.int (0 - (g : Int)))) = some (.d (.int (-u))) := by
      show (if (0 - (g : Int)) ≠ 0 ∧ (0 - (g : Int)).natAbs.log2 < 9000 then some (Rv.d (.int (fdv bot (0 - (g : Int))))) else none) = _
      rw [if_pos ⟨by omega, by rw [Int.zero_sub, Int.natAbs_neg]; exact hlt⟩]
      unfold fdv
      rw [if_neg (by omega), hu', hdv]
    have hun : u < 0 := by
      rcases Int.lt_trichotomy u 0 with h | h | h
      · exact h
      · exact absurd h hu0
      · have := Int.mul_pos hg0 h
        omega
    refine ⟨-t, -u, ?_, ⟨by omega, by rw [Int.gcd_neg, Int.neg_gcd]; exact cop, (ht.le (by rw [Int.natAbs_neg]; exact hat)).mono (Nat.le_max_left ..), (hk.le (by rw [Int.natAbs_neg]; exact hau)).mono (Nat.le_max_right ..)⟩, ?_⟩
    · unfold fShare
      rw [runF_s]
      simp [-opAbs_i, -Int.zero_sub, cShare, o1, o2, e, hn, hb, d1, d2, shD]
    · rw [ht', hu']
      rw [Int.mul_neg, Int.neg_mul, Int.mul_left_comm, Int.mul_assoc]
  · have hbp : 0 < bot := by omega
    have d1 : opDiv (.d (.int top)) (.d (.int g)) = some (.d (.int t)) := by
      rw [opDiv_i hg0 hlt, ht', Int.mul_ediv_cancel_left _ hgn]
    have d2 : opDiv (.d (.int bot)) (.d (.int g)) = some (.d (.int u)) := by
      rw [opDiv_i hg0 hlt, hu', Int.mul_ediv_cancel_left _ hgn]
    have hup : 0 < u := by
      rcases Int.lt_trichotomy u 0 with h | h | h
      · have := Int.mul_neg_of_pos_of_neg hg0 h
        omega
      · exact absurd h hu0
      · exact h
    refine ⟨t, u, ?_, ⟨by omega, cop, (ht.le hat).mono (Nat.le_max_left ..), (hk.le hau).mono (Nat.le_max_right ..)⟩, ?_⟩
    · unfold fShare
      rw [runF_s]
      simp [-opAbs_i, cShare, o1, o2, e, hn, hb, d1, d2, shD]
    · rw [ht', hu']
      rw [Int.mul_left_comm, Int.mul_assoc]
theorem cop_dvd {a b c : Int} (h : a ∣ b * c) (g : Int.gcd a b = 1) : a ∣ c := by
  have h1 : a.natAbs ∣ b.natAbs * c.natAbs := by
    rw [← Int.natAbs_mul]
    exact Int.natAbs_dvd_natAbs.mpr h
  exact Int.natAbs_dvd_natAbs.mp (Nat.Coprime.dvd_of_dvd_mul_left g h1)
/-- shares that stand for the same are the same -/
theorem low_one {p q p' q' : Int} (h : 1 ≤ q) (h' : 1 ≤ q') (c : Int.gcd p q = 1) (c' : Int.gcd p' q' = 1) (e : p * q' = p' * q) : p = p' ∧ q = q' := by
  have d1 : q ∣ q' := by
    have : q ∣ p * q' := ⟨p', by rw [e, Int.mul_comm]⟩
    exact cop_dvd this (by rw [Int.gcd_comm]; exact c)
  have d2 : q' ∣ q := by
    have : q' ∣ p' * q := ⟨p, by rw [← e, Int.mul_comm]⟩
    exact cop_dvd this (by rw [Int.gcd_comm]; exact c')
  have hq : q = q' := Int.le_antisymm (Int.le_of_dvd (by omega) d1) (Int.le_of_dvd (by omega) d2)
  subst hq
  exact ⟨Int.eq_of_mul_eq_mul_right (by omega) e, rfl⟩
end Vm

namespace Vm
open PySem L2
@[simp] theorem sh_0 {p q : Int} : opIx (.d (shD p q)) (.d (.int 0)) = some (.d (.int p)) := rfl
@[simp] theorem sh_1 {p q : Int} : opIx (.d (shD p q)) (.d (.int 1)) = some (.d (.int q)) := rfl
theorem sh_mk {p q : Int} : PyData.tuple [PyData.int p, PyData.int q] = shD p q := rfl
theorem sh_ne {p q p' q' : Int} : opNe (.d (shD p q)) (.d (shD p' q')) = some (.d (.bool (!decide (p = p' ∧ q = q')))) := by
  have := opNe_intsT (as := [p, q]) (bs := [p', q'])
  rw [show opNe (.d (shD p q)) (.d (shD p' q')) = _ from this]
  simp
theorem sh_eq {p q p' q' : Int} : opEq (.d (shD p q)) (.d (shD p' q')) = some (.d (.bool (decide (p = p' ∧ q = q')))) := by
  have := opEq_intsT (as := [p, q]) (bs := [p', q'])
  rw [show opEq (.d (shD p q)) (.d (shD p' q')) = _ from this]
  simp
def fPlus : Fn := runF 2 (cRet (cCallP fShare (lCons (cOp2 opAdd (cOp2 opMulV (cOp2 opIx (cVar 0) (cC (.int 0))) (cOp2 opIx (cVar 1) (cC (.int 1)))) (cOp2 opMulV (cOp2 opIx (cVar 1) (cC (.int 0))) (cOp2 opIx (cVar 0) (cC (.int 1))))) (lCons (cOp2 opMulV (cOp2 opIx (cVar 0) (cC (.int 1))) (cOp2 opIx (cVar 1) (cC (.int 1)))) lNil))))
def fMinus : Fn := runF 2 (cRet (cCallP fShare (lCons (cOp2 opSub (cOp2 opMulV (cOp2 opIx (cVar 0) (cC (.int 0))) (cOp2 opIx (cVar 1) (cC (.int 1)))) (cOp2 opMulV (cOp2 opIx (cVar 1) (cC (.int 0))) (cOp2 opIx (cVar 0) (cC (.int 1))))) (lCons (cOp2 opMulV (cOp2 opIx (cVar 0) (cC (.int 1))) (cOp2 opIx (cVar 1) (cC (.int 1)))) lNil))))
def fTimes : Fn := runF 2 (cRet (cCallP fShare (lCons (cOp2 opMulV (cOp2 opIx (cVar 0) (cC (.int 0))) (cOp2 opIx (cVar 1) (cC (.int 0)))) (lCons (cOp2 opMulV (cOp2 opIx (cVar 0) (cC (.int 1))) (cOp2 opIx (cVar 1) (cC (.int 1)))) lNil))))
def fOver : Fn := runF 2 (cRet (cCallP fShare (lCons (cOp2 opMulV (cOp2 opIx (cVar 0) (cC (.int 0))) (cOp2 opIx (cVar 1) (cC (.int 1)))) (lCons (cOp2 opMulV (cOp2 opIx (cVar 0) (cC (.int 1))) (cOp2 opIx (cVar 1) (cC (.int 0)))) lNil))))
def cTotal : CS := (cSeq (cSet 1 (cTup (cCons (cC (.int 0)) (cCons (cC (.int 1)) cNil))))
 (cSeq (cFor (ciSeq (cVar 0)) (tgN 2)
 (cSet 1 (cCallP fPlus (lCons (cVar 1) (lCons (cVar 2) lNil)))))
 (cRet (cVar 1))))
def fTotal : Fn := runF 3 cTotal
def fLess : Fn := runF 2 (cRet (cOp2 opLt (cOp2 opMulV (cOp2 opIx (cVar 0) (cC (.int 0))) (cOp2 opIx (cVar 1) (cC (.int 1)))) (cOp2 opMulV (cOp2 opIx (cVar 1) (cC (.int 0))) (cOp2 opIx (cVar 0) (cC (.int 1))))))
section
variable {j k : Nat} {p1 q1 p2 q2 : Int}
theorem Sh.mono (h : Sh j p1 q1) (hk : j ≤ k) : Sh k p1 q1 := ⟨h.pos, h.cop, h.bp.mono hk, h.bq.mono hk⟩
theorem Sh.neg (h : Sh j p1 q1) : Sh j (-p1) q1 := ⟨h.pos, by rw [Int.neg_gcd]; exact h.cop, h.bp.neg, h.bq⟩
theorem plus_ok (a : Sh j p1 q1) (b : Sh k p2 q2) (hk : j + k ≤ 8000) : ∃ p q, fPlus [.d (shD p1 q1), .d (shD p2 q2)] [] = .ok (.d (shD p q)) [] ∧ Sh (j + k + 1) p q ∧ p * (q1 * q2) = (p1 * q2 + p2 * q1) * q := by
  have a1 := a.pos
  have b1 := b.pos
  have hb : q1 * q2 ≠ 0 := Int.mul_ne_zero (by omega) (by omega)
  have s1 : Bs (j + k + 1) (p1 * q2 + p2 * q1) := (a.bp.mul b.bq).add (b.bp.mul a.bq) (Nat.le_refl _) (by omega)
  obtain ⟨p, q, e, h, r⟩ := share_ok hb s1 (a.bq.mul b.bq) (by omega)
  refine ⟨p, q, ?_, h.mono (by omega), r⟩
  have m1 := opMul_i (a.bp.mulOk b.bq (by omega))
  have m2 := opMul_i (b.bp.mulOk a.bq (by omega))
  have m3 := opMul_i (a.bq.mulOk b.bq (by omega))
  unfold fPlus
  rw [runF_s]
  simp [m1, m2, m3, e]
theorem minus_ok (a : Sh j p1 q1) (b : Sh k p2 q2) (hk : j + k ≤ 8000) : ∃ p q, fMinus [.d (shD p1 q1), .d (shD p2 q2)] [] = .ok (.d (shD p q)) [] ∧ Sh (j + k + 1) p q ∧ p * (q1 * q2) = (p1 * q2 - p2 * q1) * q := by
  have a1 := a.pos
  have b1 := b.pos
  have hb : q1 * q2 ≠ 0 := Int.mul_ne_zero (by omega) (by omega)
  have s1 : Bs (j + k + 1) (p1 * q2 - p2 * q1) := (a.bp.mul b.bq).sub (b.bp.mul a.bq) (Nat.le_refl _) (by omega)
  obtain ⟨p, q, e, h, r⟩ := share_ok hb s1 (a.bq.mul b.bq) (by omega)
  refine ⟨p, q, ?_, h.mono (by omega), r⟩
  have m1 := opMul_i (a.bp.mulOk b.bq (by omega))
  have m2 := opMul_i (b.bp.mulOk a.bq (by omega))
  have m3 := opMul_i (a.bq.mulOk b.bq (by omega))
  unfold fMinus
  rw [runF_s]
  simp [m1, m2, m3, e]
theorem times_ok (a : Sh j p1 q1) (b : Sh k p2 q2) (hk : j + k ≤ 8000) : ∃ p q, fTimes [.d (shD p1 q1), .d (shD p2 q2)] [] = .ok (.d (shD p q)) [] ∧ Sh (j + k) p q ∧ p * (q1 * q2) = (p1 * p2) * q := by
  have a1 := a.pos
  have b1 := b.pos
  have hb : q1 * q2 ≠ 0 := Int.mul_ne_zero (by omega) (by omega)
  obtain ⟨p, q, e, h, r⟩ := share_ok hb (a.bp.mul b.bp) (a.bq.mul b.bq) (by omega)
  refine ⟨p, q, ?_, h.mono (by omega), r⟩
  have m1 := opMul_i (a.bp.mulOk b.bp (by omega))
  have m3 := opMul_i (a.bq.mulOk b.bq (by omega))
  unfold fTimes
  rw [runF_s]
  simp [m1, m3, e]
theorem over_ok (a : Sh j p1 q1) (b : Sh k p2 q2) (hk : j + k ≤ 8000) (hn : p2 ≠ 0) : ∃ p q, fOver [.d (shD p1 q1), .d (shD p2 q2)] [] = .ok (.d (shD p q)) [] ∧ Sh (j + k) p q ∧ p * (q1 * p2) = (p1 * q2) * q := by
  have a1 := a.pos
  have b1 := b.pos
  have hb : q1 * p2 ≠ 0 := Int.mul_ne_zero (by omega) hn
  obtain ⟨p, q, e, h, r⟩ := share_ok hb (a.bp.mul b.bq) (a.bq.mul b.bp) (by omega)
  refine ⟨p, q, ?_, h.mono (by omega), r⟩
  have m1 := opMul_i (a.bp.mulOk b.bq (by omega))
  have m3 := opMul_i (a.bq.mulOk b.bp (by omega))
  unfold fOver
  rw [runF_s]
  simp [m1, m3, e]
theorem over_none (a : Sh j p1 q1) (b : Sh k 0 q2) (hk : j + k ≤ 8000) : fOver [.d (shD p1 q1), .d (shD 0 q2)] [] = .ex "NoShare" [] := by
  have m1 := opMul_i (a.bp.mulOk b.bq (by omega))
  have m3 := opMul_i (a.bq.mulOk b.bp (by omega))
  rw [Int.mul_zero] at m3
  have e := share_none (top := p1 * q2)
  unfold fOver
  rw [runF_s]
  simp [m1, m3, e]
theorem less_ok (a : Sh j p1 q1) (b : Sh k p2 q2) (hk : j + k ≤ 8000) : fLess [.d (shD p1 q1), .d (shD p2 q2)] [] = .ok (.d (.bool (decide (p1 * q2 < p2 * q1)))) [] := by
  have m1 := opMul_i (a.bp.mulOk b.bq (by omega))
  have m2 := opMul_i (b.bp.mulOk a.bq (by omega))
  unfold fLess
  rw [runF_s]
  simp [m1, m2]
end
/-- 1 is the measure of both -/
theorem sh_measure {k : Nat} {p q : Int} (h : Sh k p q) (hk : k < 400000) : fMeasure [.d (.int (p.natAbs : Nat)), .d (.int q)] [] = .ok (.d (.int 1)) [] := by
  have hp := h.pos
  have e := measure_ok (a := p.natAbs) (b := q.natAbs) (k := k) h.bq hk
  rw [show ((q.natAbs : Nat) : Int) = q by omega, show Nat.gcd p.natAbs q.natAbs = 1 from h.cop] at e
  exact e
theorem abs_s {x : Int} : opAbs (.d (.int x)) = some (.d (.int (x.natAbs : Nat))) := by rw [opAbs_i, abs_nat]
/-- the law's reduced -/
def cReduced : CS :=
 (cSeq (cSet 2 (cCallP fMeasure (lCons (cOp1 opAbs (cVar 0)) (lCons (cVar 1) lNil))))
 (cRet (cTup (cCons (cOp2 opDiv (cVar 0) (cVar 2)) (cCons (cOp2 opDiv (cVar 1) (cVar 2)) cNil)))))
def fReduced : Fn := runF 3 cReduced
theorem reduced_ok {top bot : Int} {j k : Nat} (hb : 1 ≤ bot) (ht : Bs j top) (hk : Bs k bot) (hk2 : k ≤ 8900) :
    ∃ p q, fReduced [.d (.int top), .d (.int bot)] [] = .ok (.d (shD p q)) [] ∧ Sh (max j k) p q ∧ p * bot = top * q := by
  have hb0 : bot ≠ 0 := by omega
  have hg := gcd_pos (a := top) hb0
  obtain ⟨g, hgd⟩ : ∃ g : Nat, g = Int.gcd top bot := ⟨_, rfl⟩
  rw [← hgd] at hg
  obtain ⟨t, ht'⟩ : (g : Int) ∣ top := by rw [hgd]; exact Int.gcd_dvd_left ..
  obtain ⟨u, hu'⟩ : (g : Int) ∣ bot := by rw [hgd]; exact Int.gcd_dvd_right ..
  have hg0 : (0 : Int) < g := by omega
  have hgn : (g : Int) ≠ 0 := by omega
  have e := measure_ok (a := top.natAbs) (b := bot.natAbs) (k := k) hk (by omega)
  have hgg : Nat.gcd top.natAbs bot.natAbs = g := hgd.symm
  rw [hgg, show ((bot.natAbs : Nat) : Int) = bot by omega] at e
  have cop : Int.gcd t u = 1 := by
    have h1 : Int.gcd top bot = g * Int.gcd t u := by
      rw [ht', hu', Int.gcd_mul_left]
      rfl
    rw [← hgd] at h1
    exact Nat.eq_of_mul_eq_mul_left hg (by rw [← h1, Nat.mul_one])
  have hlt : (g : Int).natAbs.log2 < 9000 := by
    have hb1 : Bs k (g : Int) := hk.le (by
      show g ≤ bot.natAbs
      exact Nat.le_of_dvd (Int.natAbs_pos.mpr hb0) (by rw [hgd]; exact Int.natAbs_dvd_natAbs.mpr (Int.gcd_dvd_right ..)))
    have := hb1.log
    omega
  have hat : t.natAbs ≤ top.natAbs := by
    rw [ht', Int.natAbs_mul]
    exact Nat.le_mul_of_pos_left _ hg
  have hau : u.natAbs ≤ bot.natAbs := by
    rw [hu', Int.natAbs_mul]
    exact Nat.le_mul_of_pos_left _ hg
  have d1 : opDiv (.d (.int top)) (.d (.int g)) = some (.d (.int t)) := by
    rw [opDiv_i hg0 hlt, ht', Int.mul_ediv_cancel_left _ hgn]
  have d2 : opDiv (.d (.int bot)) (.d (.int g)) = some (.d (.int u)) := by
    rw [opDiv_i hg0 hlt, hu', Int.mul_ediv_cancel_left _ hgn]
  have hup : 0 < u := by
    rcases Int.lt_trichotomy u 0 with h | h | h
    · have := Int.mul_neg_of_pos_of_neg hg0 h
      omega
    · rw [h, Int.mul_zero] at hu'
      omega
    · exact h
  refine ⟨t, u, ?_, ⟨by omega, cop, (ht.le hat).mono (Nat.le_max_left ..), (hk.le hau).mono (Nat.le_max_right ..)⟩, ?_⟩
  · unfold fReduced
    rw [runF_s]
    simp [-opAbs_i, cReduced, abs_s, e, d1, d2, shD]
  · rw [ht', hu']
    rw [Int.mul_left_comm, Int.mul_assoc]
/-- the law's look at a share that was told -/
def fWhole : Fn := runF 1 (cRet (cAnd (cOp1 (opIsi "int") (cVar 0)) (cNot (cOp1 (opIsi "bool") (cVar 0)))))
theorem whole_ok {i : Int} : fWhole [.d (.int i)] [] = .ok (.d (.bool true)) [] := rfl
def cLawIs : CS :=
 (cSeq (cIfS (tOr' (tNot' (cTru (cOp1 (opIsi "tuple") (cVar 0)))) (tOr' (cB (cOp2 opNe (cOp1 opLen (cVar 0)) (cC (.int 2)))) (tNot' (cTru (cOp1 opAll (cLc [3] (ciSeq (cVar 0)) (tgN 3) ctYes (cCallP fWhole (lCons (cVar 3) lNil))))))))
 (cRet (cC (.bool false)))
 cNx)
 (cSeq (cIfS (tOr' (cB (cOp2 opLt (cOp2 opIx (cVar 0) (cC (.int 1))) (cC (.int 1)))) (cB (cOp2 opNe (cCallP fMeasure (lCons (cOp1 opAbs (cOp2 opIx (cVar 0) (cC (.int 0)))) (lCons (cOp2 opIx (cVar 0) (cC (.int 1))) lNil))) (cC (.int 1)))))
 (cRet (cC (.bool false)))
 cNx)
 (cRet (cOp2 opEq (cOp2 opMulV (cOp2 opIx (cVar 0) (cC (.int 0))) (cVar 2)) (cOp2 opMulV (cVar 1) (cOp2 opIx (cVar 0) (cC (.int 1))))))))
def fLawIs : Fn := runF 4 cLawIs
@[simp] theorem isiB_tt : isiB "tuple" "tuple" = true := rfl
theorem law_is {j k m : Nat} {p q top bot : Int} (h : Sh j p q) (ht : Bs k top) (hb : Bs m bot) (hj : j < 100000) (hk : k < 1000000) (hm : m < 1000000) (e : p * bot = top * q) : fLawIs [.d (shD p q), .d (.int top), .d (.int bot)] [] = .ok (.d (.bool true)) [] := by
  have l := lc_all (own := [3]) (ci := ciSeq (cVar 0)) (tg := tgN 3) (el := cCallP fWhole (lCons (cVar 3) lNil)) (s := ⟨[.d (shD p q), .d (.int top), .d (.int bot), .u], []⟩) (s1 := ⟨[.d (shD p q), .d (.int top), .d (.int bot), .u], []⟩) (ds := [.int p, .int q])
    (g := fun _ => .bool true) rfl (show 2 ≤ 16000000 by decide) fun d hd => by
      refine ⟨_, rfl, [.d (shD p q), .d (.int top), .d (.int bot), .d d], ?_⟩
      have : fWhole [.d d] [] = .ok (.d (.bool true)) [] := by
        simp at hd
        rcases hd with rfl | rfl <;> exact whole_ok
      simp [wipeV, this]
  have m1 := opMul_i (h.bp.mulOk hb (by omega))
  have m2 := opMul_i (ht.mulOk h.bq (by omega))
  have hp := h.pos
  have g1 := sh_measure h (by omega)
  have al : opAll (.d (.list [.bool true, .bool true])) = some (.d (.bool true)) := rfl
  have ty : isiB "tuple" (tyN (.d (shD p q))) = true := rfl
  have ln : opLen (.d (shD p q)) = some (.d (.int 2)) := rfl
  unfold fLawIs
  rw [runF_s]
  simp [-opAbs_i, cLawIs, l, al, ty, ln, abs_s, g1, m1, m2, e, show ¬ q < 1 by omega]
end Vm

namespace Vm
open PySem L2
theorem ten5 : opPow (.d (.int 10)) (.d (.int 5)) = some (.d (.int 100000)) := rfl
theorem ten6 : opPow (.d (.int 10)) (.d (.int 6)) = some (.d (.int 1000000)) := rfl
theorem ten12 : opPow (.d (.int 10)) (.d (.int 12)) = some (.d (.int 1000000000000)) := rfl
def cNumber : CS :=
 (cSeq (cSet 1 (cCall fDrawA (lCons (cVar 0) (lCons (cC (.int 5)) lNil))))
 (cSeq (cSet 2 (cOp2 opSub (cC (.int 1)) (cOp2 opMulV (cC (.int 2)) (cCall fDrawA (lCons (cVar 0) (lCons (cC (.int 2)) lNil))))))
 (cSeq (cIfS (cB (cOp2 opEq (cVar 1) (cC (.int 0))))
 (cRet (cC (.int 0)))
 cNx)
 (cSeq (cIfS (cB (cOp2 opEq (cVar 1) (cC (.int 1))))
 (cRet (cOp2 opMulV (cVar 2) (cOp2 opAdd (cC (.int 1)) (cCall fDrawA (lCons (cVar 0) (lCons (cC (.int 12)) lNil))))))
 cNx)
 (cSeq (cIfS (cB (cOp2 opEq (cVar 1) (cC (.int 2))))
 (cRet (cOp2 opMulV (cVar 2) (cOp2 opSub (cOp2 opSub (cOp2 opPow (cC (.int 10)) (cC (.int 12))) (cC (.int 1))) (cCall fDrawA (lCons (cVar 0) (lCons (cC (.int 5)) lNil))))))
 cNx)
 (cRet (cOp2 opMulV (cVar 2) (cOp2 opAdd (cOp2 opMulV (cCall fDrawA (lCons (cVar 0) (lCons (cOp2 opPow (cC (.int 10)) (cC (.int 6))) lNil))) (cOp2 opIx (cLst (cCons (cC (.int 1)) (cCons (cOp2 opPow (cC (.int 10)) (cC (.int 6))) cNil))) (cOp2 opSub (cVar 1) (cC (.int 3))))) (cCall fDrawA (lCons (cVar 0) (lCons (cOp2 opPow (cC (.int 10)) (cC (.int 6))) lNil)))))))))))
def fNumber : Fn := runF 3 cNumber
theorem number_ok {B : Nat} {p : Cell} {r : List Cell} (hp : IsPen B p) (hB : B < 100000) : ∃ n p', fNumber [.c 0] (p :: r) = .ok (.d (.int n)) (p' :: r) ∧ Bs 40 n ∧ IsPen (B + 5) p' := by
  obtain ⟨v, p1, e1, v0, v1, hp1⟩ := drawA B p r 5 hp (by omega) (by decide) (by decide)
  obtain ⟨s, p2, e2, s0, s1, hp2⟩ := drawA _ p1 r 2 hp1 (by omega) (by decide) (by decide)
  have sg : ∃ g : Int, 1 - 2 * s = g ∧ (g = 1 ∨ g = -1) := ⟨_, rfl, by omega⟩
  obtain ⟨g, hg, hg1⟩ := sg
  have m1 : opMulV (.d (.int 2)) (.d (.int s)) = some (.d (.int (2 * s))) := opMul_i (mulOk_small (by omega) (by omega))
  have fin1 : ∀ x : Int, x.natAbs < 1000000000000 → opMulV (.d (.int g)) (.d (.int x)) = some (.d (.int (g * x))) ∧ Bs 40 (g * x) := fun x hx => by
    refine ⟨opMul_i (mulOk_small (by omega) (by omega)), ?_⟩
    show (g * x).natAbs < 2 ^ 40
    rcases hg1 with h | h <;> rw [h] <;> omega
  unfold fNumber
  rw [runF_s]
  have hv : v = 0 ∨ v = 1 ∨ v = 2 ∨ v = 3 ∨ v = 4 := by omega
  rcases hv with rfl | rfl | rfl | rfl | rfl
  · refine ⟨0, p2, ?_, show (0 : Int).natAbs < 2 ^ 40 by decide, hp2.mono (by omega)⟩
    simp [cNumber, e1, e2, m1, hg]
  · obtain ⟨a, p3, e3, a0, a1, hp3⟩ := drawA _ p2 r 12 hp2 (by omega) (by decide) (by decide)
    obtain ⟨f1, f2⟩ := fin1 (1 + a) (by omega)
    refine ⟨g * (1 + a), p3, ?_, f2, hp3.mono (by omega)⟩
    simp [cNumber, e1, e2, m1, hg, e3, f1]
  · obtain ⟨a, p3, e3, a0, a1, hp3⟩ := drawA _ p2 r 5 hp2 (by omega) (by decide) (by decide)
    obtain ⟨f1, f2⟩ := fin1 (999999999999 - a) (by omega)
    refine ⟨g * (999999999999 - a), p3, ?_, f2, hp3.mono (by omega)⟩
    simp [cNumber, e1, e2, m1, hg, e3, f1, ten12]
  · obtain ⟨a, p3, e3, a0, a1, hp3⟩ := drawA _ p2 r 1000000 hp2 (by omega) (by decide) (by decide)
    obtain ⟨b, p4, e4, b0, b1, hp4⟩ := drawA _ p3 r 1000000 hp3 (by omega) (by decide) (by decide)
    obtain ⟨f1, f2⟩ := fin1 (a * 1 + b) (by omega)
    have m2 : opMulV (.d (.int a)) (.d (.int 1)) = some (.d (.int (a * 1))) := opMul_i (mulOk_small (by omega) (by omega))
    have ix : opIx (.d (.list [.int 1, .int 1000000])) (.d (.int 0)) = some (.d (.int 1)) := rfl
    refine ⟨g * (a * 1 + b), p4, ?_, f2, hp4.mono (by omega)⟩
    rw [Int.mul_one] at f1 m2 ⊢
    simp [cNumber, e1, e2, m1, hg, e3, e4, f1, ten6, m2, ix]
  · obtain ⟨a, p3, e3, a0, a1, hp3⟩ := drawA _ p2 r 1000000 hp2 (by omega) (by decide) (by decide)
    obtain ⟨b, p4, e4, b0, b1, hp4⟩ := drawA _ p3 r 1000000 hp3 (by omega) (by decide) (by decide)
    obtain ⟨f1, f2⟩ := fin1 (a * 1000000 + b) (by omega)
    have m2 : opMulV (.d (.int a)) (.d (.int 1000000)) = some (.d (.int (a * 1000000))) := opMul_i (mulOk_small (by omega) (by omega))
    have ix : opIx (.d (.list [.int 1, .int 1000000])) (.d (.int 1)) = some (.d (.int 1000000)) := rfl
    refine ⟨g * (a * 1000000 + b), p4, ?_, f2, hp4.mono (by omega)⟩
    simp [cNumber, e1, e2, m1, hg, e3, e4, f1, ten6, m2, ix]
def cShareA : CS :=
 (cSeq (cSet 1 (cCall fDrawA (lCons (cVar 0) (lCons (cC (.int 5)) lNil))))
 (cSeq (cSet 2 (cCall fNumber (lCons (cVar 0) lNil)))
 (cSeq (cSet 3 (cOp2 opAdd (cC (.int 1)) (cCall fDrawA (lCons (cVar 0) (lCons (cC (.int 12)) lNil)))))
 (cSeq (cIfS (cB (cOp2 opEq (cVar 1) (cC (.int 0))))
 (cRet (cTup (cCons (cOp2 opSub (cOp2 opMod (cVar 2) (cC (.int 4))) (cC (.int 1))) (cCons (cC (.int 1)) cNil))))
 cNx)
 (cSeq (cIfS (cB (cOp2 opEq (cVar 1) (cC (.int 1))))
 (cRet (cCallP fReduced (lCons (cOp2 opSub (cOp2 opMod (cVar 2) (cC (.int 60))) (cC (.int 30))) (lCons (cVar 3) lNil))))
 cNx)
 (cSeq (cIfS (cB (cOp2 opEq (cVar 1) (cC (.int 2))))
 (cRet (cCallP fReduced (lCons (cOp2 opSub (cOp2 opMod (cVar 2) (cC (.int 720))) (cC (.int 300))) (lCons (cOp2 opMulV (cC (.int 60)) (cVar 3)) lNil))))
 cNx)
 (cSeq (cIfS (cB (cOp2 opEq (cVar 1) (cC (.int 3))))
 (cRet (cCallP fReduced (lCons (cVar 2) (lCons (cOp2 opSub (cOp2 opPow (cC (.int 10)) (cC (.int 12))) (cVar 3)) lNil))))
 cNx)
 (cRet (cCallP fReduced (lCons (cVar 2) (lCons (cOp2 opAdd (cOp2 opAdd (cC (.int 1)) (cOp2 opMulV (cCall fDrawA (lCons (cVar 0) (lCons (cOp2 opPow (cC (.int 10)) (cC (.int 6))) lNil))) (cOp2 opPow (cC (.int 10)) (cC (.int 5))))) (cVar 3)) lNil)))))))))))
def fShareA : Fn := runF 4 cShareA
theorem shareA_ok {B : Nat} {p : Cell} {r : List Cell} (hp : IsPen B p) (hB : B < 90000) : ∃ a b p', fShareA [.c 0] (p :: r) = .ok (.d (shD a b)) (p' :: r) ∧ Sh 40 a b ∧ IsPen (B + 8) p' := by
  obtain ⟨v, p1, e1, v0, v1, hp1⟩ := drawA B p r 5 hp (by omega) (by decide) (by decide)
  obtain ⟨n, p2, e2, hn, hp2⟩ := number_ok (r := r) hp1 (by omega)
  obtain ⟨b, p3, e3, b0, b1, hp3⟩ := drawA _ p2 r 12 hp2 (by omega) (by decide) (by decide)
  have red : ∀ t u : Int, Bs 40 t → 1 ≤ u → u < 1099511627776 → ∃ x y, fReduced [.d (.int t), .d (.int u)] [] = .ok (.d (shD x y)) [] ∧ Sh 40 x y := fun t u ht hu hu2 => by
    obtain ⟨x, y, e, h, _⟩ := reduced_ok (j := 40) (k := 40) hu ht (show u.natAbs < 2 ^ 40 by omega) (by decide)
    exact ⟨x, y, e, h⟩
  unfold fShareA
  rw [runF_s]
  have hv : v = 0 ∨ v = 1 ∨ v = 2 ∨ v = 3 ∨ v = 4 := by omega
  rcases hv with rfl | rfl | rfl | rfl | rfl
  · refine ⟨n % 4 - 1, 1, p3, ?_, ⟨by decide, by rw [Int.gcd_one_right], show (n % 4 - 1).natAbs < 2 ^ 40 by omega, show (1 : Int).natAbs < 2 ^ 40 by decide⟩, hp3.mono (by omega)⟩
    simp [cShareA, e1, e2, e3, opMod_i, shD]
  · obtain ⟨x, y, e4, h⟩ := red (n % 60 - 30) (1 + b) (show (n % 60 - 30).natAbs < 2 ^ 40 by omega) (by omega) (by omega)
    refine ⟨x, y, p3, ?_, h, hp3.mono (by omega)⟩
    simp [cShareA, e1, e2, e3, opMod_i, e4]
  · obtain ⟨x, y, e4, h⟩ := red (n % 720 - 300) (60 * (1 + b)) (show (n % 720 - 300).natAbs < 2 ^ 40 by omega) (by omega) (by omega)
    have m1 : opMulV (.d (.int 60)) (.d (.int (1 + b))) = some (.d (.int (60 * (1 + b)))) := opMul_i (mulOk_small (by omega) (by omega))
    refine ⟨x, y, p3, ?_, h, hp3.mono (by omega)⟩
    simp [cShareA, e1, e2, e3, opMod_i, e4, m1]
  · obtain ⟨x, y, e4, h⟩ := red n (1000000000000 - (1 + b)) hn (by omega) (by omega)
    refine ⟨x, y, p3, ?_, h, hp3.mono (by omega)⟩
    simp [cShareA, e1, e2, e3, ten12, e4]
  · obtain ⟨a, p4, e4, a0, a1, hp4⟩ := drawA _ p3 r 1000000 hp3 (by omega) (by decide) (by decide)
    have m1 : opMulV (.d (.int a)) (.d (.int 100000)) = some (.d (.int (a * 100000))) := opMul_i (mulOk_small (by omega) (by omega))
    obtain ⟨x, y, e5, h⟩ := red n (1 + a * 100000 + (1 + b)) hn (by omega) (by omega)
    refine ⟨x, y, p4, ?_, h, hp4.mono (by omega)⟩
    simp [cShareA, e1, e2, e3, ten6, ten5, e4, e5, m1]
end Vm

namespace Vm
open PySem L2 PySem.Spec PyProof.Rows
/-! ### methods that change nothing, of one argument -/
def tyO (T : String) : Od → Bool
  | .d (.list _) => T == "list"
  | .d (.str _) => T == "str"
  | .c (.k _) => T == "dict"
  | _ => false
def cMt1 (T : String) (f : Od → Od → Option Rv) (co c : CE) : CE := fun s => (cv co s).bind fun x s1 => opt (x.od s1.m) fun o1 => if tyO T o1 = true then (cv c s1).bind fun y s2 => opt (x.od s2.m) fun o => opt (y.od s2.m) fun o' => opt (f o o') fun rv => .ok rv s2 else .bad
section
variable {X : Cx} {ec : EC} {W : WX}
theorem tyO_ok {K : Fg} {w : Wd} {T : String} {x : V} {o : Od} (hx : Same w.G w.H) (h : OdOk K w x o) (e : tyO T o = true) : tyV K T x w.H := by
  unfold tyO at e
  split at e
  · obtain ⟨p, vs, rfl, hs, ra⟩ := h.list hx
    exact .inl ⟨beq_iff_eq.mp e, vs, hs⟩
  · rw [h.str]
    exact beq_iff_eq.mp e
  · obtain ⟨p, rfl, hc, _⟩ := h
    obtain ⟨_, ws, hw, _⟩ := hc
    exact .inr (.inr (.inl ⟨beq_iff_eq.mp e, .inl ⟨ws, hw⟩⟩))
  · cases e
theorem e_mt1 {T : String} {m : Str} {r : V → List V → Hp → VK → Prop} {f : Od → Od → Option Rv} {o e : Expr} {apos cpos : Pos} {co c : CE} (hs : Op2S X.K (fun x y => r x [y]) f) (ho : Ex X ec W o co) (ha : Ex X ec W e c) (h1 : starEach [e] X.env = (false, eval e X.env) :: starEach [] X.env)
    (hpe : ∀ {to : TE} {t : TA}, PE X o to → PA X [e] t → PE X (.Call (.Attribute o m apos) [e] [] cpos) (tBM X.K T r to t)) : Ex X ec W (.Call (.Attribute o m apos) [e] [] cpos) (cMt1 T f co c) :=
  (hpe ho (pa_cons ha pa_nil h1)).imp fun σ H Q h => by
    obtain ⟨w, s, rfl, hr, h⟩ := h
    refine run_cv hr h fun x w1 s1 a le1 hr1 ha hn h1 => ?_
    obtain ⟨o1, e1, h2⟩ := h1.opt
    by_cases ht : tyO T o1 = true
    · rw [if_pos ht] at h2
      refine ⟨tyO_ok hr1.mem.ext (od_of hr1 ha e1) ht, ?_⟩
      refine run_cv hr1 (Res.mono h2 (fun _ _ q => q) fun _ _ q => okE_le le1 q) fun y w2 s2 b le2 hr2 hb hn2 h3 => ?_
      obtain ⟨o, e1, h3⟩ := h3.opt
      obtain ⟨o', e2, h3⟩ := h3.opt
      obtain ⟨rv, e3, h4⟩ := h3.opt
      exact hs w2 x y o o' rv Q hr2.mem.ext (od_of hr2 (ha.le hn le2) e1) (od_of hr2 hb e2) e3 (post_of hr2 fun z w' le r' o f => h4 z w' ((le1.trans le2).trans le) r' o (f.back (le1.trans le2) le o))
    · rw [if_neg ht] at h2
      exact h2.elim
/-! ### xs.count(x) -/
def rCntD (K : Fg) : V → List V → Hp → VK → Prop := fun x us H Q => ∃ p y d xs, x = .ref p ∧ us = [y] ∧ Rp K H (.ref p) (.list xs) ∧ Rp K H y d ∧ okd d = true ∧ okd (.list xs) = true ∧ Q (.int ((xs.countP fun z => PyData.eqv z d : Nat) : Int)) H
theorem mt_cntD {k : Nat} (hr : Rg k X.A) : MtR X "list.count" (rCntD X.K) := by
  intro pins s σ H x us v vs Q I rx rs h
  obtain ⟨p, y, d, xs, rfl, rfl, hl, hy, sd, se, q⟩ := h
  obtain ⟨u, rfl, ry⟩ := vals1 rs
  cases rx
  obtain ⟨pd, dl⟩ := okd_iff.mp sd
  obtain ⟨pe, _⟩ := okd_iff.mp se
  have px : PyData.plainAll xs = true := by simpa [PyData.plain] using pe
  have hu := hr.units
  obtain ⟨as, r1⟩ := Rp.reads I _ (.ref p) (.ref p) pe hl rfl
  obtain ⟨bs, r2⟩ := Rp.reads I d y u pd hy ry
  cases r1 with
  | list h1 h2 h3 h4 => exact SeqAt.count_list_data ⟨_, h1, h2, _, h3⟩ h4 r2 px pd (by omega) ⟨.int _, H, I.tok _, ⟨_, rfl⟩, q⟩
def opCount : Od → Od → Option Rv
  | .d (.list xs), .d d => if okd d = true ∧ okd (.list xs) = true then some (.d (.int ((xs.countP fun z => PyData.eqv z d : Nat) : Int))) else none
  | _, _ => none
theorem s_count {K : Fg} : Op2S K (fun x y => rCntD K x [y]) opCount := by
  intro w x y o o' rv Q hx h h' e q
  unfold opCount at e
  split at e
  · split at e
    · rename_i hh
      cases e
      have hl := h.rp hx
      obtain ⟨p, vs, rfl, hs, ra⟩ := h.list hx
      exact ⟨p, y, _, _, rfl, rfl, hl, h'.rp hx, hh.1, hh.2, post_int q⟩
    · cases e
  · cases e
theorem e_count {o e : Expr} {apos cpos : Pos} {co c : CE} {k : Nat} (hr : Rg k X.A) (ho : Ex X ec W o co) (ha : Ex X ec W e c) (hbase : attributeBase o "count" X.env (eval o X.env) = eval o X.env := by rfl)
    (hfew : ((backTo cpos (starEach [e] X.env)).all (fun x => !x.1) && (backToKw cpos (keywordEach [] X.env)).all (fun x => x.1.isSome) && decide (([e] : List Expr).length + ([] : List Keyword).length + (if ([] : List Keyword).isEmpty then 0 else 1) < 30)) = true := by rfl)
    (hline : (apos.endLine == cpos.line) = true := by rfl) (hs : starEach [e] X.env = (false, eval e X.env) :: starEach [] X.env := by rfl) (hplain : (backTo cpos (starEach [] X.env)).any (·.1) = false := by rfl) :
    Ex X ec W (.Call (.Attribute o "count" apos) [e] [] cpos) (cMt1 "list" opCount co c) :=
  e_mt1 s_count ho ha hs fun h1 h2 => pe_bm F.plainAttrs_list F.slot_list_count F.type_list_count (mt_cntD hr) h1 h2 hbase hfew hline hs hplain
/-! ### xs.index(x), flat items -/
def flatD : D → Bool
  | .none => true
  | .bool _ => true
  | .int _ => true
  | .str _ => true
  | _ => false
def vOf : D → V
  | .bool b => .bl b
  | .int i => .int i
  | .str z => .str z
  | _ => .non
theorem vOf_rp {K : Fg} {H : Hp} {x : V} {d : D} (h : Rp K H x d) (f : flatD d = true) : x = vOf d := by
  cases d with
  | none => cases h; rfl
  | bool _ => cases h; rfl
  | int _ => cases h; rfl
  | str _ => cases h; rfl
  | list _ => cases f
  | tuple _ => cases f
  | dict _ => cases f
theorem vOf_flat {d : D} (f : flatD d = true) : flatV (vOf d) = true := by
  cases d <;> first | rfl | cases f
theorem vOf_eq {d e : D} (f : flatD d = true) (g : flatD e = true) : eqV (vOf d) (vOf e) = PyData.eqv d e := by
  cases d <;> cases e <;> first | rfl | exact absurd g Bool.false_ne_true | exact absurd f Bool.false_ne_true
theorem vOf_all {K : Fg} {H : Hp} : ∀ {vs : List V} {ds : List D}, RpAll K H vs ds → ds.all flatD = true → vs = ds.map vOf
  | _, _, .nil, _ => rfl
  | _, _, .cons r t, h => by
    rw [List.all_cons, Bool.and_eq_true] at h
    rw [vOf_rp r h.1, vOf_all t h.2]
    rfl
def opIndex : Od → Od → Option Rv
  | .d (.list xs), .d d => if xs.all flatD = true ∧ flatD d = true then (match xs.findIdx? fun z => PyData.eqv z d with
    | some j => some (.d (.int (j : Nat)))
    | none => none) else none
  | _, _ => none
theorem s_index {K : Fg} : Op2S K (fun x y => rIndex K x [y]) opIndex := by
  intro w x y o o' rv Q hx h h' e q
  unfold opIndex at e
  split at e
  · split at e
    · rename_i xs d hh
      obtain ⟨p, vs, rfl, hs, ra⟩ := h.list hx
      split at e
      · rename_i j hj
        cases e
        have ev := vOf_all ra hh.1
        subst ev
        have ey := vOf_rp (h'.rp hx) hh.2
        subst ey
        obtain ⟨hlt, hp, hno⟩ := List.findIdx?_eq_some_iff_getElem.mp hj
        have fl : ∀ (m : Nat) (hm : m < xs.length), flatD xs[m] = true := fun m hm => List.all_eq_true.mp hh.1 _ (List.getElem_mem hm)
        refine ⟨p, xs.map vOf, vOf d, j, vOf xs[j], rfl, rfl, hs, vOf_flat hh.2, ?_, ?_, ?_, fun m z' hm hz => ?_, post_int q⟩
        · rw [List.all_map]
          exact List.all_eq_true.mpr fun z hz => vOf_flat (List.all_eq_true.mp hh.1 z hz)
        · rw [List.getElem?_map, List.getElem?_eq_getElem hlt]
          rfl
        · rw [vOf_eq (fl j hlt) hh.2]
          exact hp
        · rw [List.getElem?_map, List.getElem?_eq_getElem (by omega)] at hz
          cases hz
          rw [vOf_eq (fl m (by omega)) hh.2]
          exact Bool.not_eq_true _ |>.mp (hno m hm)
      · cases e
    · cases e
  · cases e
theorem e_index {o e : Expr} {apos cpos : Pos} {co c : CE} (ho : Ex X ec W o co) (ha : Ex X ec W e c) (hbase : attributeBase o "index" X.env (eval o X.env) = eval o X.env := by rfl)
    (hfew : ((backTo cpos (starEach [e] X.env)).all (fun x => !x.1) && (backToKw cpos (keywordEach [] X.env)).all (fun x => x.1.isSome) && decide (([e] : List Expr).length + ([] : List Keyword).length + (if ([] : List Keyword).isEmpty then 0 else 1) < 30)) = true := by rfl)
    (hline : (apos.endLine == cpos.line) = true := by rfl) (hs : starEach [e] X.env = (false, eval e X.env) :: starEach [] X.env := by rfl) (hplain : (backTo cpos (starEach [] X.env)).any (·.1) = false := by rfl) :
    Ex X ec W (.Call (.Attribute o "index" apos) [e] [] cpos) (cMt1 "list" opIndex co c) :=
  e_mt1 s_index ho ha hs fun h1 h2 => pe_bm F.plainAttrs_list F.slot_list_index F.type_list_index mt_index h1 h2 hbase hfew hline hs hplain
def mtK (T : String) (f : Od → Od → Option Rv) (c : CE) (x : Rv) : Option Od → S → R Rv
  | some o1, s1 => if tyO T o1 = true then (cv c s1).bind (kOp2b f x) else .bad
  | none, _ => .bad
@[simp] theorem mtK_s {T : String} {f : Od → Od → Option Rv} {c : CE} {x : Rv} {o1 : Od} {s1 : S} : mtK T f c x (some o1) s1 = if tyO T o1 = true then (cv c s1).bind (kOp2b f x) else .bad := Eq.trans rfl rfl
def kMt (T : String) (f : Od → Od → Option Rv) (c : CE) (x : Rv) (s1 : S) : R Rv := mtK T f c x (x.od s1.m) s1
@[simp] theorem kMt_s {T : String} {f : Od → Od → Option Rv} {c : CE} {x : Rv} {s1 : S} : kMt T f c x s1 = mtK T f c x (x.od s1.m) s1 := Eq.trans rfl rfl
@[simp] theorem cMt1_s {T : String} {f : Od → Od → Option Rv} {co c : CE} {s : S} : cMt1 T f co c s = (cv co s).bind (kMt T f c) := by
  unfold cMt1
  congr 1
  funext x s1
  rw [kMt_s]
  cases x.od s1.m with
  | none => rfl
  | some o1 =>
    show (if tyO T o1 = true then _ else _) = _
    rw [mtK_s]
    split
    · congr 1
      funext y s2
      exact opt_od2
    · rfl
@[simp] theorem tyO_l {ds : List D} : tyO "list" (.d (.list ds)) = true := Eq.trans rfl rfl
/-! ### xs[::-1] -/
def opRev : Od → Option Rv
  | .d (.list ds) => some (.new (.l ds.reverse))
  | _ => none
theorem e_rev {e : Expr} {c : CE} {k : Nat} {p1 p2 p3 pos : Pos} (he : Ex X ec W e c) : Ex X ec W (.Subscript e (.Slice none none (some (.UnaryOp .USub (.Constant (.int 1) k p1) p2)) p3) pos) (cOp1 opRev c) :=
  (pe_revL he).imp fun _ _ _ h => op1 (K := X.K) (r := fun x H Q => ∃ a xs, x = .ref a ∧ SqL X.K H a xs ∧ ∀ p, H p = none → Q (.ref p) (upd H p (.lst xs.reverse))) (fun w x o rv Q hx h e q => by
    unfold opRev at e
    split at e
    · cases e
      obtain ⟨p, vs, rfl, hs, ra⟩ := h.list hx
      exact ⟨p, vs, rfl, hs, fun l hl => post_lst q ra.reverse hl hx⟩
    · cases e) h
end
end Vm

namespace Vm
open PySem L2
/-! ### shares by what they stand for -/
theorem opNe_self {d : D} (h : okd d = true) : opNe (.d d) (.d d) = some (.d (.bool false)) := by
  have e : eqB d d = some true := by
    unfold eqB
    split
    · simp
    · rw [if_pos ⟨h, h⟩, SeqAt.eqv_refl_plain _ (okd_iff.mp h).1]
  unfold opNe
  dsimp only
  rw [e]
  rfl
theorem opEq_self {d : D} (h : okd d = true) : opEq (.d d) (.d d) = some (.d (.bool true)) := by
  have e : eqB d d = some true := by
    unfold eqB
    split
    · simp
    · rw [if_pos ⟨h, h⟩, SeqAt.eqv_refl_plain _ (okd_iff.mp h).1]
  unfold opEq
  dsimp only
  rw [e]
structure Tell (k : Nat) (d : D) (x : Rat) : Prop where
  ex : ∃ p q, d = shD p q ∧ Sh k p q ∧ (p : Rat) = x * q
theorem rat_pos {q : Int} (h : 1 ≤ q) : (0 : Rat) < q := Rat.intCast_pos.mpr (by omega)
theorem rat_ne {q : Int} (h : 1 ≤ q) : (q : Rat) ≠ 0 := fun z => by
  have := Rat.intCast_eq_zero_iff.mp z
  omega
theorem Tell.okd {k : Nat} {d : D} {x : Rat} (h : Tell k d x) : Vm.okd d = true := by
  obtain ⟨p, q, rfl, _⟩ := h.ex
  exact okd_intsT [p, q]
theorem Tell.ne {k : Nat} {d : D} {x : Rat} (h : Tell k d x) : opNe (.d d) (.d d) = some (.d (.bool false)) := opNe_self h.okd
theorem Tell.eq {k : Nat} {d : D} {x : Rat} (h : Tell k d x) : opEq (.d d) (.d d) = some (.d (.bool true)) := opEq_self h.okd
theorem Tell.mono {j k : Nat} {d : D} {x : Rat} (h : Tell j d x) (q : j ≤ k) : Tell k d x := by
  obtain ⟨p, q', e, s, r⟩ := h.ex
  exact ⟨p, q', e, s.mono q, r⟩
theorem Tell.to {k : Nat} {d : D} {x y : Rat} (h : Tell k d x) (e : x = y) : Tell k d y := e ▸ h
theorem Sh.tell {k : Nat} {p q : Int} (h : Sh k p q) : ∃ x : Rat, Tell k (shD p q) x ∧ (p : Rat) = x * q := by
  have hq := rat_ne h.pos
  refine ⟨(p : Rat) / q, ⟨p, q, rfl, h, ?_⟩, ?_⟩ <;> grind
theorem Tell.one {j k : Nat} {d e : D} {x : Rat} (h : Tell j d x) (g : Tell k e x) : d = e := by
  obtain ⟨p, q, rfl, s, r⟩ := h.ex
  obtain ⟨p', q', rfl, s', r'⟩ := g.ex
  have : p * q' = p' * q := by
    rw [← Rat.intCast_inj, Rat.intCast_mul, Rat.intCast_mul, r, r']
    grind
  obtain ⟨rfl, rfl⟩ := low_one s.pos s'.pos s.cop s'.cop this
  rfl
theorem Tell.uniq {j k : Nat} {d : D} {x y : Rat} (h : Tell j d x) (g : Tell k d y) : x = y := by
  obtain ⟨p, q, rfl, s, r⟩ := h.ex
  obtain ⟨p', q', e, s', r'⟩ := g.ex
  have e1 : p = p' ∧ q = q' := by
    unfold shD at e
    injection e with e
    injection e with e2 e3
    injection e2 with e2
    injection e3 with e3 _
    injection e3 with e3
    exact ⟨e2, e3⟩
  obtain ⟨rfl, rfl⟩ := e1
  have := rat_ne s.pos
  grind
section
variable {j k : Nat} {a b : D} {x y : Rat}
theorem plus_t (h : Tell j a x) (g : Tell k b y) (hk : j + k ≤ 8000) : ∃ d, fPlus [.d a, .d b] [] = .ok (.d d) [] ∧ Tell (j + k + 1) d (x + y) := by
  obtain ⟨p1, q1, rfl, s1, r1⟩ := h.ex
  obtain ⟨p2, q2, rfl, s2, r2⟩ := g.ex
  obtain ⟨p, q, e, s, r⟩ := plus_ok s1 s2 hk
  refine ⟨shD p q, e, p, q, rfl, s, ?_⟩
  have h1 := rat_ne s1.pos
  have h2 := rat_ne s2.pos
  rw [← Rat.intCast_inj, Rat.intCast_mul, Rat.intCast_mul, Rat.intCast_mul, Rat.intCast_add, Rat.intCast_mul, Rat.intCast_mul, r1, r2] at r
  have h3 : (q1 : Rat) * q2 ≠ 0 := by grind
  grind
theorem minus_t (h : Tell j a x) (g : Tell k b y) (hk : j + k ≤ 8000) : ∃ d, fMinus [.d a, .d b] [] = .ok (.d d) [] ∧ Tell (j + k + 1) d (x - y) := by
  obtain ⟨p1, q1, rfl, s1, r1⟩ := h.ex
  obtain ⟨p2, q2, rfl, s2, r2⟩ := g.ex
  obtain ⟨p, q, e, s, r⟩ := minus_ok s1 s2 hk
  refine ⟨shD p q, e, p, q, rfl, s, ?_⟩
  have h1 := rat_ne s1.pos
  have h2 := rat_ne s2.pos
  rw [← Rat.intCast_inj, Rat.intCast_mul, Rat.intCast_mul, Rat.intCast_mul, Rat.intCast_sub, Rat.intCast_mul, Rat.intCast_mul, r1, r2] at r
  have h3 : (q1 : Rat) * q2 ≠ 0 := by grind
  grind
theorem times_t (h : Tell j a x) (g : Tell k b y) (hk : j + k ≤ 8000) : ∃ d, fTimes [.d a, .d b] [] = .ok (.d d) [] ∧ Tell (j + k) d (x * y) := by
  obtain ⟨p1, q1, rfl, s1, r1⟩ := h.ex
  obtain ⟨p2, q2, rfl, s2, r2⟩ := g.ex
  obtain ⟨p, q, e, s, r⟩ := times_ok s1 s2 hk
  refine ⟨shD p q, e, p, q, rfl, s, ?_⟩
  have h1 := rat_ne s1.pos
  have h2 := rat_ne s2.pos
  rw [← Rat.intCast_inj, Rat.intCast_mul, Rat.intCast_mul, Rat.intCast_mul, Rat.intCast_mul, r1, r2] at r
  have h3 : (q1 : Rat) * q2 ≠ 0 := by grind
  grind
theorem over_t (h : Tell j a x) (g : Tell k b y) (hk : j + k ≤ 8000) (hy : y ≠ 0) : ∃ d, fOver [.d a, .d b] [] = .ok (.d d) [] ∧ Tell (j + k) d (x * y⁻¹) := by
  obtain ⟨p1, q1, rfl, s1, r1⟩ := h.ex
  obtain ⟨p2, q2, rfl, s2, r2⟩ := g.ex
  have h1 := rat_ne s1.pos
  have h2 := rat_ne s2.pos
  have hp2 : p2 ≠ 0 := fun z => by
    rw [z] at r2
    have : (y : Rat) * q2 = 0 := by rw [← r2]; rfl
    grind
  obtain ⟨p, q, e, s, r⟩ := over_ok s1 s2 hk hp2
  refine ⟨shD p q, e, p, q, rfl, s, ?_⟩
  rw [← Rat.intCast_inj, Rat.intCast_mul, Rat.intCast_mul, Rat.intCast_mul, Rat.intCast_mul, r1, r2] at r
  have h3 : (q1 : Rat) * q2 * y ≠ 0 := by grind
  grind
theorem less_t (h : Tell j a x) (g : Tell k b y) (hk : j + k ≤ 8000) : fLess [.d a, .d b] [] = .ok (.d (.bool (decide (x < y)))) [] := by
  obtain ⟨p1, q1, rfl, s1, r1⟩ := h.ex
  obtain ⟨p2, q2, rfl, s2, r2⟩ := g.ex
  rw [less_ok s1 s2 hk]
  have h1 := rat_pos s1.pos
  have h2 := rat_pos s2.pos
  have : p1 * q2 < p2 * q1 ↔ x < y := by
    rw [← Rat.intCast_lt_intCast, Rat.intCast_mul, Rat.intCast_mul, r1, r2]
    rw [show x * (q1 : Rat) * q2 = x * ((q1 : Rat) * q2) by grind, show y * (q2 : Rat) * q1 = y * ((q1 : Rat) * q2) by grind]
    exact Rat.mul_lt_mul_right (Rat.mul_pos h1 h2)
  simp only [this]
end
theorem tell_none : Tell 1 (shD 0 1) 0 := ⟨0, 1, rfl, ⟨by decide, by decide, show (0 : Int).natAbs < 2 ^ 1 by decide, show (1 : Int).natAbs < 2 ^ 1 by decide⟩, by rw [Rat.zero_mul]; rfl⟩
theorem tell_whole : Tell 1 (shD 1 1) 1 := ⟨1, 1, rfl, ⟨by decide, by decide, show (1 : Int).natAbs < 2 ^ 1 by decide, show (1 : Int).natAbs < 2 ^ 1 by decide⟩, by rw [Rat.one_mul]⟩
/-- total of a list of told shares, of at most k bits each -/
theorem total_t {k : Nat} : ∀ (ds : List D) (xs : List Rat) (hl : ds.length = xs.length), (∀ (i : Nat) (d : D) (x : Rat), ds[i]? = some d → xs[i]? = some x → Tell k d x) → 1 + (k + 1) * ds.length + k ≤ 8000 → ∃ d, fTotal [.d (.list ds)] [] = .ok (.d d) [] ∧ Tell (1 + (k + 1) * ds.length) d xs.sum := by
  intro ds xs hl h hk
  obtain ⟨s', e, a, x2, y, rfl, ha, hy⟩ := forL_inv (tg := tgN 2) (body := cSet 1 (cCallP fPlus (lCons (cVar 1) (lCons (cVar 2) lNil)))) (ds := ds) (fun i s => ∃ a x2 y, s = ⟨[.d (.list ds), .d a, x2], []⟩ ∧ Tell (1 + (k + 1) * i) a y ∧ y = (xs.take i).sum) (s := ⟨[.d (.list ds), .d (shD 0 1), .u], []⟩) ⟨_, _, 0, rfl, tell_none, by simp⟩ fun i s d hd hi => by
    obtain ⟨a, x2, y, rfl, ha, hy⟩ := hi
    have hi := (List.getElem?_eq_some_iff.mp hd).1
    have hx : xs[i]? = some xs[i] := List.getElem?_eq_getElem (by omega)
    have hm : (k + 1) * (i + 1) ≤ (k + 1) * ds.length := Nat.mul_le_mul_left _ (by omega)
    have hs : (k + 1) * (i + 1) = (k + 1) * i + (k + 1) := Nat.mul_succ _ _
    obtain ⟨b, e, hb⟩ := plus_t ha (h i d _ hd hx) (by omega)
    refine ⟨_, ⟨[.d (.list ds), .d b, .d d], []⟩, rfl, .inl ?_, b, _, y + xs[i], rfl, hb.mono (by omega), ?_⟩
    · simp [e]
    · rw [List.take_add_one, hx, List.sum_append, hy]
      simp [Rat.add_zero]
  refine ⟨a, ?_, ?_⟩
  · unfold fTotal
    rw [runF_s]
    have z : PyData.tuple [PyData.int 0, PyData.int 1] = shD 0 1 := rfl
    simp [cTotal, z, e]
  · rw [hl, List.take_length] at hy
    exact hy ▸ ha
end Vm

namespace Vm
open PySem L2 PySem.Spec PyProof.Rows
/-! ### how long a repr is -/
structure Fits (d : D) (n m : Nat) : Prop where
  len : d.shown.length ≤ n
  sh : d.showable = true
  pl : d.plain = true
  dp : d.depth ≤ m
theorem Fits.mono {d : D} {n m n' m' : Nat} (h : Fits d n m) (a : n ≤ n') (b : m ≤ m') : Fits d n' m' := ⟨Nat.le_trans h.len a, h.sh, h.pl, Nat.le_trans h.dp b⟩
theorem Fits.okr {d : D} {n m : Nat} (h : Fits d n m) (a : n ≤ 16000000) (b : m ≤ 60) : Vm.okr d = true := by
  unfold Vm.okr
  rw [Bool.and_eq_true, Bool.and_eq_true, decide_eq_true_eq]
  exact ⟨⟨okd_iff.mpr ⟨h.pl, Nat.le_trans h.dp b⟩, h.sh⟩, Nat.le_trans h.len a⟩
theorem Fits.int {k : Nat} {i : Int} (h : Bs k i) (hk : k ≤ 1918) : Fits (.int i) (k + 2) 0 := by
  have hl := h.log
  refine ⟨?_, ?_, rfl, Nat.le_refl _⟩
  · have e := int_text_length_le (k := k + 1) (by omega) hl
    show (Str.ofString (toString i)).length ≤ k + 2
    rw [PySem.ofString_length]
    exact e
  · simp only [PyData.showable, decide_eq_true_eq]
    omega
theorem Fits.none : Fits .none 4 0 := ⟨by decide, rfl, rfl, by decide⟩
theorem Fits.bool {b : Bool} : Fits (.bool b) 5 0 := ⟨by cases b <;> decide, rfl, rfl, Nat.le_refl _⟩
theorem fits_all {n m : Nat} : ∀ {ds : List D}, (∀ d, d ∈ ds → Fits d n m) → piled (PyData.shownAll ds) ≤ ds.length * (n + 2) ∧ PyData.showableAll ds = true ∧ PyData.plainAll ds = true ∧ PyData.depthAll ds ≤ m
  | [], _ => ⟨Nat.zero_le _, rfl, rfl, Nat.zero_le _⟩
  | d :: ds, h => by
    obtain ⟨a, b, c, e⟩ := fits_all (ds := ds) fun x hx => h x (List.mem_cons_of_mem _ hx)
    have h0 := h d (List.mem_cons_self ..)
    refine ⟨?_, ?_, ?_, ?_⟩
    · show piled (d.shown :: PyData.shownAll ds) ≤ _
      rw [piled_cons, List.length_cons, Nat.add_mul]
      have := h0.len
      omega
    · simp only [PyData.showableAll, h0.sh, b, Bool.and_self]
    · simp only [PyData.plainAll, h0.pl, c, Bool.and_self]
    · show max d.depth (PyData.depthAll ds) ≤ m
      exact Nat.max_le.mpr ⟨h0.dp, e⟩
theorem listText_le (ts : List Str) : (listText ts).length ≤ piled ts + 2 := by
  unfold listText
  cases ts with
  | nil => decide
  | cons t r =>
    show (textFrom 1 ("[" ++ "" ++ t) r ++ "]").length ≤ _
    rw [Str.length_append, textFrom_length_pos _ _ _ (by decide), piled_cons, Str.length_append, Str.length_append]
    show (("[" : Str).length + ("" : Str).length + t.length + piled r) + ("]" : Str).length ≤ _
    have h1 : ("[" : Str).length = 1 := rfl
    have h2 : ("" : Str).length = 0 := rfl
    have h3 : ("]" : Str).length = 1 := rfl
    omega
theorem Fits.list {n m : Nat} {ds : List D} (h : ∀ d, d ∈ ds → Fits d n m) : Fits (.list ds) (ds.length * (n + 2) + 2) (m + 1) := by
  obtain ⟨a, b, c, e⟩ := fits_all h
  refine ⟨?_, by simp only [PyData.showable]; exact b, by rw [PyData.plain]; exact c, Nat.succ_le_succ e⟩
  simp only [PyData.shown]
  have := listText_le (PyData.shownAll ds)
  omega
theorem Fits.tuple {n m : Nat} {ds : List D} (h : ∀ d, d ∈ ds → Fits d n m) : Fits (.tuple ds) (ds.length * (n + 2) + 2) (m + 1) := by
  obtain ⟨a, b, c, e⟩ := fits_all h
  refine ⟨?_, by simp only [PyData.showable]; exact b, by rw [PyData.plain]; exact c, Nat.succ_le_succ e⟩
  simp only [PyData.shown]
  have := fmt_text (PyData.shownAll ds)
  omega
theorem fits_ints {k : Nat} {ns : List Int} (hk : k ≤ 1918) (h : ∀ i, i ∈ ns → Bs k i) : ∀ d, d ∈ ns.map PyData.int → Fits d (k + 2) 0 := fun d hd => by
  obtain ⟨i, hi, rfl⟩ := List.mem_map.mp hd
  exact .int (h i hi) hk
theorem Sh.fits {k : Nat} {p q : Int} (h : Sh k p q) (hk : k ≤ 1918) : Fits (shD p q) (2 * (k + 4) + 2) 1 :=
  Fits.tuple (ds := [.int p, .int q]) (n := k + 2) (m := 0) fun d hd => by
    simp at hd
    rcases hd with rfl | rfl
    · exact .int h.bp hk
    · exact .int h.bq hk
theorem Tell.fits {k : Nat} {d : D} {x : Rat} (h : Tell k d x) (hk : k ≤ 1918) : Fits d (2 * (k + 4) + 2) 1 := by
  obtain ⟨p, q, rfl, s, _⟩ := h.ex
  exact s.fits hk
theorem opRepr_s {d : D} (h : okr d = true) : opRepr (.d d) = some (.d (.str d.shown)) := by
  show (if okr d = true ∨ okrN d = true then _ else _) = _
  rw [if_pos (.inl h)]
theorem opRepr_n {d : D} (h : okrN d = true) : opRepr (.d d) = some (.d (.str d.shown)) := by
  show (if okr d = true ∨ okrN d = true then _ else _) = _
  rw [if_pos (.inr h)]
theorem str_eq {z : Str} : opEq (.d (.str z)) (.d (.str z)) = some (.d (.bool true)) := opEq_self rfl
theorem str_ne {z : Str} : opNe (.d (.str z)) (.d (.str z)) = some (.d (.bool false)) := opNe_self rfl
@[simp] theorem opRev_l {ds : List D} : opRev (.d (.list ds)) = some (.new (.l ds.reverse)) := Eq.trans rfl rfl
@[simp] theorem opIs_b {neg a b : Bool} : opIs neg (.d (.bool a)) (.d (.bool b)) = some (.d (.bool (if neg then !decide (a = b) else decide (a = b)))) := Eq.trans rfl rfl
@[simp] theorem opIs_n {neg : Bool} {d : D} : opIs neg (.d d) (.d .none) = some (.d (.bool (if neg then !isNone d else isNone d))) := Eq.trans rfl rfl
theorem neB {a b : Bool} : opNe (.d (.bool a)) (.d (.bool b)) = some (.d (.bool (a != b))) := by
  cases a <;> cases b <;> rfl
theorem eqB_b {a b : Bool} : opEq (.d (.bool a)) (.d (.bool b)) = some (.d (.bool (a == b))) := by
  cases a <;> cases b <;> rfl
/-! ### targets that are tuples -/
@[simp] theorem tgNil_s {s : S} : tgNil [] s = some s := Eq.trans rfl rfl
@[simp] theorem tgTup_s {n : Nat} {t : Tgs} {ds : List D} {s : S} (h : ds.length = n) : tgTup n t (.tuple ds) s = t ds s := by
  show (if ds.length = n then _ else _) = _
  rw [if_pos h]
def asgR (tg : Tg) : Rv → S → Out
  | .d d, s1 => match tg d s1 with
    | some s2 => .nx s2
    | none => .bad
  | _, _ => .bad
@[simp] theorem cAsg_s {tg : Tg} {c : CE} {s : S} : cAsg tg c s = (cv c s).out (asgR tg) := by
  unfold cAsg
  congr 1
  funext a s1
  cases a <;> rfl
theorem asg_2 {i j : Nat} {x y : D} {s : S} : asgR (tgTup 2 (tgCons (tgN i) (tgCons (tgN j) tgNil))) (.d (.tuple [x, y])) s = .nx ⟨(s.v.set i (.d x)).set j (.d y), s.m⟩ := rfl
theorem asg_3 {i j k : Nat} {x y z : D} {s : S} : asgR (tgTup 3 (tgCons (tgN i) (tgCons (tgN j) (tgCons (tgN k) tgNil)))) (.d (.tuple [x, y, z])) s = .nx ⟨((s.v.set i (.d x)).set j (.d y)).set k (.d z), s.m⟩ := rfl
/-- a cell becomes data -/
theorem cFz_l {i n : Nat} {s : S} {ds : List D} (h : s.v[i]? = some (.c n)) (h2 : s.m[n]? = some (.l ds)) : cFz i s = .ok (.d (.list ds)) ⟨s.v.set i (.d (.list ds)), s.m.set n .gone⟩ := by
  unfold cFz
  rw [h]
  dsimp only
  rw [h2]
theorem cFz_d {i : Nat} {s : S} {d : D} (h : s.v[i]? = some (.d d)) : cFz i s = .ok (.d d) s := by
  unfold cFz
  rw [h]
end Vm

namespace Vm
open PySem L2
/-! ### stands that are drawn -/
theorem flat_one {α : Type} {x : α} : ∀ n : Nat, (List.replicate n [x]).flatten = List.replicate n x
  | 0 => rfl
  | n + 1 => by rw [List.replicate_succ, List.flatten_cons, flat_one n, List.replicate_succ]; rfl
theorem rep_t {x : D} {n : Int} (h1 : 1 ≤ n) (h2 : n ≤ 1000) : opMulV (.d (.tuple [x])) (.d (.int n)) = some (.d (.tuple (List.replicate n.toNat x))) := by
  unfold opMulV
  dsimp only
  by_cases h : n = 1
  · subst h
    rw [if_pos rfl]
    rfl
  · rw [if_neg h, if_pos (by simp; omega), flat_one]
theorem rep_0 {x : D} : opMulV (.d (.tuple [x])) (.d (.int 0)) = some (.d (.tuple [])) := rfl
theorem rep_l {x : D} {n : Int} (h1 : 0 ≤ n) (h2 : n ≤ 1000) : opMulV (.d (.list [x])) (.d (.int n)) = some (.new (.l (List.replicate n.toNat x))) := by
  unfold opMulV
  dsimp only
  rw [if_pos (by simp; omega), flat_one]
theorem rep_map {n : Nat} {i : Int} : List.replicate n (PyData.int i) = (List.replicate n i).map PyData.int := by
  rw [List.map_replicate]
/-- draws in a comprehension -/
theorem draws_ok {P : Nat → Cell → Prop} {f : Fn} (df : IsDraw f P) {own : List Nat} {ci : CI} {tg : Tg} {el : CE} {v : List Sl} {p : Cell} {r : List Cell} {B n : Nat} {many : Int} {ds : List D} (hi : ci ⟨v, p :: r⟩ = .ok ds ⟨v, p :: r⟩) (hl : ds.length = n) (hn : n ≤ 10000) (hp : P B p) (hB : B < 900000) (hm : 0 < many) (hm2 : many.natAbs.log2 < 9000)
    (ht : ∀ d m, d ∈ ds → ∃ t, tg d ⟨wipeV v own, m⟩ = some t ∧ t.m = m ∧ ∀ a m', f [.c 0, .d (.int many)] m = .ok (.d (.int a)) m' → ∃ v3, cv el t = .ok (.d (.int a)) ⟨v3, m'⟩) :
    ∃ (ns : List Int) (p' : Cell), cLc own ci tg ctYes el ⟨v, p :: r⟩ = .ok (.new (.l (ns.map PyData.int))) ⟨v, p' :: r⟩ ∧ P (B + n) p' ∧ ns.length = n ∧ ∀ x, x ∈ ns → 0 ≤ x ∧ x < many := by
  obtain ⟨acc, m', e, ns, p', rfl, rfl, hl', hp', hb⟩ := lc_inv (own := own) (ci := ci) (tg := tg) (tt := ctYes) (el := el) (s := ⟨v, p :: r⟩) (ds := ds)
    (fun i acc m => ∃ (ns : List Int) (p' : Cell), acc = ns.map PyData.int ∧ m = p' :: r ∧ ns.length = i ∧ P (B + i) p' ∧ ∀ x, x ∈ ns → 0 ≤ x ∧ x < many) hi (by omega) ⟨[], p, rfl, rfl, rfl, hp, fun b h => nomatch h⟩ fun i acc m d hd hi => by
      obtain ⟨ns, p', rfl, rfl, hl', hp', hb⟩ := hi
      have hi := (List.getElem?_eq_some_iff.mp hd).1
      obtain ⟨a, p2, e, a0, a1, hp2⟩ := df _ p' r many hp' (by omega) hm hm2
      obtain ⟨t, ht1, ht2, ht3⟩ := ht d (p' :: r) (List.mem_of_getElem? hd)
      obtain ⟨v3, h3⟩ := ht3 a _ e
      refine ⟨t, ht1, true, t, rfl, (fun q => by cases q), fun _ => ⟨.int a, ⟨v3, p2 :: r⟩, h3, ns ++ [a], p2, by simp, rfl, by simp [hl'], hp2, fun x hx => ?_⟩⟩
      rcases List.mem_append.mp hx with h | h
      · exact hb x h
      · have : x = a := by simpa using h
        omega
  rw [hl] at hl' hp'
  exact ⟨ns, p', e, hp', hl', hb⟩
def cStand : CS :=
 (cSeq (cSet 3 (cCall fDrawA (lCons (cVar 0) (lCons (cC (.int 4)) lNil))))
 (cSeq (cSet 4 (cLc [5] (ciR1 (cVar 1)) (tgN 5) ctYes (cCall fDrawA (lCons (cVar 0) (lCons (cOp2 opAdd (cVar 2) (cC (.int 1))) lNil)))))
 (cSeq (cIfS (cB (cOp2 opEq (cVar 3) (cC (.int 0))))
 (cRet (cOp2 opMulV (cTup (cCons (cC (.int 0)) cNil)) (cVar 1)))
 cNx)
 (cSeq (cIfS (cB (cOp2 opEq (cVar 3) (cC (.int 1))))
 (cRet (cOp2 opMulV (cTup (cCons (cOp2 opIx (cVar 4) (cC (.int 0))) cNil)) (cVar 1)))
 cNx)
 (cSeq (cIfS (cB (cOp2 opEq (cVar 3) (cC (.int 2))))
 (cRet (cOp1 opTuple (cLc [6] (ciSeq (cVar 4)) (tgN 6) ctYes (cOp2 opMod (cVar 6) (cC (.int 3))))))
 cNx)
 (cRet (cOp1 opTuple (cVar 4))))))))
def fStand : Fn := runF 7 cStand
theorem stand_ok {B n : Nat} {most : Int} {p : Cell} {r : List Cell} (hp : IsPen B p) (hB : B < 90000) (h1 : 1 ≤ n) (h2 : n ≤ 12) (hm : 2 ≤ most) (hm2 : most < 100000) :
    ∃ (ns : List Int) (p' : Cell), fStand [.c 0, .d (.int n), .d (.int most)] (p :: r) = .ok (.d (.tuple (ns.map PyData.int))) (p' :: r) ∧ IsPen (B + 13) p' ∧ ns.length = n ∧ ∀ x, x ∈ ns → 0 ≤ x ∧ x ≤ most := by
  obtain ⟨v, p1, e1, v0, v1, hp1⟩ := drawA B p r 4 hp (by omega) (by decide) (by decide)
  obtain ⟨ns, p2, e2, hp2, hl, hb⟩ := draws_ok drawA (own := [5]) (ci := ciR1 (cVar 1)) (tg := tgN 5) (el := (cCall fDrawA (lCons (cVar 0) (lCons (cOp2 opAdd (cVar 2) (cC (.int 1))) lNil)))) (v := [.c 0, .d (.int n), .d (.int most), .d (.int v), .u, .u, .u]) (p := p1) (r := r) (n := n) (many := most + 1) (ds := rangeD 0 n) (ciR1_s (n := (n : Int)) rfl (by omega) (by omega)) (rangeD_len _ _) (by omega) hp1 (by omega) (by omega) (log2_many (by omega) (by omega)) fun d m _ => by
    refine ⟨_, rfl, rfl, fun a m' h => ⟨[.c 0, .d (.int n), .d (.int most), .d (.int v), .u, .d d, .u], ?_⟩⟩
    simp [wipeV, h]
  have q1 : cSet 3 (cCall fDrawA (lCons (cVar 0) (lCons (cC (.int 4)) lNil))) ⟨[.c 0, .d (.int n), .d (.int most), .u, .u, .u, .u], p :: r⟩ = .nx ⟨[.c 0, .d (.int n), .d (.int most), .d (.int v), .u, .u, .u], p1 :: r⟩ := by
    simp [e1]
  have q2 : cSet 4 (cLc [5] (ciR1 (cVar 1)) (tgN 5) ctYes (cCall fDrawA (lCons (cVar 0) (lCons (cOp2 opAdd (cVar 2) (cC (.int 1))) lNil)))) ⟨[.c 0, .d (.int n), .d (.int most), .d (.int v), .u, .u, .u], p1 :: r⟩ = .nx ⟨[.c 0, .d (.int n), .d (.int most), .d (.int v), .d (.list (ns.map PyData.int)), .u, .u], p2 :: r⟩ := by
    simp [e2]
  have hv : v = 0 ∨ v = 1 ∨ v = 2 ∨ v = 3 := by omega
  unfold fStand
  rw [runF_s]
  show ∃ ns p', fin (p :: r) (cStand ⟨[.c 0, .d (.int n), .d (.int most), .u, .u, .u, .u], p :: r⟩) = _ ∧ _
  unfold cStand
  rw [cSeq_s, q1, then_nx, cSeq_s, q2, then_nx]
  clear q1 q2 e1 e2
  rcases hv with rfl | rfl | rfl | rfl
  · refine ⟨List.replicate n 0, p2, ?_, hp2.mono (by omega), by simp, fun x hx => ?_⟩
    · have o := rep_t (x := .int 0) (n := (n : Int)) (by omega) (by omega)
      rw [Int.toNat_natCast, rep_map] at o
      simp [-List.map_replicate, o]
    · have := List.eq_of_mem_replicate hx
      omega
  · obtain ⟨x, xs, rfl⟩ : ∃ x xs, ns = x :: xs := by
      cases ns with
      | nil => simp at hl; omega
      | cons x xs => exact ⟨x, xs, rfl⟩
    refine ⟨List.replicate n x, p2, ?_, hp2.mono (by omega), by simp, fun y hy => ?_⟩
    · have o := rep_t (x := .int x) (n := (n : Int)) (by omega) (by omega)
      rw [Int.toNat_natCast, rep_map] at o
      have ix : opIx (.d (.list ((x :: xs).map PyData.int))) (.d (.int 0)) = some (.d (.int x)) := opIx_l (atI_nat (by decide) rfl)
      rw [List.map_cons] at ix
      simp [-List.map_replicate, o, ix]
    · have := List.eq_of_mem_replicate hy
      have := hb x (List.mem_cons_self ..)
      omega
  · have l := lc_all (own := [6]) (ci := ciSeq (cVar 4)) (tg := tgN 6) (el := cOp2 opMod (cVar 6) (cC (.int 3))) (s := ⟨[.c 0, .d (.int n), .d (.int most), .d (.int 2), .d (.list (ns.map PyData.int)), .u, .u], p2 :: r⟩) (s1 := ⟨[.c 0, .d (.int n), .d (.int most), .d (.int 2), .d (.list (ns.map PyData.int)), .u, .u], p2 :: r⟩) (ds := ns.map PyData.int)
      (g := fun d => match d with | .int i => .int (i % 3) | d => d) (by simp) (by rw [List.length_map]; omega) fun d hd => by
        obtain ⟨i, hi, rfl⟩ := List.mem_map.mp hd
        refine ⟨_, rfl, [.c 0, .d (.int n), .d (.int most), .d (.int 2), .d (.list (ns.map PyData.int)), .u, .d (.int i)], ?_⟩
        simp [wipeV, opMod_i]
    rw [List.map_map, show ((fun d : D => match d with | .int i => .int (i % 3) | d => d) ∘ PyData.int) = PyData.int ∘ (fun i => i % 3) from rfl, ← List.map_map] at l
    refine ⟨ns.map (fun i => i % 3), p2, ?_, hp2.mono (by omega), by simp [hl], fun y hy => ?_⟩
    · simp [-List.map_map, l]
    · obtain ⟨i, hi, rfl⟩ := List.mem_map.mp hy
      have := Int.emod_nonneg i (show (3 : Int) ≠ 0 by decide)
      have := Int.emod_lt_of_pos i (show (0 : Int) < 3 by decide)
      omega
  · refine ⟨ns, p2, ?_, hp2.mono (by omega), hl, fun x hx => ?_⟩
    · simp
    · have := hb x hx
      omega
/-! ### the first of the least -/
structure FirstMin (xs : List Int) (b : Nat) : Prop where
  lt : b < xs.length
  le : ∀ (j : Nat) (y : Int), xs[j]? = some y → xs[b]?.getD 0 ≤ y
  fst : ∀ (j : Nat) (y : Int), j < b → xs[j]? = some y → xs[b]?.getD 0 < y
theorem FirstMin.one {xs : List Int} {a b : Nat} (h : FirstMin xs a) (g : FirstMin xs b) : a = b := by
  have ha : xs[a]? = some (xs[a]?.getD 0) := by rw [List.getElem?_eq_getElem h.lt]; rfl
  have hb : xs[b]? = some (xs[b]?.getD 0) := by rw [List.getElem?_eq_getElem g.lt]; rfl
  rcases Nat.lt_trichotomy a b with q | q | q
  · have := g.fst a _ q ha
    have := h.le b _ hb
    omega
  · exact q
  · have := h.fst b _ q hb
    have := g.le a _ ha
    omega
theorem index_min {xs : List Int} (h : xs ≠ []) : ∃ m b, minI xs = some m ∧ opIndex (.d (.list (xs.map PyData.int))) (.d (.int m)) = some (.d (.int (b : Nat))) ∧ FirstMin xs b ∧ xs[b]? = some m := by
  obtain ⟨x, r, rfl⟩ : ∃ x r, xs = x :: r := by
    cases xs with
    | nil => exact absurd rfl h
    | cons x r => exact ⟨x, r, rfl⟩
  obtain ⟨h1, h2⟩ := foldl_min_le r x
  have hm : r.foldl min x ∈ x :: r := by
    rcases foldl_min_mem r x with e | e
    · rw [e]
      exact List.mem_cons_self ..
    · exact List.mem_cons_of_mem _ e
  have hle : ∀ y, y ∈ x :: r → r.foldl min x ≤ y := fun y hy => by
    rcases List.mem_cons.mp hy with rfl | hy
    · exact h1
    · exact h2 y hy
  generalize hmm : r.foldl min x = m at *
  generalize hxs : x :: r = xs at *
  have eqf : ∀ z : Int, PyData.eqv (.int z) (.int m) = (z == m) := fun _ => rfl
  have hf : (xs.map PyData.int).findIdx? (fun z => PyData.eqv z (.int m)) = xs.findIdx? (fun z => z == m) := by
    rw [List.findIdx?_map]
    rfl
  obtain ⟨b, hb⟩ : ∃ b, xs.findIdx? (fun z => z == m) = some b := by
    cases e : xs.findIdx? (fun z => z == m) with
    | some b => exact ⟨b, rfl⟩
    | none =>
      have := List.findIdx?_eq_none_iff.mp e m hm
      simp at this
  obtain ⟨hlt, hp, hno⟩ := List.findIdx?_eq_some_iff_getElem.mp hb
  have hp : xs[b] = m := by simpa using hp
  have hxb : xs[b]? = some m := by rw [List.getElem?_eq_getElem hlt, hp]
  refine ⟨m, b, by rw [← hxs]; exact congrArg some hmm, ?_, ⟨hlt, fun j y hy => ?_, fun j y hj hy => ?_⟩, hxb⟩
  · unfold opIndex
    dsimp only
    have fl : (xs.map PyData.int).all flatD = true := by
      rw [List.all_map]
      exact List.all_eq_true.mpr fun _ _ => rfl
    rw [if_pos ⟨fl, rfl⟩, hf, hb]
  · rw [hxb]
    exact hle y (List.mem_of_getElem? hy)
  · rw [hxb]
    have h3 := hle y (List.mem_of_getElem? hy)
    obtain ⟨hjl, hje⟩ := List.getElem?_eq_some_iff.mp hy
    have h4 := hno j hj
    rw [hje] at h4
    have h5 : y ≠ m := by simpa using h4
    show m < y
    omega
end Vm

namespace Vm
open PySem L2
/-- the first of the least of the first i -/
structure PreMin (xs : List Int) (i b : Nat) : Prop where
  lt : b < xs.length
  le : ∀ (j : Nat) (y : Int), j < i → xs[j]? = some y → xs[b]?.getD 0 ≤ y
  fst : ∀ (j : Nat) (y : Int), j < b → xs[j]? = some y → xs[b]?.getD 0 < y
theorem PreMin.start {xs : List Int} (h : xs ≠ []) : PreMin xs 0 0 := ⟨List.length_pos_iff.mpr h, (fun j y hj => nomatch hj), (fun j y hj => nomatch hj)⟩
theorem PreMin.take {xs : List Int} {i b : Nat} (h : PreMin xs i b) (hi : i < xs.length) (hlt : xs[i] < xs[b]'h.lt) : PreMin xs (i + 1) i := by
  have hx : xs[i]? = some xs[i] := List.getElem?_eq_getElem hi
  have hxb : xs[b]? = some (xs[b]'h.lt) := List.getElem?_eq_getElem h.lt
  refine ⟨hi, fun j y hj hy => ?_, fun j y hj hy => ?_⟩
  · rw [hx]
    show xs[i] ≤ y
    by_cases hji : j = i
    · subst hji
      rw [hx] at hy
      cases hy
      omega
    · have := h.le j y (by omega) hy
      rw [hxb] at this
      have : xs[b]'h.lt ≤ y := this
      omega
  · rw [hx]
    show xs[i] < y
    have := h.le j y hj hy
    rw [hxb] at this
    have : xs[b]'h.lt ≤ y := this
    omega
theorem PreMin.keep {xs : List Int} {i b : Nat} (h : PreMin xs i b) (hi : i < xs.length) (hlt : ¬ xs[i] < xs[b]'h.lt) : PreMin xs (i + 1) b := by
  have hx : xs[i]? = some xs[i] := List.getElem?_eq_getElem hi
  have hxb : xs[b]? = some (xs[b]'h.lt) := List.getElem?_eq_getElem h.lt
  refine ⟨h.lt, fun j y hj hy => ?_, h.fst⟩
  by_cases hji : j = i
  · subst hji
    rw [hx] at hy
    cases hy
    rw [hxb]
    show xs[b]'h.lt ≤ xs[j]
    omega
  · exact h.le j y (by omega) hy
theorem PreMin.first {xs : List Int} {b : Nat} (h : PreMin xs xs.length b) : FirstMin xs b := ⟨h.lt, fun j y hy => h.le j y (List.getElem?_eq_some_iff.mp hy).1 hy, h.fst⟩
def fmI (xs : List Int) : Nat := (xs.findIdx? fun z => some z == minI xs).getD 0
theorem fmI_ok {xs : List Int} (h : xs ≠ []) : FirstMin xs (fmI xs) := by
  obtain ⟨m, b, h1, h2, h3, h4⟩ := index_min h
  have : fmI xs = b := by
    unfold fmI
    rw [h1]
    have hb : xs.findIdx? (fun z => some z == some m) = some b := by
      refine List.findIdx?_eq_some_iff_getElem.mpr ⟨h3.lt, ?_, fun j hj => ?_⟩
      · have : xs[b]'h3.lt = m := (List.getElem?_eq_some_iff.mp h4).2
        simp [this]
      · have := h3.fst j _ hj (List.getElem?_eq_getElem (Nat.lt_trans hj h3.lt))
        rw [h4] at this
        have : m < xs[j]'(Nat.lt_trans hj h3.lt) := this
        simp
        omega
    rw [hb]
    rfl
  rw [this]
  exact h3
theorem foldl_take1 {α β : Type} {f : β → α → β} : ∀ {l : List α} {i : Nat} {x : α} {b : β}, l[i]? = some x → f ((l.take i).foldl f b) x = (l.take (i + 1)).foldl f b
  | [], i, x, b, h => by simp at h
  | y :: l, 0, x, b, h => by
    have : y = x := by simpa using h
    subst this
    simp
  | y :: l, i + 1, x, b, h => by
    have h2 : l[i]? = some x := by simpa using h
    exact foldl_take1 (f := f) (b := f b y) h2
/-- a loop that hands back at the first hit -/
theorem forL_find {tg : Tg} {body : CS} (I : Nat → S → Prop) (hit : Nat → Bool) (a : Nat → Rv) : ∀ (ds : List D) (k : Nat) (s : S), I k s →
    (∀ i s d, ds[i]? = some d → I (k + i) s → ∃ s1, tg d s = some s1 ∧ (hit (k + i) = true → ∃ s2, body s1 = .rt (a (k + i)) s2 ∧ s2.m = s.m) ∧ (hit (k + i) = false → ∃ s2, body s1 = .nx s2 ∧ I (k + i + 1) s2 ∧ s2.m = s.m)) →
    ∃ s', s'.m = s.m ∧ forL tg body ds s = match (List.range' k ds.length).find? hit with
      | some i => .rt (a i) s'
      | none => .nx s'
  | [], k, s, _, _ => ⟨s, rfl, rfl⟩
  | d :: ds, k, s, h0, h => by
    obtain ⟨s1, e1, h1, h2⟩ := h 0 s d rfl h0
    rw [forL_cons e1, List.length_cons, List.range'_succ]
    cases hk : hit k with
    | true =>
      obtain ⟨s2, e2, hm⟩ := h1 hk
      refine ⟨s2, hm, ?_⟩
      rw [e2, List.find?_cons_of_pos hk]
      rfl
    | false =>
      obtain ⟨s2, e2, h3, hm⟩ := h2 hk
      obtain ⟨s', hm', e3⟩ := forL_find I hit a ds (k + 1) s2 h3 fun i s d hd hi => by
        have := h (i + 1) s d (by simpa using hd) (by rw [show k + (i + 1) = k + 1 + i by omega]; exact hi)
        rw [show k + (i + 1) = k + 1 + i by omega] at this
        exact this
      refine ⟨s', hm'.trans hm, ?_⟩
      rw [e2, loop_nx, e3, List.find?_cons_of_neg (by rw [hk]; decide)]
end Vm

namespace Vm
open PySem L2 PySem.Spec PyProof.Rows
/-! ### an empty dict -/
def cNewK : CE := fun s => .ok (.new (.k [])) s
section
variable {X : Cx} {ec : EC} {W : WX}
theorem e_newK {pos : Pos} : Ex X ec W (.Dict [] [] pos) cNewK := pe_dnewK.imp fun σ H Q h => by
  obtain ⟨w, s, rfl, hr, h⟩ := h
  intro p hp
  have hh := hr.hold (o := .dK []) hp
  obtain ⟨h3, h4, _⟩ := hh.mem.fo p (.inr rfl)
  have r3 : Rel ec X.K ⟨w.G, w.r, w.F, upd w.H p (.dK [])⟩ σ s := hh.f (fun q hq => hh.mem.fo q (.inl hq)) (hr.mem.tab.back hh.mem.tab) fun q hq => hh.mem.nv.2 q (.inl hq)
  have l3 : Le w ⟨w.G, w.r, w.F, upd w.H p (.dK [])⟩ := by
    have l1 := (Le.hold (w := w) (o := .dK []) hp)
    refine ⟨l1.g, fun a u e n => ⟨u, ?_, fun _ => rfl⟩, l1.p, fun _ h => .inl h, rfl⟩
    show upd w.H p _ a = some u
    rw [upd_ne (ne_of_none e hp)]
    exact e
  have nf : ¬ w.F p := fun z => by
    obtain ⟨_, _, u, hu⟩ := hr.mem.fo p z
    rw [hp] at hu
    cases hu
  exact h (.ref p) ⟨w.G, w.r, w.F, upd w.H p (.dK [])⟩ l3 r3 ⟨p, rfl, ⟨h4, nf⟩, h3, [], upd_same, .nil⟩ fun _ _ p' e => by
    cases e
    exact hp
end
@[simp] theorem cNewK_s {s : S} : cNewK s = .ok (.new (.k [])) s := Eq.trans rfl rfl
end Vm

namespace Vm
open PySem L2 PySem.Spec PyProof.Rows
/-! ### a < b < c, run -/
def kCh3 (g : Od → Od → Option Rv) (y z : Rv) (s3 : S) : R Rv := opt (y.od s3.m) fun p => opt (z.od s3.m) fun p' => opt (g p p') fun rv' => .ok rv' s3
def kChB (g : Od → Od → Option Rv) (c : CE) (y : Rv) (o : Option Rv) (s2 : S) : R Rv := opt o fun rv => match rv with
  | .d (.bool true) => (cv c s2).bind (kCh3 g y)
  | .d (.bool false) => .ok (.d (.bool false)) s2
  | _ => .bad
def kCh2 (f g : Od → Od → Option Rv) (c : CE) (x y : Rv) (s2 : S) : R Rv := opt (x.od s2.m) fun o => opt (y.od s2.m) fun o' => kChB g c y (f o o') s2
def kCh1 (f g : Od → Od → Option Rv) (b c : CE) (x : Rv) (s1 : S) : R Rv := (cv b s1).bind (kCh2 f g c x)
@[simp] theorem kCh3_s {g : Od → Od → Option Rv} {y z : D} {s : S} : kCh3 g (.d y) (.d z) s = rvK (g (.d y) (.d z)) s := by
  unfold kCh3
  rw [od_d, opt_some, od_d, opt_some]
  cases g (.d y) (.d z) <;> rfl
@[simp] theorem kChB_s {g : Od → Od → Option Rv} {c : CE} {y : Rv} {b : Bool} {s : S} : kChB g c y (some (.d (.bool b))) s = if b = true then (cv c s).bind (kCh3 g y) else .ok (.d (.bool false)) s := by
  cases b <;> rfl
@[simp] theorem kCh2_s {f g : Od → Od → Option Rv} {c : CE} {x y : D} {s : S} : kCh2 f g c (.d x) (.d y) s = kChB g c (.d y) (f (.d x) (.d y)) s := Eq.trans rfl rfl
@[simp] theorem kCh1_s {f g : Od → Od → Option Rv} {b c : CE} {x : Rv} {s : S} : kCh1 f g b c x s = (cv b s).bind (kCh2 f g c x) := Eq.trans rfl rfl
@[simp] theorem cChain_s {f g : Od → Od → Option Rv} {a b c : CE} {s : S} : cChain f g a b c s = (cv a s).bind (kCh1 f g b c) := Eq.trans rfl rfl
/-! ### any thing, to be told -/
/-- a thing of so long a repr, so deep: b: without dicts; not b: without lists -/
structure Kd (b : Bool) (n m : Nat) (d : D) : Prop where
  len : d.shown.length ≤ n
  sh : d.showable = true
  dp : d.depth ≤ m
  pl : b = true → d.plain = true
  nl : b = false → noLs d = true
theorem Kd.mono {b : Bool} {d : D} {n m n' m' : Nat} (h : Kd b n m d) (x : n ≤ n') (y : m ≤ m') : Kd b n' m' d := ⟨Nat.le_trans h.len x, h.sh, Nat.le_trans h.dp y, h.pl, h.nl⟩
theorem Kd.ofFits {b : Bool} {n m : Nat} {d : D} (h : Fits d n m) (q : noLs d = true) : Kd b n m d := ⟨h.len, h.sh, h.dp, fun _ => h.pl, fun _ => q⟩
theorem kd_all {b : Bool} {n m : Nat} : ∀ {ds : List D}, (∀ d, d ∈ ds → Kd b n m d) → piled (PyData.shownAll ds) ≤ ds.length * (n + 2) ∧ PyData.showableAll ds = true ∧ PyData.depthAll ds ≤ m ∧ (b = true → PyData.plainAll ds = true) ∧ (b = false → noLsAll ds = true)
  | [], _ => ⟨Nat.zero_le _, rfl, Nat.zero_le _, fun _ => rfl, fun _ => rfl⟩
  | d :: ds, h => by
    obtain ⟨a, c, e, f, g⟩ := kd_all (ds := ds) fun x hx => h x (List.mem_cons_of_mem _ hx)
    have h0 := h d (List.mem_cons_self ..)
    refine ⟨?_, ?_, ?_, fun hb => ?_, fun hb => ?_⟩
    · show piled (d.shown :: PyData.shownAll ds) ≤ _
      rw [piled_cons, List.length_cons, Nat.add_mul]
      have := h0.len
      omega
    · simp only [PyData.showableAll, h0.sh, c, Bool.and_self]
    · show max d.depth (PyData.depthAll ds) ≤ m
      exact Nat.max_le.mpr ⟨h0.dp, e⟩
    · simp only [PyData.plainAll, h0.pl hb, f hb, Bool.and_self]
    · simp only [noLsAll, h0.nl hb, g hb, Bool.and_self]
theorem Kd.tuple {b : Bool} {n m : Nat} {ds : List D} (h : ∀ d, d ∈ ds → Kd b n m d) : Kd b (ds.length * (n + 2) + 2) (m + 1) (.tuple ds) := by
  obtain ⟨a, c, e, f, g⟩ := kd_all h
  refine ⟨?_, by simp only [PyData.showable]; exact c, Nat.succ_le_succ e, fun hb => by rw [PyData.plain]; exact f hb, fun hb => by rw [noLs]; exact g hb⟩
  simp only [PyData.shown]
  have := fmt_text (PyData.shownAll ds)
  omega
theorem Kd.list {n m : Nat} {ds : List D} (h : ∀ d, d ∈ ds → Kd true n m d) : Kd true (ds.length * (n + 2) + 2) (m + 1) (.list ds) := by
  obtain ⟨a, c, e, f, g⟩ := kd_all h
  refine ⟨?_, by simp only [PyData.showable]; exact c, Nat.succ_le_succ e, fun hb => by rw [PyData.plain]; exact f hb, fun hb => nomatch hb⟩
  simp only [PyData.shown]
  have := listText_le (PyData.shownAll ds)
  omega
theorem Kd.int {b : Bool} {k : Nat} {i : Int} (h : Bs k i) (hk : k ≤ 1918) : Kd b (k + 2) 0 (.int i) := .ofFits (.int h hk) rfl
theorem Kd.none {b : Bool} : Kd b 5 0 .none := .ofFits (Fits.none.mono (by decide) (by decide)) rfl
theorem Kd.bool {b c : Bool} : Kd b 5 0 (.bool c) := .ofFits Fits.bool rfl
theorem Kd.dict0 : Kd false 2 1 (.dict []) := ⟨by decide, by decide, by decide, (fun h => nomatch h), fun _ => rfl⟩
theorem Kd.rep {b : Bool} {n m : Nat} {d : D} (h : Kd b n m d) (x : n ≤ 16000000) (y : m ≤ 60) : opRepr (.d d) = some (.d (.str d.shown)) := by
  cases b with
  | true =>
    refine opRepr_s ?_
    unfold Vm.okr
    rw [Bool.and_eq_true, Bool.and_eq_true, decide_eq_true_eq]
    exact ⟨⟨okd_iff.mpr ⟨h.pl rfl, Nat.le_trans h.dp y⟩, h.sh⟩, Nat.le_trans h.len x⟩
  | false =>
    refine opRepr_n ?_
    unfold Vm.okrN
    rw [Bool.and_eq_true, Bool.and_eq_true, Bool.and_eq_true, decide_eq_true_eq, decide_eq_true_eq]
    exact ⟨⟨⟨h.nl rfl, Nat.le_trans h.dp y⟩, h.sh⟩, Nat.le_trans h.len x⟩
/-- one of a list -/
theorem pick {xs : List D} {i : Int} (h0 : 0 ≤ i) (h : i < xs.length) : ∃ x, x ∈ xs ∧ opIx (.d (.list xs)) (.d (.int i)) = some (.d x) :=
  ⟨xs[i.toNat]'(by omega), List.getElem_mem _, opIx_l (atI_nat h0 (List.getElem?_eq_getElem (by omega)))⟩
theorem pickT {xs : List D} {i : Int} (h0 : 0 ≤ i) (h : i < xs.length) : ∃ x, x ∈ xs ∧ opIx (.d (.tuple xs)) (.d (.int i)) = some (.d x) :=
  ⟨xs[i.toNat]'(by omega), List.getElem_mem _, opIx_t (atI_nat h0 (List.getElem?_eq_getElem (by omega)))⟩
/-! ### looks at any thing -/
def isInt : D → Bool
  | .int _ => true
  | _ => false
theorem whole_d {d : D} {m : List Cell} : fWhole [.d d] m = .ok (.d (.bool (isInt d))) (m.take m.length) := by
  cases d <;> rfl
theorem opAll_b {α : Type} {p : α → Bool} {xs : List α} : opAll (.d (.list (xs.map fun x => PyData.bool (p x)))) = some (.d (.bool (xs.all p))) := by
  have h : ∀ xs : List α, bools? (xs.map fun x => PyData.bool (p x)) = some (xs.map p) := by
    intro xs
    induction xs with
    | nil => rfl
    | cons x xs ih =>
      show (match bools? (xs.map fun x => PyData.bool (p x)) with | some l => some (p x :: l) | none => none) = _
      rw [ih]
      rfl
  unfold opAll
  dsimp only
  rw [h xs]
  dsimp only
  rw [List.all_map]
  rfl
/-- a loop that goes away with a at the first that p is not -/
theorem forL_chk {tg : Tg} {body : CS} (p : D → Bool) (I : S → Prop) (a : Rv) : ∀ (ds : List D) (s : S), I s →
    (∀ d s, d ∈ ds → I s → ∃ s1, tg d s = some s1 ∧ (p d = true → ∃ s2, body s1 = .nx s2 ∧ I s2) ∧ (p d = false → ∃ s2, body s1 = .rt a s2 ∧ I s2)) →
    ∃ s', I s' ∧ forL tg body ds s = if ds.all p then .nx s' else .rt a s'
  | [], s, h0, _ => ⟨s, h0, rfl⟩
  | d :: ds, s, h0, h => by
    obtain ⟨s1, e1, h1, h2⟩ := h d s (List.mem_cons_self ..) h0
    rw [forL_cons e1, List.all_cons]
    cases hp : p d with
    | false =>
      obtain ⟨s2, e2, h3⟩ := h2 hp
      refine ⟨s2, h3, ?_⟩
      rw [e2]
      rfl
    | true =>
      obtain ⟨s2, e2, h3⟩ := h1 hp
      obtain ⟨s', h4, e⟩ := forL_chk p I a ds s2 h3 fun d s hd => h d s (List.mem_cons_of_mem _ hd)
      refine ⟨s', h4, ?_⟩
      rw [e2]
      exact e
theorem isi_t {d : D} : isiB "tuple" (tyN (.d d)) = match d with | .tuple _ => true | _ => false := by cases d <;> rfl
theorem isi_s {d : D} : isiB "str" (tyN (.d d)) = match d with | .str _ => true | _ => false := by cases d <;> rfl
theorem isi_b {b : Bool} : isiB "bool" (tyN (.d (.bool b))) = true := rfl
end Vm

namespace Vm
open PySem L2
/-! ### what a statement leaves, wished for -/
structure Po where
  nx : S → Prop
  rt : Rv → S → Prop
  ex : String → S → Prop
  ct : S → Prop
  bk : S → Prop
def Po.of (P : Po) : Out → Prop
  | .nx s => P.nx s
  | .rt a s => P.rt a s
  | .ex e s => P.ex e s
  | .ct s => P.ct s
  | .bk s => P.bk s
  | .bad => False
@[irreducible] def Wp (c : CS) (P : Po) (s : S) : Prop := P.of (c s)
/-- equal; simp does not take it apart -/
def Is {α : Type} (x y : α) : Prop := x = y
theorem Is.rfl {α : Type} {x : α} : Is x x := Eq.refl x
theorem Is.eq {α : Type} {x y : α} (h : Is x y) : x = y := h
/-- a call's result -/
def Ok (r : RF) (Q : Rv → List Cell → Prop) : Prop := ∃ a m, r = .ok a m ∧ Q a m
def poF (m : List Cell) (Q : Rv → List Cell → Prop) : Po where
  nx := fun s => Q (.d .none) (s.m.take m.length)
  rt := fun a s => Ok (fin m (.rt a s)) Q
  ex := fun _ _ => False
  ct := fun _ => False
  bk := fun _ => False
section
variable {a b c : CS} {P : Po} {s s1 : S} {t : CT}
theorem w_of {o : Out} (h : c s = o) (q : P.of o) : Wp c P s := by
  unfold Wp at *
  rw [h]
  exact q
theorem st (h : Is (a s) (.nx s1)) (q : Wp b P s1) : Wp (cSeq a b) P s := by
  unfold Wp at *
  rw [cSeq_s, h.eq]
  exact q
theorem st_last (h : Is (a s) (.nx s1)) (q : P.nx s1) : Wp a P s := w_of h q
theorem w_ret {e : CE} {x : Rv} (h : Is (e s) (.ok x s1)) (q : P.rt x s1) : Wp (cRet e) P s := by
  unfold Wp at *
  rw [cRet_s, h.eq]
  exact q
theorem w_seq (h : Wp a { P with nx := fun s1 => Wp b P s1 } s) : Wp (cSeq a b) P s := by
  unfold Wp at *
  rw [cSeq_s]
  cases e : a s <;> rw [e] at h <;> exact h
theorem w_seqL (h : Wp a { P with nx := fun s1 => Wp b P s1 } s) : Wp (cSeq a b) P s := w_seq h
theorem w_mono {P' : Po} (h : Wp a P s) (h1 : ∀ s, P.nx s → P'.nx s) (h2 : ∀ x s, P.rt x s → P'.rt x s) (h3 : ∀ x s, P.ex x s → P'.ex x s) (h4 : ∀ s, P.ct s → P'.ct s) (h5 : ∀ s, P.bk s → P'.bk s) : Wp a P' s := by
  unfold Wp at *
  cases e : a s <;> rw [e] at h
  · exact h1 _ h
  · exact h2 _ _ h
  · exact h5 _ h
  · exact h4 _ h
  · exact h3 _ _ h
  · exact h
/-- behind a, N holds -/
theorem w_cut (N : S → Prop) (h : Wp a { P with nx := N } s) (q : ∀ s1, N s1 → Wp b P s1) : Wp (cSeq a b) P s :=
  w_seq (w_mono h q (fun _ _ h => h) (fun _ _ h => h) (fun _ h => h) (fun _ h => h))
theorem w_if {x : Bool} (h : Is (t s) (.ok x s1)) (h1 : x = true → Wp a P s1) (h2 : x = false → Wp b P s1) : Wp (cIfS t a b) P s := by
  unfold Wp at *
  rw [cIfS_s, h.eq, out_ok, kIfS_s]
  cases x with
  | true => exact h1 rfl
  | false => exact h2 rfl
theorem w_ifT (h : Is (t s) (.ok true s1)) (h1 : Wp a P s1) : Wp (cIfS t a b) P s := w_if h (fun _ => h1) fun z => nomatch z
theorem w_ifF (h : Is (t s) (.ok false s1)) (h1 : Wp b P s1) : Wp (cIfS t a b) P s := w_if h (fun z => nomatch z) fun _ => h1
/-- if t: return .. ahead of b -/
theorem w_sif {x : Bool} {d : CS} (h : Is (t s) (.ok x s1)) (h1 : x = true → Wp (cSeq a d) P s1) (h2 : x = false → Wp (cSeq b d) P s1) : Wp (cSeq (cIfS t a b) d) P s := by
  unfold Wp at *
  rw [cSeq_s, cIfS_s, h.eq, out_ok, kIfS_s]
  cases x with
  | true =>
    have := h1 rfl
    rw [cSeq_s] at this
    exact this
  | false =>
    have := h2 rfl
    rw [cSeq_s] at this
    exact this
theorem w_nxS {d : CS} (h : Wp d P s) : Wp (cSeq cNx d) P s := by
  unfold Wp at *
  exact h
theorem w_retS {d : CS} {e : CE} {x : Rv} (h : Is (e s) (.ok x s1)) (q : P.rt x s1) : Wp (cSeq (cRet e) d) P s := by
  refine w_seq ?_
  exact w_ret h q
theorem w_assoc {d : CS} (h : Wp (cSeq a (cSeq b d)) P s) : Wp (cSeq (cSeq a b) d) P s := by
  unfold Wp at *
  rw [cSeq_s, cSeq_s]
  rw [cSeq_s] at h
  cases e : a s <;> rw [e] at h
  · rw [then_nx, ← cSeq_s]
    exact h
  all_goals exact h
theorem w_raise {e : String} (q : P.ex e s) : Wp (cRaise e) P s := by
  unfold Wp at *
  exact q
theorem w_nx (q : P.nx s) : Wp cNx P s := by
  unfold Wp at *
  exact q
theorem w_ct (q : P.ct s) : Wp cCt P s := by
  unfold Wp at *
  exact q
theorem w_bk (q : P.bk s) : Wp cBk P s := by
  unfold Wp at *
  exact q
/-- a for loop; I i holds ahead of the turn i -/
theorem w_for {ci : CI} {tg : Tg} {ds : List D} (I : Nat → S → Prop) (h : Is (ci s) (.ok ds s1)) (h0 : I 0 s1)
    (hb : ∀ i d s, ds[i]? = some d → I i s → ∃ s2, tg d s = some s2 ∧ Wp a { nx := I (i + 1), rt := P.rt, ex := P.ex, ct := I (i + 1), bk := P.nx } s2)
    (h1 : ∀ s, I ds.length s → P.nx s) : Wp (cFor ci tg a) P s := by
  unfold Wp at *
  rw [cFor_s, h.eq, out_ok]
  have go : ∀ (l : List D) (k : Nat) (s : S), (∀ i d, l[i]? = some d → ds[k + i]? = some d) → k + l.length = ds.length → I k s → P.of (forL tg a l s) := by
    intro l
    induction l with
    | nil =>
      intro k s _ hl hi
      rw [forL_nil]
      have : k = ds.length := by simpa using hl
      exact h1 s (this ▸ hi)
    | cons d l ih =>
      intro k s hd hl hi
      obtain ⟨s2, e1, w⟩ := hb k d s (hd 0 d rfl) hi
      rw [forL_cons e1]
      have next : ∀ s3, I (k + 1) s3 → P.of (forL tg a l s3) := fun s3 h3 => ih (k + 1) s3 (fun i d q => by rw [show k + 1 + i = k + (i + 1) by omega]; exact hd (i + 1) d q) (by rw [List.length_cons] at hl; omega) h3
      cases e : a s2 <;> rw [e] at w
      · exact next _ w
      · exact w
      · exact w
      · exact next _ w
      · exact w
      · exact w
  exact go ds 0 s1 (fun i d q => by rw [Nat.zero_add]; exact q) (by omega) h0
/-- a while loop: the variant falls -/
theorem w_while {fu : S → Nat} (I : Nat → S → Prop) (k : Nat) (hk : k < fu s) (h0 : I k s)
    (hb : ∀ k s, I k s → ∃ x s2, t s = .ok x s2 ∧ (x = false → P.nx s2) ∧ (x = true → Wp a { nx := fun s3 => ∃ j, j < k ∧ I j s3, rt := P.rt, ex := P.ex, ct := fun s3 => ∃ j, j < k ∧ I j s3, bk := P.nx } s2)) : Wp (cWh fu t a) P s := by
  unfold cWh
  unfold Wp at *
  have go : ∀ (n k : Nat) (s : S), k < n → I k s → P.of (whL t a n s) := by
    intro n
    induction n with
    | zero => intro k s h _; omega
    | succ n ih =>
      intro k s hn hi
      rw [whL_s]
      obtain ⟨x, s2, e, h1, h2⟩ := hb k s hi
      rw [e, out_ok]
      cases x with
      | false => exact h1 rfl
      | true =>
        rw [if_pos rfl]
        have w := h2 rfl
        cases e : a s2 <;> rw [e] at w
        · obtain ⟨j, hj, h3⟩ := w
          exact ih j _ (by omega) h3
        · exact w
        · exact w
        · obtain ⟨j, hj, h3⟩ := w
          exact ih j _ (by omega) h3
        · exact w
        · exact w
  exact go (fu s) k s hk h0
end
/-! calls -/
theorem run_ok {n : Nat} {c : CS} {as : List Sl} {m : List Cell} {Q : Rv → List Cell → Prop} (h : Wp c (poF m Q) ⟨as ++ List.replicate (n - as.length) .u, m⟩) : Ok (runF n c as m) Q := by
  unfold Wp at h
  rw [runF_s]
  generalize c _ = o at h
  cases o with
  | nx s => exact ⟨_, _, rfl, h⟩
  | rt a s => exact h
  | bk s => exact h.elim
  | ct s => exact h.elim
  | ex e s => exact h.elim
  | bad => exact h.elim
theorem run_eq {n : Nat} {c : CS} {as : List Sl} {m m' : List Cell} {a : Rv} (h : Wp c (poF m fun x m1 => x = a ∧ m1 = m') ⟨as ++ List.replicate (n - as.length) .u, m⟩) : runF n c as m = .ok a m' := by
  obtain ⟨_, _, e, rfl, rfl⟩ := run_ok h
  exact e
def poX (m : List Cell) (x : String) : Po where
  nx := fun _ => False
  rt := fun _ _ => False
  ex := fun e s => e = x ∧ s.m.take m.length = m
  ct := fun _ => False
  bk := fun _ => False
theorem run_ex {n : Nat} {c : CS} {as : List Sl} {m : List Cell} {x : String} (h : Wp c (poX m x) ⟨as ++ List.replicate (n - as.length) .u, m⟩) : runF n c as m = .ex x m := by
  unfold Wp at h
  rw [runF_s]
  generalize c _ = o at h
  cases o with
  | nx s => exact h.elim
  | rt a s => exact h.elim
  | bk s => exact h.elim
  | ct s => exact h.elim
  | ex e s =>
    obtain ⟨rfl, h⟩ := h
    rw [fin_ex, h]
  | bad => exact h.elim
theorem ok_d {m : List Cell} {x : D} {s : S} {Q : Rv → List Cell → Prop} (h : Q (.d x) (s.m.take m.length)) : Ok (fin m (.rt (.d x) s)) Q := ⟨_, _, fin_d, h⟩
theorem ok_new {m : List Cell} {x : Cell} {s : S} {Q : Rv → List Cell → Prop} (h : Q (.new x) (s.m.take m.length)) : Ok (fin m (.rt (.new x) s)) Q := ⟨_, _, fin_new, h⟩
theorem ok_cell {m : List Cell} {k : Nat} {s : S} {c : Cell} {Q : Rv → List Cell → Prop} (h1 : m.length ≤ k) (h2 : s.m[k]? = some c) (h3 : c ≠ .gone) (h : Q (.new c) (s.m.take m.length)) : Ok (fin m (.rt (.ref k) s)) Q := ⟨_, _, fin_cell h1 h2 h3, h⟩
theorem Ok.eq {r : RF} {a : Rv} {m : List Cell} (h : Ok r fun x m1 => x = a ∧ m1 = m) : r = .ok a m := by
  obtain ⟨_, _, e, rfl, rfl⟩ := h
  exact e
theorem Ok.imp {r : RF} {Q Q' : Rv → List Cell → Prop} (h : Ok r Q) (q : ∀ a m, Q a m → Q' a m) : Ok r Q' := by
  obtain ⟨a, m, e, h⟩ := h
  exact ⟨a, m, e, q a m h⟩
/-! ### comprehensions over told lists -/
theorem lc_for {α : Type} {own : List Nat} {ci : CI} {tg : Tg} {el : CE} {s s1 : S} {xs : List α} {F : α → D} (G : α → D) (h : ci s = .ok (xs.map F) s1) (hl : xs.length ≤ 16000000)
    (hb : ∀ x, x ∈ xs → ∃ t, tg (F x) ⟨wipeV s1.v own, s1.m⟩ = some t ∧ ∃ v3, cv el t = .ok (.d (G x)) ⟨v3, s1.m⟩) : cLc own ci tg ctYes el s = .ok (.new (.l (xs.map G))) s1 := by
  have go : ∀ (l : List α) (acc : List D), (∀ x, x ∈ l → x ∈ xs) → lcL own s1.v tg ctYes el (l.map F) acc s1.m = .ok (.new (.l (acc ++ l.map G))) s1 := by
    intro l
    induction l with
    | nil =>
      intro acc _
      show R.ok (Rv.new (.l acc)) _ = _
      rw [List.map_nil, List.append_nil]
    | cons x l ih =>
      intro acc hx
      obtain ⟨t, h1, v3, h2⟩ := hb x (hx x (List.mem_cons_self ..))
      rw [List.map_cons]
      unfold lcL
      rw [h1]
      dsimp only
      show ((cv el t).nx.bind _) = _
      rw [h2]
      show lcL own s1.v tg ctYes el (l.map F) (acc ++ [G x]) s1.m = _
      rw [ih (acc ++ [G x]) fun y hy => hx y (List.mem_cons_of_mem _ hy), List.append_assoc]
      rfl
  unfold cLc
  rw [h, bind_ok, if_pos (by rw [List.length_map]; exact hl), go xs [] fun x hx => hx]
  rfl
theorem lc_some {α : Type} {own : List Nat} {ci : CI} {tg : Tg} {tt : CT} {el : CE} {s s1 : S} {xs : List α} {F : α → D} (p : α → Bool) (G : α → D) (h : ci s = .ok (xs.map F) s1) (hl : xs.length ≤ 16000000)
    (hb : ∀ x, x ∈ xs → ∃ t, tg (F x) ⟨wipeV s1.v own, s1.m⟩ = some t ∧ ∃ v2, tt t = .ok (p x) ⟨v2, s1.m⟩ ∧ (p x = true → ∃ v3, cv el ⟨v2, s1.m⟩ = .ok (.d (G x)) ⟨v3, s1.m⟩)) : cLc own ci tg tt el s = .ok (.new (.l ((xs.filter p).map G))) s1 := by
  have go : ∀ (l : List α) (acc : List D), (∀ x, x ∈ l → x ∈ xs) → lcL own s1.v tg tt el (l.map F) acc s1.m = .ok (.new (.l (acc ++ (l.filter p).map G))) s1 := by
    intro l
    induction l with
    | nil =>
      intro acc _
      show R.ok (Rv.new (.l acc)) _ = _
      rw [List.filter_nil, List.map_nil, List.append_nil]
    | cons x l ih =>
      intro acc hx
      obtain ⟨t, h1, v2, h2, h3⟩ := hb x (hx x (List.mem_cons_self ..))
      rw [List.map_cons]
      unfold lcL
      rw [h1]
      dsimp only
      rw [h2]
      show (if p x = true then _ else _) = _
      cases hp : p x with
      | false =>
        rw [if_neg (by decide), ih acc fun y hy => hx y (List.mem_cons_of_mem _ hy), List.filter_cons_of_neg (by rw [hp]; decide)]
      | true =>
        obtain ⟨v3, h4⟩ := h3 hp
        rw [if_pos rfl, h4]
        show lcL own s1.v tg tt el (l.map F) (acc ++ [G x]) s1.m = _
        rw [ih (acc ++ [G x]) fun y hy => hx y (List.mem_cons_of_mem _ hy), List.filter_cons_of_pos hp, List.append_assoc]
        rfl
  unfold cLc
  rw [h, bind_ok, if_pos (by rw [List.length_map]; exact hl), go xs [] fun x hx => hx]
  rfl
/-- a comprehension whose turns draw: from the told state on, J of what was drawn -/
theorem lc_draws {own : List Nat} {ci : CI} {tg : Tg} {el : CE} {s s1 : S} {ds : List D} (I : Nat → List Cell → Prop) (J : D → Prop) (h : ci s = .ok ds s1) (hl : ds.length ≤ 16000000) (h0 : I 0 s1.m)
    (hb : ∀ i m d, ds[i]? = some d → I i m → ∃ t, tg d ⟨wipeV s1.v own, m⟩ = some t ∧ ∃ x v3 m3, cv el t = .ok (.d x) ⟨v3, m3⟩ ∧ J x ∧ I (i + 1) m3) :
    ∃ acc m', cLc own ci tg ctYes el s = .ok (.new (.l acc)) ⟨s1.v, m'⟩ ∧ acc.length = ds.length ∧ (∀ x, x ∈ acc → J x) ∧ I ds.length m' := by
  obtain ⟨acc, m', e, ⟨h1, h2⟩, h3⟩ := lc_inv (tt := ctYes) (fun i acc m => (acc.length = i ∧ ∀ x, x ∈ acc → J x) ∧ I i m) h hl ⟨⟨rfl, fun x hx => nomatch hx⟩, h0⟩ fun i acc m d hd hi => by
    obtain ⟨⟨h1, h2⟩, h3⟩ := hi
    obtain ⟨t, e1, x, v3, m3, e2, hx, h4⟩ := hb i m d hd h3
    refine ⟨t, e1, true, t, rfl, (fun z => nomatch z), fun _ => ⟨x, _, e2, ⟨by rw [List.length_append, h1]; rfl, fun y hy => ?_⟩, h4⟩⟩
    rcases List.mem_append.mp hy with hy | hy
    · exact h2 y hy
    · rw [List.mem_singleton.mp hy]
      exact hx
  exact ⟨acc, m', e, h1, h2, h3⟩
theorem ints_of {ds : List D} (P : Int → Prop) (h : ∀ x, x ∈ ds → ∃ i, x = .int i ∧ P i) : ∃ ns : List Int, ds = ns.map PyData.int ∧ ∀ i, i ∈ ns → P i := by
  induction ds with
  | nil => exact ⟨[], rfl, fun i h => nomatch h⟩
  | cons d ds ih =>
    obtain ⟨i, rfl, hi⟩ := h d (List.mem_cons_self ..)
    obtain ⟨ns, rfl, hn⟩ := ih fun x hx => h x (List.mem_cons_of_mem _ hx)
    refine ⟨i :: ns, rfl, fun j hj => ?_⟩
    rcases List.mem_cons.mp hj with rfl | hj
    · exact hi
    · exact hn j hj
/-! ### operations with bounds that omega sees -/
theorem opMul_b {i j : Int} (h1 : -1000000000000000000000000000000000000000 ≤ i) (h2 : i ≤ 1000000000000000000000000000000000000000) (h3 : -1000000000000000000000000000000000000000 ≤ j) (h4 : j ≤ 1000000000000000000000000000000000000000) : opMulV (.d (.int i)) (.d (.int j)) = some (.d (.int (i * j))) :=
  opMul_i (mulOk_small (by omega) (by omega))
theorem opDiv_b {i j : Int} (h : 0 < j) (h2 : j ≤ 1000000000000000000000000000000000000000) : opDiv (.d (.int i)) (.d (.int j)) = some (.d (.int (i / j))) := opDiv_i h (log2_many h (by omega))
theorem getD_map {α β : Type} {xs : List α} {F : α → β} {i : Nat} {a : α} {b : β} (h : i < xs.length) : (xs.map F).getD i b = F (xs.getD i a) := by
  rw [List.getD_eq_getElem?_getD, List.getD_eq_getElem?_getD, List.getElem?_map, List.getElem?_eq_getElem h]
  rfl
theorem opIx_lb {ds : List D} {i : Int} (h : 0 ≤ i) (h2 : i < ds.length) : opIx (.d (.list ds)) (.d (.int i)) = some (.d (ds.getD i.toNat .none)) := by
  refine opIx_l (atI_nat h ?_)
  rw [List.getD_eq_getElem?_getD, List.getElem?_eq_getElem (by omega)]
  rfl
theorem opIx_tb {ds : List D} {i : Int} (h : 0 ≤ i) (h2 : i < ds.length) : opIx (.d (.tuple ds)) (.d (.int i)) = some (.d (ds.getD i.toNat .none)) := by
  refine opIx_t (atI_nat h ?_)
  rw [List.getD_eq_getElem?_getD, List.getElem?_eq_getElem (by omega)]
  rfl
theorem opIx_li {ns : List Int} {i : Int} (h : 0 ≤ i) (h2 : i < ns.length) : opIx (.d (.list (ns.map PyData.int))) (.d (.int i)) = some (.d (.int (ns.getD i.toNat 0))) := by
  rw [opIx_lb h (by rw [List.length_map]; exact h2), getD_map (a := 0) (by omega)]
theorem opIx_ti {ns : List Int} {i : Int} (h : 0 ≤ i) (h2 : i < ns.length) : opIx (.d (.tuple (ns.map PyData.int))) (.d (.int i)) = some (.d (.int (ns.getD i.toNat 0))) := by
  rw [opIx_tb h (by rw [List.length_map]; exact h2), getD_map (a := 0) (by omega)]
theorem opAdd_t {xs ys : List D} (h : xs.length + ys.length ≤ 16000000) : opAdd (.d (.tuple xs)) (.d (.tuple ys)) = some (.d (.tuple (xs ++ ys))) := by
  show (if xs.length + ys.length ≤ 16000000 then _ else _) = _
  rw [if_pos h]
/-! draws -/
theorem dA {B : Nat} {p : Cell} (r : List Cell) (many : Int) (hp : IsPen B p) (hB : B < 1000000 := by omega) (hm : 0 < many := by omega) (h2 : many < 18446744073709551616 := by omega) : ∃ v p', fDrawA [.c 0, .d (.int many)] (p :: r) = .ok (.d (.int v)) (p' :: r) ∧ 0 ≤ v ∧ v < many ∧ IsPen (B + 1) p' := by
  obtain ⟨v, p', h⟩ := drawA B p r many hp hB hm (log2_many hm (by omega))
  exact ⟨v, p', h⟩
theorem dB {B : Nat} {p : Cell} (r : List Cell) (many : Int) (hp : IsPen B p) (hB : B < 1000000 := by omega) (hm : 0 < many := by omega) (h2 : many < 18446744073709551616 := by omega) : ∃ v p', fDrawB [.c 0, .d (.int many)] (p :: r) = .ok (.d (.int v)) (p' :: r) ∧ 0 ≤ v ∧ v < many ∧ IsPen (B + 1) p' := by
  obtain ⟨v, p', h⟩ := drawB B p r many hp hB hm (log2_many hm (by omega))
  exact ⟨v, p', h⟩
end Vm

namespace Vm
open PySem L2 PySem.Spec PyProof.Rows
/-! ### str(x) -/
def strD : D → Option Str
  | .int i => if okr (.int i) = true then some (PyData.int i).shown else none
  | .str z => some z
  | .list ds => if okr (.list ds) = true then some (PyData.list ds).shown else none
  | .tuple ds => if okr (.tuple ds) = true then some (PyData.tuple ds).shown else none
  | _ => none
def opStr : Od → Option Rv
  | .d d => (strD d).map fun z => .d (.str z)
  | _ => none
def rStrV (K : Fg) : V → Hp → VK → Prop := fun x H Q => ∃ d z, Rp K H x d ∧ strD d = some z ∧ Q (.str z) H
theorem call_strV {X : Cx} {k : Nat} (hr : Rg k X.A) : CallR X (.type "str") (fun xs H Q => ∃ x, xs = [x] ∧ rStrV X.K x H Q) := by
  intro pins s σ H xs us Q I r h
  obtain ⟨x, rfl, d, z, hd, hz, q⟩ := h
  obtain ⟨u, rfl, rx⟩ := vals1 r
  have hu := hr.units
  have seqs : ∀ a d', u = .ref a → okr d' = true → Rp X.K H x d' → z = d'.shown → wpAny (model X.prog X.w) X.A (call (.type "str") [u]) (EP X pins σ Q) X.xe s := fun a d' e ok hd' ez => by
    obtain ⟨pd, dp, sh, sz⟩ := okr_iff ok
    obtain ⟨as, r1⟩ := Rp.reads I d' x u pd hd' rx
    subst e
    subst ez
    exact str_of_reads r1 sh (PyData.noDict_hsm (plain_noDict.1 d' pd)) hr.g (by omega) (fun _ _ e => e) (fun h' t tk hk => ⟨.str d'.shown, H, I.kept hk, ⟨t, rfl⟩, q⟩) sz
  unfold strD at hz
  split at hz
  · split at hz
    · rename_i i ok
      cases hz
      cases hd
      obtain ⟨t, rfl⟩ := rx
      obtain ⟨pd, dp, sh, sz⟩ := okr_iff ok
      exact PySem.P.str_of_int (by simpa [PyData.showable] using sh) ⟨.str _, H, I.tok _, ⟨_, rfl⟩, q⟩
    · cases hz
  · cases hz
    cases hd
    obtain ⟨t, rfl⟩ := rx
    exact PySem.P.str_of_str ⟨.str _, H, I, ⟨_, rfl⟩, q⟩
  · split at hz
    · rename_i ds ok
      cases hz
      cases hd with
      | lst hs ra =>
        cases rx
        exact seqs _ (.list ds) rfl ok (.lst hs ra) rfl
    · cases hz
  · split at hz
    · rename_i ds ok
      cases hz
      cases hd with
      | tup hs ra =>
        cases rx
        exact seqs _ (.tuple ds) rfl ok (.tup hs ra) rfl
    · cases hz
  · cases hz
theorem s_str {K : Fg} : Op1S K (fun v H Q => ∃ x, [v] = [x] ∧ rStrV K x H Q) opStr := by
  intro w x o rv Q hx h e q
  unfold opStr at e
  split at e
  · rename_i d
    cases hz : strD d with
    | none => rw [hz] at e; cases e
    | some z =>
      rw [hz] at e
      cases e
      exact ⟨x, rfl, d, z, h.rp hx, hz, post_str q⟩
  · cases e
/-! ### bool(x) -/
def opBool : Od → Option Rv
  | .d (.int i) => some (.d (.bool (i != 0)))
  | .d (.bool b) => some (.d (.bool b))
  | _ => none
theorem s_boolV {K : Fg} : Op1S K (fun v H Q => (∃ i, [v] = [.int i] ∧ Q (.bl (i != 0)) H) ∨ ∃ k, [v] = [.bl k] ∧ Q (.bl k) H) opBool := by
  intro w x o rv Q hx h e q
  unfold opBool at e
  split at e
  · cases e
    exact .inl ⟨_, by rw [h.int], post_bool q⟩
  · cases e
    exact .inr ⟨_, by rw [h.bool], post_bool q⟩
  · cases e
/-! ### shifts, masks -/
def opShl : Od → Od → Option Rv
  | .d (.int i), .d (.int j) => if 0 ≤ j ∧ j ≤ 1000000 ∧ i.natAbs < 2 ^ 64 then some (.d (.int (i * 2 ^ j.toNat))) else none
  | _, _ => none
def opShr : Od → Od → Option Rv
  | .d (.int i), .d (.int j) => if 0 ≤ j then some (.d (.int (i / 2 ^ j.toNat))) else none
  | _, _ => none
def opAndB : Od → Od → Option Rv
  | .d (.int i), .d (.int j) => some (.d (.int (Builtin.bitAnd i j)))
  | _, _ => none
theorem s_shl {K : Fg} : Op2S K (rI CPow fun i j => .int (i * 2 ^ j.toNat)) opShl := by
  intro w x y o o' rv Q hx h h' e q
  unfold opShl at e
  split at e
  · split at e
    · rename_i hm
      cases e
      exact ⟨_, _, h.int, h'.int, hm, post_int q⟩
    · cases e
  · cases e
theorem s_shr {K : Fg} : Op2S K (rI (fun _ j => 0 ≤ j) fun i j => .int (i / 2 ^ j.toNat)) opShr := by
  intro w x y o o' rv Q hx h h' e q
  unfold opShr at e
  split at e
  · split at e
    · rename_i hm
      cases e
      exact ⟨_, _, h.int, h'.int, hm, post_int q⟩
    · cases e
  · cases e
theorem s_andB {K : Fg} : Op2S K (rI0 fun i j => .int (Builtin.bitAnd i j)) opAndB := by
  intro w x y o o' rv Q hx h h' e q
  unfold opAndB at e
  split at e
  · cases e
    exact ⟨_, _, h.int, h'.int, post_int q⟩
  · cases e
/-! ### dict(pairs) -/
def keyD? : D → Option L2.Key
  | .int i => some (.inl i)
  | .str z => some (.inr z)
  | _ => none
theorem keyD_ok {d : D} {k : L2.Key} (h : keyD? d = some k) : d = kD k := by
  cases d <;> cases h <;> rfl
def pairsD? : List D → Option (List (L2.Key × D))
  | [] => some []
  | .tuple [a, b] :: ds => match keyD? a, pairsD? ds with
    | some k, some r => some ((k, b) :: r)
    | _, _ => none
  | _ => none
def mergeP (acc : List (L2.Key × D)) (ps : List (L2.Key × D)) : List (L2.Key × D) := ps.foldl (fun a p => putD a p.1 p.2) acc
theorem mergeP_eq : ∀ (ps acc : List (L2.Key × D)), mergeP acc ps = mergeD acc (ps.map (·.1)) (ps.map (·.2))
  | [], acc => rfl
  | p :: ps, acc => mergeP_eq ps (putD acc p.1 p.2)
theorem mergeK_zip : ∀ (more acc : List (L2.Key × V)), mergeK acc more = mergeK acc ((more.map (·.1)).zip (more.map (·.2)))
  | more, acc => by
    congr 1
    induction more with
    | nil => rfl
    | cons p r ih => rw [List.map_cons, List.map_cons, List.zip_cons_cons, ← ih]
def opDictP : Od → Option Rv
  | .d (.list ds) => (pairsD? ds).map fun ps => .new (.k (mergeP [] ps))
  | _ => none
theorem rp_kv {K : Fg} {H : Hp} {x : V} {k : L2.Key} (h : Rp K H x (kD k)) : x = kV k := by
  cases k with
  | inl i => cases h; rfl
  | inr z => cases h; rfl
theorem pairs_rp {K : Fg} {G H : Hp} (hx : Same G H) : ∀ (ds : List D) (vs : List V) (ps : List (L2.Key × D)), RpAll K G vs ds → pairsD? ds = some ps → ∃ (as : List Addr) (kvs : List (L2.Key × V)), vs = as.map V.ref ∧ Paired (fun p kv => SqT K H p [kV kv.1, kv.2]) as kvs ∧ kvs.map (·.1) = ps.map (·.1) ∧ RpAll K G (kvs.map (·.2)) (ps.map (·.2))
  | [], vs, ps, ra, h => by
    cases h
    cases ra
    exact ⟨[], [], rfl, .nil, rfl, .nil⟩
  | d :: ds, vs, ps, ra, h => by
    unfold pairsD? at h
    split at h
    · rename_i e
      cases e
    · rename_i a b ds' e
      cases e
      split at h
      · rename_i k r hk hr
        cases h
        cases ra with
        | cons r1 ra =>
          obtain ⟨as, kvs, rfl, hp, h1, h2⟩ := pairs_rp hx ds _ r ra hr
          cases r1 with
          | tup hs r2 =>
            cases r2 with
            | cons q1 r3 =>
              cases r3 with
              | cons q2 r4 =>
                cases r4
                rw [keyD_ok hk] at q1
                rw [rp_kv q1] at hs
                exact ⟨_ :: as, (k, _) :: kvs, rfl, .cons (SqT.of (hx _ _ hs)) hp, by rw [List.map_cons, List.map_cons, h1], .cons q2 h2⟩
      · cases h
    · cases h
section
variable {X : Cx} {ec : EC} {W : WX}
theorem e_dictP {a : Expr} {ca : CE} {p pos : Pos} (hm : X.mg "dict" = none) (ha : Ex X ec W a ca) (hc : X.calm = true := by rfl) (hg : Gl X "dict" := by rfl) (h1 : starEach [a] X.env = (false, eval a X.env) :: starEach [] X.env := by rfl) (h2 : (backTo pos (starEach [] X.env)).any (·.1) = false := by rfl) :
    Ex X ec W (.Call (.Name "dict" p) [a] [] pos) (cOp1 opDictP ca) := by
  refine e_callT1 (call_dictP hc) ?_ hm (by decide +kernel) ha hg (by decide) (by decide) h1 h2
  intro w x o rv Q hx h e q
  unfold opDictP at e
  split at e
  · rename_i ds
    cases hp : pairsD? ds with
    | none => rw [hp] at e; cases e
    | some ps =>
      rw [hp] at e
      cases e
      obtain ⟨p, vs, rfl, hs, ra⟩ := h.list hx
      obtain ⟨as, kvs, rfl, h1, h2, h3⟩ := pairs_rp hx ds vs ps ra hp
      refine ⟨p, as, kvs, rfl, hs, h1, fun p' hp' => ?_⟩
      refine q (.ref p') ⟨w.G, w.r, w.F, upd w.H p' (.dK (mergeK [] kvs))⟩ (gr_new hp') ⟨p', rfl, hp', hx.free hp', mergeK [] kvs, upd_same, ?_⟩
      rw [mergeK_zip, mergeP_eq, h2]
      exact kv_merge _ h3 .nil
  · cases e
end
/-! ### enumerate -/
theorem meets_enum_tup (tp : Addr) (items : Array Value) (n : Nat) (dct : Option Addr) (sl : Array (Option Value)) :
    Meets (Builtin.«enumerate.__new__» ⟨[.type "enumerate", .ref tp], []⟩) (fun _ R s => s.heap.get? tp = some { cls := .type "tuple", dict := dct, data := .seq items n, slots := sl } ∧
      R (.ok (.ret (.ref (s.heap.push { cls := .type "tuple_iterator", data := .fields #[.ref tp, .int 0 0] }).objs.size)))
        { s with heap := (s.heap.push { cls := .type "tuple_iterator", data := .fields #[.ref tp, .int 0 0] }).push { cls := .type "enumerate", data := .fields #[.none, .bool false, .ref s.heap.objs.size, rawInt 0, .none, .none] } }) :=
  .of_wp fun prog w A R s h => by
    obtain ⟨hp, gg, dd, tok, oo⟩ := s
    obtain ⟨ht, h⟩ := h
    have sb := sub_enumerate
    have tT : Heap.IsTuple (Shared.heap ⟨hp, gg, dd, tok, oo⟩) tp items := ⟨_, ht, rfl, n, rfl⟩
    wp_walk using AutoSeq1.wpAny_loadPart' ht
    refine wpAny_stack_any fun st => wpAny_pure ?_
    split
    · rename_i cc _ _ _ _ _
      cases (cc == Value.type "enumerate")
      · wp_walk using AutoSeq1.wpAny_loadPart' ht, wpAny_pyIter_tuple tT
        exact ⟨_, rfl, h⟩
      · wp_walk using AutoSeq1.wpAny_loadPart' ht, wpAny_pyIter_tuple tT
        exact ⟨_, rfl, h⟩
    · wp_walk using AutoSeq1.wpAny_loadPart' ht, wpAny_pyIter_tuple tT
      exact ⟨_, rfl, h⟩
section
variable {prog : Program} {w : World} {A : Around} {E : Value → Shared → Prop} {s : Shared}
theorem call_enum_tup {tp : Addr} {items : Array Value} {Q : Value → Shared → Prop} (hT : s.heap.IsTuple tp items)
    (h : ∀ h', IsEnum h' (s.heap.objs.size + 1) s.heap.objs.size 0 .none → h'.IsTupleIter s.heap.objs.size tp 0 → h'.objs.size = s.heap.objs.size + 2 →
      (∀ b o, s.heap.get? b = some o → h'.get? b = some o) → Q (.ref (s.heap.objs.size + 1)) { s with heap := h' }) :
    wpAny (model prog w) A (call (.type "enumerate") [.ref tp]) Q E s := by
  obtain ⟨⟨cc, dc, da, sl⟩, ht, hc, n, hd⟩ := hT
  replace hc : cc = .type "tuple" := hc
  replace hd : da = .seq items n := hd
  subst hc hd
  refine callType_new F.called_enumerate (by decide) (F.typeCall_enumerate_1 _) (F.newCall_enumerate_1 _) (fun o => F.args_object_init_2 o _) F.entry_enumerate_new (meets_enum_tup tp items n dc sl) ⟨ht, ?_⟩
  have z1 : (s.heap.push { cls := .type "tuple_iterator", data := .fields #[.ref tp, .int 0 0] }).objs.size = s.heap.objs.size + 1 := Heap.size_push ..
  show _ ∧ _
  rw [z1]
  have ie : IsEnum ((s.heap.push { cls := .type "tuple_iterator", data := .fields #[.ref tp, .int 0 0] }).push
      { cls := .type "enumerate", data := .fields #[.none, .bool false, .ref s.heap.objs.size, rawInt 0, .none, .none] }) (s.heap.objs.size + 1) s.heap.objs.size 0 .none := by
    have q := Heap.get?_push_size (s.heap.push { cls := .type "tuple_iterator", data := .fields #[.ref tp, .int 0 0] })
      (o := { cls := .type "enumerate", data := .fields #[.none, .bool false, .ref s.heap.objs.size, rawInt 0, .none, .none] }) rfl
    rw [z1] at q
    exact q
  exact ⟨⟨_, ie, rfl⟩, h _ ie ⟨_, Heap.get?_push_of_some _ (Heap.get?_push_size _ rfl), rfl, rfl⟩ (by rw [Heap.size_push, z1]) fun b o x => Heap.get?_push_of_some _ (Heap.get?_push_of_some _ x)⟩
end
section
variable {prog : Program} {w : World} {A : Around} {E : Value → Shared → Prop} {s : Shared}
theorem wpAny_pyNext_enum_endT {e it tp : Addr} {items : Array Value} {i : Nat} {c : Int} {old : Value} {Q : Option Value → Shared → Prop} (hh : A.handled = none) (ie : IsEnum s.heap e it c old) (hit : s.heap.IsTupleIter it tp i)
    (ht : s.heap.IsTuple tp items) (hx : items[i]? = none) (hQ : ∀ h', Heap.ExtBut it s.heap h' → Q none { s with heap := h' }) : wpAny (model prog w) A (pyNext (.ref e)) Q E s := by
  have ty : s.TypeIs (.ref e) "enumerate" := ⟨_, ie, rfl⟩
  unfold pyNext
  refine wpAny_bind (wpAny_attempt (wpAny_callSpecial?_slot (name := Str.ofString "__next__") ty F.slot_enumerate_next (wpAny_call_entry F.slot_enumerate_next ty F.entry_enumerate_next ?_ (F.args_enumerate_next_1 _))))
  show wpAny _ _ (field (.ref e) 2 >>= _) _ _ _
  refine wpAny_bind (wpAny_field ie rfl (x := .ref it) rfl (wpAny_bind (wpAny_nextOf_tuple_end hh hit ht hx fun h' x eb st => ?_)))
  obtain ⟨o, ho, hc⟩ := st
  exact wpAny_bind (wpAny_isInstance (T := "StopIteration") (b := true) ⟨o, ho, hc⟩ isSubtype_stop (wpAny_pure (hQ _ eb)))
end
/-- the tuple at a as it stands, each item in a new pair -/
def IteT (K : Fg) (a : Addr) : It :=
  ⟨fun i H => ∃ (xs : List V) (x : V), SqT K H a xs ∧ xs[i]? = some x, fun i H v H' => ∃ T x, v = .ref T ∧ H T = none ∧ H' = upd H T (.tup [.int (i : Nat), x]) ∧ ∀ xs, SqT K H a xs → xs[i]? = some x, fun i H => ∃ xs : List V, SqT K H a xs ∧ xs.length ≤ i⟩
theorem turn_enumT {P : Program} {w : World} {K : Fg} {elts : List Expr} {kk : Nat} {tpos : Pos} (a e it : Addr) :
    Turn P w K (.Tuple elts kk tpos) (IteT K a) [e, it] e (fun i h => (∃ old, IsEnum h e it ((i : Nat) : Int) old) ∧ h.IsTupleIter it a i ∧ e ≠ it ∧ e ≠ a ∧ a ≠ it) where
  mem := by simp
  obj := fun i h st b hb => by
    obtain ⟨⟨old, he⟩, ⟨o, ho, hc, hd⟩, _⟩ := st
    have e1 : b = e ∨ b = it := by simpa using hb
    rcases e1 with z | z
    · rw [z]
      exact ⟨_, he, fun v q => nomatch q⟩
    · rw [z]
      exact ⟨o, ho, fun v q => by rw [hd] at q; cases q⟩
  keep := fun i h h' st k => by
    obtain ⟨⟨old, he⟩, hi, hne⟩ := st
    exact ⟨⟨old, k e (by simp) _ he⟩, hi.at fun o q => k it (by simp) o q, hne⟩
  item := by
    intro X hP hw hK hc i pins s σ H E I hf st hg
    subst hP hw hK
    obtain ⟨⟨old, he⟩, hit, hne, hea, hai⟩ := st
    obtain ⟨xs, x, hq, hx⟩ := hg
    obtain ⟨its, rv, p, hz⟩ := I.tuple hq
    obtain ⟨u, hu, ru⟩ := rv.get hx
    have hel : e < s.heap.objs.size := Heap.lt_size he
    have hil : it < s.heap.objs.size := by
      obtain ⟨_, q, _⟩ := hit
      exact Heap.lt_size q
    have hsz : i < its.toArray.size := by
      rw [List.size_toArray]
      exact (List.getElem?_eq_some_iff.mp hu).1
    refine wpAny_pyNext_enum_itemD (Draws.tuple (by exact I.ok.hd hc) it a hai its.toArray) he ⟨hit, p⟩ hsz hne (by simp [hea, hne]) fun y h' tk hy ho hst hT hz' hk => ?_
    have ey : y = u := by
      have hy : its.toArray[i]? = some y := hy
      rw [List.getElem?_toArray, hu] at hy
      exact (Option.some.inj hy).symm
    subst ey
    refine ⟨_, rfl, wpAny_letOwnedTupleGo_enum (s := { s with heap := h', toks := tk + 1 }) ho fun h'' he' sb => ?_⟩
    have hT2 : h''.get? s.heap.objs.size = some { cls := .type "tuple", data := .seq #[.int i tk, y] } := (sb.2 _ (Nat.ne_of_gt hel)).trans hT
    have new : ObjOk X.prog X.w (upd H s.heap.objs.size (.tup [.int (i : Nat), x])) h'' s.heap.objs.size (.tup [.int (i : Nat), x]) :=
      ⟨by show 2 ≤ sizeLine; decide, [.int i tk, y], .cons ⟨_, rfl⟩ (.cons ru .nil), ⟨_, hT2, rfl, _, rfl⟩⟩
    have I1 : Inv X pins σ (upd H s.heap.objs.size (.tup [.int (i : Nat), x])) { s with heap := h'', toks := tk + 1 } :=
      I.turnedNew (ch := [e, it]) (fun b ob hb q => (sb.2 b (fun z => hb (by simp [z]))).trans (hk b ob (fun z => hb (by simp [z])) (fun z => hb (by simp [z])) q)) hf (Nat.le_refl _) new
    refine ⟨.ref s.heap.objs.size, _, I1, rfl, ⟨_, x, rfl, I.hok.fresh (Nat.le_refl _), rfl, fun ys hy => by rw [I.tuple_inj hy hq]; exact hx⟩, ⟨⟨y, ?_⟩, hst.1.at fun o q => (sb.2 it (Ne.symm hne)).trans q, hne, hea, hai⟩, fun b hb => ?_⟩
    · have e1 : ((i + 1 : Nat) : Int) = (i : Int) + 1 := by omega
      rw [e1]
      exact he'
    · have hb' : b < s.heap.objs.size := by
        have e1 : b = e ∨ b = it := by simpa using hb
        rcases e1 with z | z
        · rw [z]
          exact hel
        · rw [z]
          exact hil
      rw [upd_ne (Nat.ne_of_lt hb')]
      exact (hf b hb).1
  done := by
    intro X hP hw hK hc i pins s σ H E I hf st hg
    subst hP hw hK
    obtain ⟨⟨old, he⟩, hit, hne, hea, hai⟩ := st
    obtain ⟨xs, hq, hx⟩ := hg
    obtain ⟨its, rv, p, hz⟩ := I.tuple hq
    obtain ⟨f0, f1, f2, f3, f4, f5⟩ := hf it (by simp)
    have hl := rv.length
    exact wpAny_pyNext_enum_endT (I.ok.hd hc) he hit p (by simp; omega) fun h' eb => ⟨rfl, I.turned (t' := s.toks) (fun b o hb q => eb b o hb q) f0 f1 f3 f4 f5⟩
  self := fun A i s Q E st h => let ⟨⟨_, he⟩, _⟩ := st; wpAny_pyIter_enum he h
end Vm

namespace Vm
open PySem L2 PySem.Spec PyProof.Rows
def iEnumA (K : Fg) (ta : TA) : TI := fun σ H R => ta σ H fun vs H1 => ∃ a xs, vs = [.ref a] ∧ ((SqL K H1 a xs ∧ R (Ite K a) H1) ∨ (SqT K H1 a xs ∧ R (IteT K a) H1))
theorem pi_enumA {X : Cx} {e : Expr} {ta : TA} {p pos tpos : Pos} {elts : List Expr} {kk : Nat} (hg : Gl X "enumerate") (hm : X.mg "enumerate" = none) (ha : PA X [e] ta) (hs : starEach [e] X.env = [(false, eval e X.env)] := by rfl) :
    PI X (.Tuple elts kk tpos) (.Call (.Name "enumerate" p) [e] [] pos) (iEnumA X.K ta) := by
  refine ⟨fun pins s σ H R I h => ?_⟩
  refine Call_ (ld_blt I hg hm boot_enumerate (PyProof.Rows.callWith_type1 (thn (ha.run pos pins s σ H _ I h) fun us s1 ⟨vs, H1, I1, r1, q1⟩ => ?_) hs rfl))
  obtain ⟨a, xs, ex, q1⟩ := q1
  subst ex
  cases r1 with
  | cons r rr =>
    cases rr
    cases r
    have fresh : ∀ b, b ∈ [s1.heap.objs.size + 1, s1.heap.objs.size] → FpOk X pins H1 b := fun b hb => by
      have e1 : b = s1.heap.objs.size + 1 ∨ b = s1.heap.objs.size := by simpa using hb
      have hle : s1.heap.objs.size ≤ b := by
        rcases e1 with z | z
        · rw [z]
          exact Nat.le_add_right _ _
        · rw [z]
          exact Nat.le_refl _
      exact I1.fpOk hle (I1.hok.fresh hle)
    rcases q1 with ⟨hq, q⟩ | ⟨hq, q⟩
    · obtain ⟨its, rv, pl, hz⟩ := I1.list hq
      refine call_enumerate_list pl.isList fun h' he hit hsz hk => wpAny_pyIter_enum he ?_
      have I2 : Inv X pins σ H1 { s1 with heap := h' } := I1.kept (t' := s1.toks) hk
      exact ⟨s1.heap.objs.size + 1, [s1.heap.objs.size + 1, s1.heap.objs.size], _, _, H1, rfl, I2, turn_enum a (s1.heap.objs.size + 1) s1.heap.objs.size, ⟨⟨.none, he⟩, hit, Nat.succ_ne_self _⟩, fresh, q⟩
    · obtain ⟨its, rv, pt, hz⟩ := I1.tuple hq
      have hlt : a < s1.heap.objs.size := by
        obtain ⟨o, ho, _⟩ := id pt
        exact Heap.lt_size ho
      refine call_enum_tup (show s1.heap.IsTuple a its.toArray from pt) fun h' he hit hsz hk => wpAny_pyIter_enum he ?_
      have I2 : Inv X pins σ H1 { s1 with heap := h' } := I1.kept (t' := s1.toks) hk
      exact ⟨s1.heap.objs.size + 1, [s1.heap.objs.size + 1, s1.heap.objs.size], _, _, H1, rfl, I2, turn_enumT a (s1.heap.objs.size + 1) s1.heap.objs.size, ⟨⟨.none, he⟩, hit, Nat.succ_ne_self _, Nat.ne_of_gt (Nat.lt_succ_of_lt hlt), Nat.ne_of_lt hlt⟩, fresh, q⟩
/-- a new pair joins the ground -/
theorem gr_pair {K : Fg} {w : Wd} {T : Addr} {x y : V} {d e : D} (hx : Same w.G w.H) (hT : w.H T = none) (h1 : Rp K w.G x d) (h2 : Rp K w.G y e) : ∃ w2, Gr w w2 ∧ w2.H = upd w.H T (.tup [x, y]) ∧ Rp K w2.G (.ref T) (.tuple [d, e]) := by
  have hg : w.G T = none := hx.free hT
  refine ⟨⟨upd w.G T (.tup [x, y]), w.r, w.F, upd w.H T (.tup [x, y])⟩, ⟨rfl, rfl, same_upd hg, same_upd hT, fun e => same_upd2 e, fun q o e _ n => ?_, fun h => noTG_upd h noTb_tup⟩, rfl, .tup upd_same (.cons (h1.mono (same_upd hg)) (.cons (h2.mono (same_upd hg)) .nil))⟩
  show upd w.G T (.tup [x, y]) q = none
  rw [upd_ne (ne_of_none e hT)]
  exact n
def enumD (k : Nat) : List D → List D
  | [] => []
  | d :: ds => .tuple [.int (k : Nat), d] :: enumD (k + 1) ds
theorem enumD_len : ∀ (ds : List D) (k : Nat), (enumD k ds).length = ds.length
  | [], _ => rfl
  | d :: ds, k => congrArg (· + 1) (enumD_len ds (k + 1))
theorem enumD_get : ∀ (ds : List D) (k i : Nat), (enumD k ds)[i]? = (ds[i]?).map fun d => .tuple [.int ((k + i : Nat) : Int), d]
  | [], k, i => by simp [enumD]
  | d :: ds, k, 0 => rfl
  | d :: ds, k, i + 1 => by
    show (enumD (k + 1) ds)[i]? = (ds[i]?).map _
    rw [enumD_get ds (k + 1) i, show k + 1 + i = k + (i + 1) by omega]
def zipD : List D → List D → List D
  | d :: ds, e :: es => .tuple [d, e] :: zipD ds es
  | _, _ => []
theorem zipD_get : ∀ (ds es : List D) (i : Nat) (x : D), (zipD ds es)[i]? = some x → ∃ d e, ds[i]? = some d ∧ es[i]? = some e ∧ x = .tuple [d, e]
  | [], es, i, x, h => by simp [zipD] at h
  | d :: ds, [], i, x, h => by simp [zipD] at h
  | d :: ds, e :: es, 0, x, h => ⟨d, e, rfl, rfl, by
    have h : some (PyData.tuple [d, e]) = some x := h
    cases h
    rfl⟩
  | d :: ds, e :: es, i + 1, x, h => zipD_get ds es i x h
theorem zipD_len : ∀ (ds es : List D), (zipD ds es).length = min ds.length es.length
  | [], es => by simp [zipD]
  | d :: ds, [] => by simp [zipD]
  | d :: ds, e :: es => by
    show (zipD ds es).length + 1 = _
    rw [zipD_len ds es, List.length_cons, List.length_cons]
    omega
def ciEnum (c : CE) : CI := fun s => (cv c s).bind fun a s1 => match a with
  | .d (.list ds) => .ok (enumD 0 ds) s1
  | .d (.tuple ds) => .ok (enumD 0 ds) s1
  | _ => .bad
def ciZip (c c' : CE) : CI := fun s => (cv c s).bind fun a s1 => (cv c' s1).bind fun b s2 => match a, b with
  | .d (.list ds), .d (.list es) => .ok (zipD ds es) s2
  | .d (.tuple ds), .d (.tuple es) => .ok (zipD ds es) s2
  | _, _ => .bad
section
variable {X : Cx} {ec : EC} {W : WX}
theorem i_enum {e : Expr} {c : CE} {p pos tpos : Pos} {elts : List Expr} {kk : Nat} (h : Ex X ec W e c) (hm : X.mg "enumerate" = none) (hg : Gl X "enumerate" := by rfl) (hs : starEach [e] X.env = [(false, eval e X.env)] := by rfl) (h0 : starEach [e] X.env = (false, eval e X.env) :: starEach [] X.env := by rfl) :
    Ix X ec W (.Tuple elts kk tpos) (.Call (.Name "enumerate" p) [e] [] pos) (ciEnum c) :=
  PI.imp (pi_enumA hg hm (pa_cons h pa_nil h0) hs) fun σ H R h => by
    obtain ⟨w, s, rfl, hr, h⟩ := h
    refine run_cv hr h fun x w1 s1 a le1 hr1 ha hn h1 => ?_
    cases a with
    | ref n => exact h1.elim
    | new c => exact h1.elim
    | d y =>
      have ha : Rp X.K w1.G x y := ha
      cases y with
      | list ds =>
        cases ha with
        | lst hs ra =>
          refine ⟨_, _, rfl, .inl ⟨hr1.mem.ext.seq hs, h1 _ w1 le1 hr1 fun w2 le2 e2 i => ⟨fun d hd => ?_, fun hl => ⟨_, e2.seq (le2.g.seq hs), by rw [ra.length]; rw [enumD_len] at hl; exact hl⟩⟩⟩⟩
          rw [enumD_get] at hd
          obtain ⟨d0, hd0, rfl⟩ := Option.map_eq_some_iff.mp hd
          obtain ⟨v, ev, rp⟩ := ra.get hd0
          refine ⟨⟨_, v, e2.seq (le2.g.seq hs), ev⟩, fun x H' hy => ?_⟩
          obtain ⟨T, y, rfl, hT, rfl, hy⟩ := hy
          have := hy _ (e2.seq (le2.g.seq hs))
          rw [ev] at this
          cases this
          rw [Nat.zero_add]
          exact gr_pair e2 hT (.int _) (rp.mono le2.g)
      | tuple ds =>
        cases ha with
        | tup hs ra =>
          refine ⟨_, _, rfl, .inr ⟨SqT.of (hr1.mem.ext _ _ hs), h1 _ w1 le1 hr1 fun w2 le2 e2 i => ⟨fun d hd => ?_, fun hl => ⟨_, SqT.of (e2 _ _ (le2.g _ _ hs)), by rw [ra.length]; rw [enumD_len] at hl; exact hl⟩⟩⟩⟩
          rw [enumD_get] at hd
          obtain ⟨d0, hd0, rfl⟩ := Option.map_eq_some_iff.mp hd
          obtain ⟨v, ev, rp⟩ := ra.get hd0
          refine ⟨⟨_, v, SqT.of (e2 _ _ (le2.g _ _ hs)), ev⟩, fun x H' hy => ?_⟩
          obtain ⟨T, y, rfl, hT, rfl, hy⟩ := hy
          have := hy _ (SqT.of (e2 _ _ (le2.g _ _ hs)))
          rw [ev] at this
          cases this
          rw [Nat.zero_add]
          exact gr_pair e2 hT (.int _) (rp.mono le2.g)
      | none => exact h1.elim
      | bool _ => exact h1.elim
      | int _ => exact h1.elim
      | str _ => exact h1.elim
      | dict _ => exact h1.elim
theorem i_zip {e e' : Expr} {c c' : CE} {p pos tpos : Pos} {elts : List Expr} {kk : Nat} (h : Ex X ec W e c) (h' : Ex X ec W e' c') (hm : X.mg "zip" = none) (hg : Gl X "zip" := by rfl) (h0 : starEach [e'] X.env = (false, eval e' X.env) :: starEach [] X.env := by rfl) (h1 : starEach [e, e'] X.env = (false, eval e X.env) :: starEach [e'] X.env := by rfl)
    (hpl : (backTo pos (starEach [e'] X.env)).any (·.1) = false := by rfl) : Ix X ec W (.Tuple elts kk tpos) (.Call (.Name "zip" p) [e, e'] [] pos) (ciZip c c') :=
  PI.imp (RZ.pi_zipA hg hm (pa_cons h (pa_cons h' pa_nil h0) h1) h1 hpl) fun σ H R h => by
    obtain ⟨w, s, rfl, hr, h⟩ := h
    refine run_cv hr h fun x w1 s1 a le1 hr1 ha hn h1 => ?_
    refine run_cv hr1 (Res.mono h1 (fun _ _ q => q) fun _ _ q => okE_le le1 q) fun y w2 s2 b le2 hr2 hb hn2 h2 => ?_
    split at h2
    · rename_i ds es
      have ha : Rp X.K w1.G x (.list ds) := ha
      have hb : Rp X.K w2.G y (.list es) := hb
      cases ha with
      | lst hs ra =>
        cases hb with
        | lst hs' ra' =>
          have s1 := le2.g.seq hs
          refine ⟨_, _, _, _, rfl, .inl ⟨hr2.mem.ext.seq s1, hr2.mem.ext.seq hs', h2 _ w2 (le1.trans le2) hr2 fun w3 le3 e3 i => ⟨fun d hd => ?_, fun hl => ⟨_, _, e3.seq (le3.g.seq s1), e3.seq (le3.g.seq hs'), by rw [ra.length, ra'.length]; rw [zipD_len] at hl; omega⟩⟩⟩⟩
          obtain ⟨d1, d2, hd1, hd2, rfl⟩ := zipD_get _ _ _ _ hd
          obtain ⟨v1, ev1, rp1⟩ := ra.get hd1
          obtain ⟨v2, ev2, rp2⟩ := ra'.get hd2
          refine ⟨⟨_, _, v1, v2, e3.seq (le3.g.seq s1), e3.seq (le3.g.seq hs'), ev1, ev2⟩, fun z H' hy => ?_⟩
          obtain ⟨T, y1, y2, rfl, hT, rfl, q1, q2⟩ := hy
          have t1 := q1 _ (e3.seq (le3.g.seq s1))
          have t2 := q2 _ (e3.seq (le3.g.seq hs'))
          rw [ev1] at t1
          rw [ev2] at t2
          cases t1
          cases t2
          exact gr_pair e3 hT ((rp1.mono le2.g).mono le3.g) (rp2.mono le3.g)
    · rename_i ds es
      have ha : Rp X.K w1.G x (.tuple ds) := ha
      have hb : Rp X.K w2.G y (.tuple es) := hb
      cases ha with
      | tup hs ra =>
        cases hb with
        | tup hs' ra' =>
          have s1 := le2.g _ _ hs
          refine ⟨_, _, _, _, rfl, .inr ⟨SqT.of (hr2.mem.ext _ _ s1), SqT.of (hr2.mem.ext _ _ hs'), h2 _ w2 (le1.trans le2) hr2 fun w3 le3 e3 i => ⟨fun d hd => ?_, fun hl => ⟨_, _, SqT.of (e3 _ _ (le3.g _ _ s1)), SqT.of (e3 _ _ (le3.g _ _ hs')), by rw [ra.length, ra'.length]; rw [zipD_len] at hl; omega⟩⟩⟩⟩
          obtain ⟨d1, d2, hd1, hd2, rfl⟩ := zipD_get _ _ _ _ hd
          obtain ⟨v1, ev1, rp1⟩ := ra.get hd1
          obtain ⟨v2, ev2, rp2⟩ := ra'.get hd2
          refine ⟨⟨_, _, v1, v2, SqT.of (e3 _ _ (le3.g _ _ s1)), SqT.of (e3 _ _ (le3.g _ _ hs')), ev1, ev2⟩, fun z H' hy => ?_⟩
          obtain ⟨T, y1, y2, rfl, hT, rfl, q1, q2⟩ := hy
          have t1 := q1 _ (SqT.of (e3 _ _ (le3.g _ _ s1)))
          have t2 := q2 _ (SqT.of (e3 _ _ (le3.g _ _ hs')))
          rw [ev1] at t1
          rw [ev2] at t2
          cases t1
          cases t2
          exact gr_pair e3 hT ((rp1.mono le2.g).mono le3.g) (rp2.mono le3.g)
    · exact h2.elim
end
def enumR : Rv → S → R (List D)
  | .d (.list ds), s1 => .ok (enumD 0 ds) s1
  | .d (.tuple ds), s1 => .ok (enumD 0 ds) s1
  | _, _ => .bad
@[simp] theorem enumR_l {ds : List D} {s : S} : enumR (.d (.list ds)) s = .ok (enumD 0 ds) s := Eq.trans rfl rfl
@[simp] theorem enumR_t {ds : List D} {s : S} : enumR (.d (.tuple ds)) s = .ok (enumD 0 ds) s := Eq.trans rfl rfl
@[simp] theorem ciEnum_s {c : CE} {s : S} : ciEnum c s = (cv c s).bind enumR := by
  unfold ciEnum
  congr 1
  funext a s1
  rcases a with (_ | _ | _ | _ | _ | _ | _) | _ | _ <;> rfl
def zipR (a b : Rv) (s2 : S) : R (List D) := match a, b with
  | .d (.list ds), .d (.list es) => .ok (zipD ds es) s2
  | .d (.tuple ds), .d (.tuple es) => .ok (zipD ds es) s2
  | _, _ => .bad
@[simp] theorem zipR_l {ds es : List D} {s : S} : zipR (.d (.list ds)) (.d (.list es)) s = .ok (zipD ds es) s := Eq.trans rfl rfl
@[simp] theorem zipR_t {ds es : List D} {s : S} : zipR (.d (.tuple ds)) (.d (.tuple es)) s = .ok (zipD ds es) s := Eq.trans rfl rfl
def kZip (c' : CE) (a : Rv) (s1 : S) : R (List D) := (cv c' s1).bind (zipR a)
@[simp] theorem kZip_s {c' : CE} {a : Rv} {s : S} : kZip c' a s = (cv c' s).bind (zipR a) := Eq.trans rfl rfl
@[simp] theorem ciZip_s {c c' : CE} {s : S} : ciZip c c' s = (cv c s).bind (kZip c') := Eq.trans rfl rfl
@[simp] theorem opBool_i {i : Int} : opBool (.d (.int i)) = some (.d (.bool (i != 0))) := Eq.trans rfl rfl
@[simp] theorem opBool_b {b : Bool} : opBool (.d (.bool b)) = some (.d (.bool b)) := Eq.trans rfl rfl
@[simp] theorem opInt_b1 {b : Bool} : opInt (.d (.bool b)) = some (.d (.int (if b then 1 else 0))) := rfl
end Vm

namespace Vm
open PySem L2 PySem.Spec PyProof.Rows
@[simp] theorem wipeV_nil {v : List Sl} : wipeV v [] = v := rfl
@[simp] theorem wipeV_cons {v : List Sl} {i : Nat} {is : List Nat} : wipeV v (i :: is) = (wipeV v is).set i .u := rfl
theorem rangeI_all : ∀ (n k : Nat) (p : Int → Bool), (rangeI k n).all p = (List.range n).all fun (i : Nat) => p ((k + i : Nat) : Int)
  | 0, k, p => rfl
  | n + 1, k, p => by
    show (p k && (rangeI (k + 1) n).all p) = _
    have e : ((k : Int) + 1) = ((k + 1 : Nat) : Int) := by omega
    rw [e, rangeI_all n (k + 1) p, List.range_succ_eq_map, List.all_cons, List.all_map]
    congr 1
    congr 1
    funext i
    show p ((k + 1 + i : Nat) : Int) = p ((k + (i + 1) : Nat) : Int)
    rw [show k + 1 + i = k + (i + 1) by omega]
theorem rangeI_map : ∀ (n k : Nat), rangeI k n = (List.range n).map fun (i : Nat) => ((k + i : Nat) : Int)
  | 0, k => rfl
  | n + 1, k => by
    show ((k : Int) :: rangeI (k + 1) n) = _
    have e : ((k : Int) + 1) = ((k + 1 : Nat) : Int) := by omega
    rw [e, rangeI_map n (k + 1), List.range_succ_eq_map, List.map_cons, List.map_map]
    congr 1
    apply List.map_congr_left
    intro i _
    show ((k + 1 + i : Nat) : Int) = ((k + (i + 1) : Nat) : Int)
    rw [show k + 1 + i = k + (i + 1) by omega]
/-- range(e): the numbers below -/
theorem ciR1_n {c : CE} {s s1 : S} {n : Nat} (h : c s = .ok (.d (.int (n : Nat))) s1) (hn : n < 1000000000) : ciR1 c s = .ok ((List.range n).map fun i : Nat => PyData.int (i : Int)) s1 := by
  rw [ciR1_s h (by omega) (by omega), Int.toNat_natCast, rangeD_eq]
  have := rangeI_map n 0
  rw [show ((0 : Nat) : Int) = 0 from rfl] at this
  rw [this, List.map_map]
  congr 1
  apply List.map_congr_left
  intro i _
  show PyData.int ((0 + i : Nat) : Int) = _
  rw [Nat.zero_add]
theorem opIx_ln {ds : List D} {i : Nat} (h : i < ds.length) : opIx (.d (.list ds)) (.d (.int (i : Nat))) = some (.d ds[i]) := opIx_l (atI_nat (by omega) (by rw [Int.toNat_natCast]; exact List.getElem?_eq_getElem h))
theorem opIx_tn {ds : List D} {i : Nat} (h : i < ds.length) : opIx (.d (.tuple ds)) (.d (.int (i : Nat))) = some (.d ds[i]) := opIx_t (atI_nat (by omega) (by rw [Int.toNat_natCast]; exact List.getElem?_eq_getElem h))
/-! ### what is a load -/
def nonB : D → Bool
  | .int n => decide (0 ≤ n)
  | _ => false
def geD : D → D → Bool
  | .int a, .int b => decide (b ≤ a)
  | _, _ => false
def fallD : List D → Bool
  | a :: b :: r => geD a b && fallD (b :: r)
  | _ => true
def loadB : D → Bool
  | .tuple ds => decide (1 ≤ ds.length ∧ ds.length ≤ 6) && ds.all nonB && fallD ds
  | _ => false
theorem fallD_ints : ∀ ns : List Int, fallD (ns.map PyData.int) = (List.range (ns.length - 1)).all fun i => decide (ns.getD (i + 1) 0 ≤ ns.getD i 0)
  | [] => rfl
  | [n] => rfl
  | a :: b :: r => by
    show (decide (b ≤ a) && fallD ((b :: r).map PyData.int)) = _
    rw [fallD_ints (b :: r)]
    show _ = (List.range (r.length + 1)).all _
    rw [List.range_succ_eq_map, List.all_cons, List.all_map]
    rfl
theorem nonB_ints {ds : List D} (h : ds.all nonB = true) : ∃ ns : List Int, ds = ns.map PyData.int ∧ ∀ n, n ∈ ns → 0 ≤ n :=
  ints_of (fun n => 0 ≤ n) fun x hx => by
    have := List.all_eq_true.mp h x hx
    cases x with
    | int n => exact ⟨n, rfl, by simpa [nonB] using this⟩
    | _ => simp [nonB] at this
theorem isInt_fWhole {d : D} {m : List Cell} : fWhole [.d d] [] = .ok (.d (.bool (isInt d))) [] := whole_d
def cIsLoad : CS :=
 (cSeq (cIfS (tOr' (tNot' (cTru (cOp1 (opIsi "tuple") (cVar 0)))) (tNot' (cB (cChain opLe opLe (cC (.int 1)) (cOp1 opLen (cVar 0)) (cC (.int 6))))))
 (cRet (cC (.bool false)))
 cNx)
 (cSeq (cIfS (tNot' (cTru (cOp1 opAll (cLc [1] (ciSeq (cVar 0)) (tgN 1) ctYes (cAnd (cCallP fWhole (lCons (cVar 1) lNil)) (cOp2 opGe (cVar 1) (cC (.int 0))))))))
 (cRet (cC (.bool false)))
 cNx)
 (cRet (cOp1 opAll (cLc [2] (ciR1 (cOp2 opSub (cOp1 opLen (cVar 0)) (cC (.int 1)))) (tgN 2) ctYes (cOp2 opGe (cOp2 opIx (cVar 0) (cVar 2)) (cOp2 opIx (cVar 0) (cOp2 opAdd (cVar 2) (cC (.int 1))))))))))
def fIsLoad : Fn := runF 3 cIsLoad
theorem isload_t (ds : List D) : fIsLoad [.d (.tuple ds)] [] = .ok (.d (.bool (loadB (.tuple ds)))) [] := by
  refine run_eq ?_
  by_cases h : 1 ≤ ds.length ∧ ds.length ≤ 6
  · have h1 : (1 : Int) ≤ ds.length := by omega
    have h2 : (ds.length : Int) ≤ 6 := by omega
    refine st (s1 := ⟨[.d (.tuple ds), .u, .u], []⟩) (by simp [isi_t, h1, h2]; exact .rfl) ?_
    have l := lc_for (own := [1]) (ci := ciSeq (cVar 0)) (tg := tgN 1) (el := cAnd (cCallP fWhole (lCons (cVar 1) lNil)) (cOp2 opGe (cVar 1) (cC (.int 0)))) (s := ⟨[.d (.tuple ds), .u, .u], []⟩) (s1 := ⟨[.d (.tuple ds), .u, .u], []⟩) (xs := ds) (F := id) (fun d => .bool (nonB d)) (by simp) (by omega) fun d hd => by
      refine ⟨_, rfl, [.d (.tuple ds), .d d, .u], ?_⟩
      cases d <;> simp [whole_d, isInt, nonB]
    refine w_sif (x := !ds.all nonB) (s1 := ⟨[.d (.tuple ds), .u, .u], []⟩) (by simp [l, opAll_b]; exact .rfl) (fun hx => ?_) fun hx => ?_
    · refine w_retS (by simp; exact .rfl) (ok_d ⟨?_, rfl⟩)
      have : ds.all nonB = false := by simpa using hx
      simp [loadB, this]
    · have hx : ds.all nonB = true := by simpa using hx
      obtain ⟨ns, rfl, hn⟩ := nonB_ints hx
      have hl : ns.length ≤ 6 ∧ 1 ≤ ns.length := by simpa [and_comm] using h
      refine w_nxS ?_
      have r1 := ciR1_n (c := cOp2 opSub (cOp1 opLen (cVar 0)) (cC (.int 1))) (s := ⟨[.d (.tuple (ns.map PyData.int)), .u, .u], []⟩) (s1 := ⟨[.d (.tuple (ns.map PyData.int)), .u, .u], []⟩) (n := ns.length - 1) (by
        have : ((ns.length - 1 : Nat) : Int) = (ns.length : Int) - 1 := by omega
        simp [this]) (by omega)
      have l2 := lc_for (own := [2]) (tg := tgN 2) (el := cOp2 opGe (cOp2 opIx (cVar 0) (cVar 2)) (cOp2 opIx (cVar 0) (cOp2 opAdd (cVar 2) (cC (.int 1))))) (fun i => .bool (decide (ns.getD (i + 1) 0 ≤ ns.getD i 0))) r1 (by rw [List.length_range]; omega) fun i hi => by
        have hi := List.mem_range.mp hi
        refine ⟨_, rfl, [.d (.tuple (ns.map PyData.int)), .u, .d (.int i)], ?_⟩
        have i1 := opIx_ti (ns := ns) (i := i) (by omega) (by omega)
        have i2 := opIx_ti (ns := ns) (i := (i : Int) + 1) (by omega) (by omega)
        rw [Int.toNat_natCast] at i1
        rw [show ((i : Int) + 1).toNat = i + 1 by omega] at i2
        simp [i1, i2]
      refine w_ret (x := .d (.bool (loadB (.tuple (ns.map PyData.int))))) (s1 := ⟨[.d (.tuple (ns.map PyData.int)), .u, .u], []⟩) ?_ (ok_d ⟨rfl, rfl⟩)
      have e : loadB (.tuple (ns.map PyData.int)) = (List.range (ns.length - 1)).all fun i => decide (ns.getD (i + 1) 0 ≤ ns.getD i 0) := by
        show (decide (1 ≤ (ns.map PyData.int).length ∧ (ns.map PyData.int).length ≤ 6) && (ns.map PyData.int).all nonB && fallD (ns.map PyData.int)) = _
        rw [hx, fallD_ints]
        have hd : decide (1 ≤ (ns.map PyData.int).length ∧ (ns.map PyData.int).length ≤ 6) = true := decide_eq_true (by rw [List.length_map]; omega)
        rw [hd]
        rfl
      rw [e]
      simp [l2, opAll_b]
      exact .rfl
  · refine w_sif (x := true) (s1 := ⟨[.d (.tuple ds), .u, .u], []⟩) ?_ (fun _ => ?_) fun hx => nomatch hx
    · by_cases h1 : (1 : Int) ≤ ds.length
      · simp [isi_t, h1, show ¬ ((ds.length : Int) ≤ 6) by omega]
        exact .rfl
      · simp [isi_t, h1]
        exact .rfl
    · refine w_retS (by simp; exact .rfl) (ok_d ⟨?_, rfl⟩)
      simp [loadB, h]
theorem isload_ok (d : D) : fIsLoad [.d d] [] = .ok (.d (.bool (loadB d))) [] := by
  cases d with
  | tuple ds => exact isload_t ds
  | _ => rfl
end Vm

namespace Vm
open PySem L2 PySem.Spec PyProof.Rows
theorem opMul_rep {x : D} {n : Int} (h0 : 0 ≤ n) (h : n ≤ 16000000) : opMulV (.d (.list [x])) (.d (.int n)) = some (.new (.l (List.replicate n.toNat x))) := by
  show (if _ then some (Rv.new (.l (List.replicate n.toNat [x]).flatten)) else none) = _
  rw [if_pos]
  · congr 3
    generalize n.toNat = k
    induction k with
    | zero => rfl
    | succ k ih => rw [List.replicate_succ, List.flatten_cons, ih]; rfl
  · simp only [Bool.and_eq_true, decide_eq_true_eq]
    refine ⟨⟨by omega, by omega⟩, ?_⟩
    show 1 * n.toNat ≤ 16000000
    omega
@[simp] theorem opSortedR_s {ns : List Int} : opSortedR (.d (.list (ns.map PyData.int))) = some (.new (.l ((sortD ns).map PyData.int))) := by
  unfold opSortedR
  dsimp only
  rw [ints?_map]
  rfl
theorem perm_sum {as bs : List Int} (h : as.Perm bs) : as.sum = bs.sum := by
  induction h with
  | nil => rfl
  | cons x _ ih => rw [List.sum_cons, List.sum_cons, ih]
  | swap x y l => simp only [List.sum_cons]; omega
  | trans _ _ h1 h2 => exact h1.trans h2
theorem sum_nonneg : ∀ {xs : List Int}, (∀ x, x ∈ xs → 0 ≤ x) → 0 ≤ xs.sum
  | [], _ => Int.le_refl 0
  | x :: xs, h => by
    rw [List.sum_cons]
    have := h x (List.mem_cons_self ..)
    have := sum_nonneg fun y hy => h y (List.mem_cons_of_mem x hy)
    omega
theorem mem_le_sum : ∀ {xs : List Int}, (∀ x, x ∈ xs → 0 ≤ x) → ∀ x, x ∈ xs → x ≤ xs.sum
  | y :: xs, h, x, hx => by
    rw [List.sum_cons]
    have h0 := h y (List.mem_cons_self ..)
    have h1 := sum_nonneg fun z hz => h z (List.mem_cons_of_mem y hz)
    rcases List.mem_cons.mp hx with rfl | hx
    · omega
    · have := mem_le_sum (fun z hz => h z (List.mem_cons_of_mem y hz)) x hx
      omega
theorem sum_le_mul {b : Int} : ∀ {xs : List Int}, (∀ x, x ∈ xs → x ≤ b) → xs.sum ≤ b * xs.length
  | [], _ => by simp
  | x :: xs, h => by
    rw [List.sum_cons, List.length_cons]
    have h1 := h x (List.mem_cons_self ..)
    have h2 := sum_le_mul fun y hy => h y (List.mem_cons_of_mem x hy)
    have : b * ((xs.length + 1 : Nat) : Int) = b * xs.length + b := by
      rw [show ((xs.length + 1 : Nat) : Int) = (xs.length : Int) + 1 by omega, Int.mul_add, Int.mul_one]
    omega
theorem sum_map_le {f : Int → Int} : ∀ {xs : List Int}, (∀ x, x ∈ xs → f x ≤ x) → (xs.map f).sum ≤ xs.sum
  | [], _ => by simp
  | x :: xs, h => by
    rw [List.map_cons, List.sum_cons, List.sum_cons]
    have h1 := h x (List.mem_cons_self ..)
    have h2 := sum_map_le fun y hy => h y (List.mem_cons_of_mem x hy)
    omega
/-- a load of at most so many balls -/
structure IsLd (most : Int) (xs : List Int) : Prop where
  l0 : 1 ≤ xs.length
  l1 : xs.length ≤ 6
  pos : ∀ x, x ∈ xs → 0 ≤ x
  sum : xs.sum ≤ most
  fall : xs.Pairwise (· ≥ ·)
def cLoadA : CS :=
 (cSeq (cSet 2 (cCall fDrawA (lCons (cVar 0) (lCons (cC (.int 6)) lNil))))
 (cSeq (cSet 3 (cOp2 opAdd (cC (.int 1)) (cCall fDrawA (lCons (cVar 0) (lCons (cC (.int 6)) lNil)))))
 (cSeq (cSet 4 (cLc [5] (ciR1 (cVar 3)) (tgN 5) ctYes (cCall fDrawA (lCons (cVar 0) (lCons (cOp2 opAdd (cOp2 opDiv (cVar 1) (cVar 3)) (cC (.int 1))) lNil)))))
 (cSeq (cIfS (cB (cOp2 opEq (cVar 2) (cC (.int 0))))
 (cSet 4 (cOp2 opMulV (cLst (cCons (cOp2 opIx (cVar 4) (cC (.int 0))) cNil)) (cVar 3)))
 cNx)
 (cSeq (cIfS (cB (cOp2 opEq (cVar 2) (cC (.int 1))))
 (cSet 4 (cOp2 opAdd (cLst (cCons (cCall fDrawA (lCons (cVar 0) (lCons (cOp2 opAdd (cVar 1) (cC (.int 1))) lNil))) cNil)) (cOp2 opMulV (cLst (cCons (cC (.int 0)) cNil)) (cOp2 opSub (cVar 3) (cC (.int 1))))))
 cNx)
 (cSeq (cIfS (cB (cOp2 opEq (cVar 2) (cC (.int 2))))
 (cSet 4 (cLc [6] (ciSeq (cVar 4)) (tgN 6) ctYes (cOp2 opMod (cVar 6) (cC (.int 2)))))
 cNx)
 (cRet (cOp1 opTuple (cOp1 opSortedR (cVar 4))))))))))
def fLoadA : Fn := runF 7 cLoadA
theorem loadA_ok {B : Nat} {p : Cell} (r : List Cell) (most : Int) (hp : IsPen B p) (hB : B < 900000) (h0 : 0 ≤ most) (h1 : most ≤ 1000000000000) :
    ∃ xs p', fLoadA [.c 0, .d (.int most)] (p :: r) = .ok (.d (.tuple (xs.map PyData.int))) (p' :: r) ∧ IsLd most xs ∧ IsPen (B + 9) p' := by
  suffices h : Ok (fLoadA [.c 0, .d (.int most)] (p :: r)) fun a m => ∃ xs p', a = .d (.tuple (xs.map PyData.int)) ∧ m = p' :: r ∧ IsLd most xs ∧ IsPen (B + 9) p' by
    obtain ⟨_, _, e, xs, p', rfl, rfl, h⟩ := h
    exact ⟨xs, p', e, h⟩
  unfold fLoadA
  apply run_ok
  obtain ⟨w, p1, e1, w0, w1, hp1⟩ := dA r 6 hp
  obtain ⟨a, p2, e2, a0, a1, hp2⟩ := dA r 6 hp1
  refine st (by simp [e1]; exact .rfl) (st (by simp [e2]; exact .rfl) ?_)
  obtain ⟨n, hn⟩ : ∃ n : Nat, (n : Int) = 1 + a := ⟨(1 + a).toNat, by omega⟩
  rw [← hn]
  have r1 := ciR1_n (c := cVar 3) (s := ⟨[.c 0, .d (.int most), .d (.int w), .d (.int n), .u, .u, .u], p2 :: r⟩) (s1 := ⟨[.c 0, .d (.int most), .d (.int w), .d (.int n), .u, .u, .u], p2 :: r⟩) (n := n) (by simp) (by omega)
  have hq0 : 0 ≤ most / n := Int.ediv_nonneg h0 (by omega)
  have hqn : most / n * n ≤ most := by
    have := Int.ediv_mul_le most (b := (n : Int)) (by omega)
    omega
  have hq1 : most / n ≤ most := Int.ediv_le_self _ h0
  have dv : opDiv (.d (.int most)) (.d (.int (n : Nat))) = some (.d (.int (most / n))) := opDiv_b (by omega) (by omega)
  have lcd := lc_draws (own := [5]) (tg := tgN 5) (el := cCall fDrawA (lCons (cVar 0) (lCons (cOp2 opAdd (cOp2 opDiv (cVar 1) (cVar 3)) (cC (.int 1))) lNil))) (fun i m => ∃ p, m = p :: r ∧ IsPen (B + 2 + i) p) (fun d => ∃ i, d = .int i ∧ 0 ≤ i ∧ i ≤ most / n) r1 (by simp; omega) ⟨p2, rfl, hp2⟩ fun i m d hd hi => by
    obtain ⟨p, rfl, hp⟩ := hi
    have hi : i < n := by
      have := (List.getElem?_eq_some_iff.mp hd).1
      simpa using this
    obtain ⟨v, p', e, v0, v1, hp'⟩ := dA r (most / n + 1) hp
    exact ⟨_, rfl, .int v, [.c 0, .d (.int most), .d (.int w), .d (.int n), .u, .d d, .u], p' :: r, by simp [dv, e], ⟨v, rfl, v0, by omega⟩, p', rfl, hp'⟩
  obtain ⟨acc, m', e3, hl, hJ, hI⟩ := lcd
  obtain ⟨p3, rfl, hp3⟩ := hI
  obtain ⟨ys, rfl, hys⟩ := ints_of (fun i => 0 ≤ i ∧ i ≤ most / n) hJ
  rw [List.length_map, List.length_map, List.length_range] at hl
  rw [List.length_map, List.length_range] at hp3
  have hs0 : ys.sum ≤ most := by
    have := sum_le_mul fun y hy => (hys y hy).2
    rw [hl] at this
    omega
  refine st (by simp [e3]; exact .rfl) ?_
  let G := fun zs : List Int => zs.length = n ∧ (∀ z, z ∈ zs → 0 ≤ z) ∧ zs.sum ≤ most
  have g0 : G ys := ⟨hl, fun y hy => (hys y hy).1, hs0⟩
  have hn6 : n ≤ 6 := by omega
  let N := fun (s : S) => ∃ zs pk, s = ⟨[.c 0, .d (.int most), .d (.int w), .d (.int n), .d (.list (zs.map PyData.int)), .u, .u], pk :: r⟩ ∧ G zs ∧ IsPen (B + 9) pk
  have i1 := opIx_li (ns := ys) (i := 0) (by omega) (by omega)
  rw [Int.toNat_zero] at i1
  have hd0 : ys.getD 0 0 ∈ ys := by
    rw [List.getD_eq_getElem?_getD, List.getElem?_eq_getElem (by omega)]
    exact List.getElem_mem _
  generalize ys.getD 0 0 = y0 at i1 hd0
  refine w_cut (fun (s : S) => ∃ zs, s = ⟨[.c 0, .d (.int most), .d (.int w), .d (.int n), .d (.list (zs.map PyData.int)), .u, .u], p3 :: r⟩ ∧ G zs) ?_ fun s hs => ?_
  · by_cases hw : w = 0
    · subst hw
      refine w_ifT (by simp; exact .rfl) ?_
      refine st_last (s1 := ⟨[.c 0, .d (.int most), .d (.int 0), .d (.int n), .d (.list ((List.replicate n y0).map PyData.int)), .u, .u], p3 :: r⟩) ?_ ⟨_, rfl, ?_, fun z hz => ?_, ?_⟩
      · have i2 := opMul_rep (x := .int y0) (n := (n : Int)) (by omega) (by omega)
        rw [Int.toNat_natCast] at i2
        simp [i1, i2]
        exact .rfl
      · rw [List.length_replicate]
      · rw [List.eq_of_mem_replicate hz]
        exact (hys _ hd0).1
      · have := sum_le_mul (b := most / n) (xs := List.replicate n y0) fun z hz => by
          rw [List.eq_of_mem_replicate hz]
          exact (hys _ hd0).2
        rw [List.length_replicate] at this
        omega
    · exact w_ifF (by simp [hw]; exact .rfl) (w_nx ⟨_, rfl, g0⟩)
  obtain ⟨zs, rfl, gz⟩ := hs
  refine w_cut N ?_ fun s hs => ?_
  · by_cases hw : w = 1
    · obtain ⟨v, p4, e4, v0, v1, hp4⟩ := dA r (most + 1) hp3
      subst hw
      refine w_ifT (by simp; exact .rfl) ?_
      refine st_last (s1 := ⟨[.c 0, .d (.int most), .d (.int 1), .d (.int n), .d (.list ((v :: List.replicate (n - 1) 0).map PyData.int)), .u, .u], p4 :: r⟩) ?_ ⟨_, _, rfl, ⟨?_, fun z hz => ?_, ?_⟩, hp4.mono (by omega)⟩
      · have i2 := opMul_rep (x := .int 0) (n := (n : Int) - 1) (by omega) (by omega)
        rw [show ((n : Int) - 1).toNat = n - 1 by omega] at i2
        have i3 := opAdd_l (xs := [.int v]) (ys := List.replicate (n - 1) (.int 0)) (by simp; omega)
        simp [e4, i2, i3]
        exact .rfl
      · simp; omega
      · rcases List.mem_cons.mp hz with rfl | hz
        · exact v0
        · rw [List.eq_of_mem_replicate hz]
          decide
      · have := sum_le_mul (b := 0) (xs := List.replicate (n - 1) (0 : Int)) fun z hz => by
          rw [List.eq_of_mem_replicate hz]
          decide
        rw [List.sum_cons]
        omega
    · exact w_ifF (by simp [hw]; exact .rfl) (w_nx ⟨_, _, rfl, gz, hp3.mono (by omega)⟩)
  obtain ⟨us, p5, rfl, gu, hp5⟩ := hs
  refine w_cut N ?_ fun s hs => ?_
  · by_cases hw : w = 2
    · subst hw
      have l := lc_for (own := [6]) (ci := ciSeq (cVar 4)) (tg := tgN 6) (el := cOp2 opMod (cVar 6) (cC (.int 2))) (s := ⟨[.c 0, .d (.int most), .d (.int 2), .d (.int n), .d (.list (us.map PyData.int)), .u, .u], p5 :: r⟩) (s1 := ⟨[.c 0, .d (.int most), .d (.int 2), .d (.int n), .d (.list (us.map PyData.int)), .u, .u], p5 :: r⟩) (xs := us) (F := PyData.int) (fun i => .int (i % 2)) (by simp) (by have := gu.1; omega) fun i hi => by
        exact ⟨_, rfl, [.c 0, .d (.int most), .d (.int 2), .d (.int n), .d (.list (us.map PyData.int)), .u, .d (.int i)], by simp [opMod_i]⟩
      refine w_ifT (by simp; exact .rfl) ?_
      refine st_last (s1 := ⟨[.c 0, .d (.int most), .d (.int 2), .d (.int n), .d (.list ((us.map fun i => i % 2).map PyData.int)), .u, .u], p5 :: r⟩) ?_ ⟨_, _, rfl, ⟨?_, fun z hz => ?_, ?_⟩, hp5⟩
      · simp [l]
        exact .rfl
      · rw [List.length_map]
        exact gu.1
      · obtain ⟨y, hy, rfl⟩ := List.mem_map.mp hz
        omega
      · have := sum_map_le (f := fun i => i % 2) (xs := us) fun x hx => by
          have := gu.2.1 x hx
          show x % 2 ≤ x
          omega
        have := gu.2.2
        omega
    · exact w_ifF (by simp [hw]; exact .rfl) (w_nx ⟨_, _, rfl, gu, hp5⟩)
  obtain ⟨ts, p6, rfl, gt, hp6⟩ := hs
  refine w_ret (by simp; exact .rfl) (ok_d ⟨sortD ts, p6, rfl, by simp, ⟨?_, ?_, fun x hx => ?_, ?_, sortD_pw ts⟩, hp6⟩)
  · rw [(sortD_perm ts).length_eq]
    have := gt.1
    omega
  · rw [(sortD_perm ts).length_eq]
    have := gt.1
    omega
  · exact gt.2.1 x ((sortD_perm ts).mem_iff.mp hx)
  · rw [perm_sum (sortD_perm ts)]
    exact gt.2.2
end Vm

namespace Vm
open PySem L2 PySem.Spec PyProof.Rows
/-! ### texts made of plain signs -/
def Asc (z : Str) : Prop := ∀ c ∈ z.cps.toList, c < 16 ^ 8
theorem Asc.app {x y : Str} (h : Asc x) (q : Asc y) : Asc (x ++ y) := fun c hc => by
  rcases mem_cps_append.mp hc with hc | hc
  · exact h c hc
  · exact q c hc
theorem asc_of (s : String) : Asc (Str.ofString s) := fun c hc => by
  rw [signs_ofString] at hc
  obtain ⟨x, _, rfl⟩ := List.mem_map.mp hc
  have : x.toNat < 4294967296 := x.val.toNat_lt
  exact Nat.lt_of_lt_of_le this (by decide)
theorem asc_join {sep : Str} (hs : Asc sep) : ∀ ts : List Str, (∀ t, t ∈ ts → Asc t) → Asc (Str.join sep ts)
  | [], _ => fun c hc => absurd hc (by simp [Str.join, Str.empty])
  | [x], h => h x (List.mem_cons_self ..)
  | x :: y :: r, h => by
    show Asc (x ++ sep ++ Str.join sep (y :: r))
    exact ((h x (List.mem_cons_self ..)).app hs).app (asc_join hs (y :: r) fun t ht => h t (List.mem_cons_of_mem _ ht))
theorem asc_int (i : Int) : Asc (PyData.int i).shown := by
  simp only [PyData.shown]
  exact asc_of _
theorem asc_ints : ∀ ns : List Int, ∀ t, t ∈ PyData.shownAll (ns.map PyData.int) → Asc t
  | [], t, h => by simp [PyData.shownAll] at h
  | n :: ns, t, h => by
    simp only [List.map_cons, PyData.shownAll, List.mem_cons] at h
    rcases h with rfl | h
    · exact asc_int n
    · exact asc_ints ns t h
theorem asc_tupI (ns : List Int) : Asc (PyData.tuple (ns.map PyData.int)).shown := by
  simp only [PyData.shown]
  unfold tupleText
  refine ((asc_of _).app (asc_join (asc_of _) _ (asc_ints ns))).app ?_
  split <;> exact asc_of _
theorem Kd.str {β : Bool} {z : Str} {n : Nat} (h : Asc z) (hn : z.length ≤ n) : Kd β (10 * n + 2) 0 (.str z) := by
  have e := StrLaws.reprText_len z h
  refine ⟨?_, rfl, Nat.le_refl _, fun _ => rfl, fun _ => rfl⟩
  show (reprText z).length ≤ _
  omega
theorem Kd.strI {β : Bool} {k : Nat} {i : Int} (h : Bs k i) (hk : k ≤ 1918) : Kd β (10 * (k + 2) + 2) 0 (.str (PyData.int i).shown) := Kd.str (asc_int i) (Kd.int (b := true) h hk).len
theorem Kd.dict {n m : Nat} {es : List (D × D)} (h : ∀ p, p ∈ es → Kd false n 0 p.1 ∧ Kd false n m p.2) : Kd false (es.length * (2 * n + 4) + 3) (m + 1) (.dict es) := by
  have go : ∀ es : List (D × D), (∀ p, p ∈ es → Kd false n 0 p.1 ∧ Kd false n m p.2) → ((PyData.shownKv es).map (·.length)).sum ≤ es.length * (2 * n + 2) ∧ (PyData.shownKv es).length = es.length ∧ PyData.showableKv es = true ∧ PyData.depthKv es ≤ m ∧ noLsKv es = true := by
    intro es
    induction es with
    | nil => exact fun _ => ⟨Nat.zero_le _, rfl, rfl, Nat.zero_le _, rfl⟩
    | cons p es ih =>
      intro h
      obtain ⟨k, v⟩ := p
      obtain ⟨a, b, c, d, e⟩ := ih fun q hq => h q (List.mem_cons_of_mem _ hq)
      obtain ⟨h1, h2⟩ := h (k, v) (List.mem_cons_self ..)
      have l1 := h1.len
      have l2 := h2.len
      have dk := h1.dp
      refine ⟨?_, ?_, ?_, ?_, ?_⟩
      · simp only [PyData.shownKv, List.map_cons, List.sum_cons, List.length_cons, Nat.add_mul]
        rw [Str.length_append, Str.length_append]
        have : ((": " : String) : Str).length = 2 := rfl
        have l1 : k.shown.length ≤ n := l1
        have l2 : v.shown.length ≤ n := l2
        omega
      · simp only [PyData.shownKv, List.length_cons, b]
      · simp only [PyData.showableKv, c, h1.sh, h2.sh, Bool.and_self]
      · simp only [PyData.depthKv]
        have d1 : k.depth ≤ 0 := dk
        have d2 : v.depth ≤ m := h2.dp
        omega
      · have q1 : noLs k = true := h1.nl rfl
        have q2 : noLs v = true := h2.nl rfl
        simp only [noLsKv, e, q1, q2, Bool.and_self]
  obtain ⟨a, b, c, d, e⟩ := go es h
  refine ⟨?_, by simp only [PyData.showable]; exact c, Nat.succ_le_succ d, (fun z => nomatch z), fun _ => by rw [noLs]; exact e⟩
  simp only [PyData.shown]
  have := dictText_len_le (PyData.shownKv es)
  have e2 : es.length * (2 * n + 4) = es.length * (2 * n + 2) + 2 * es.length := by
    rw [show 2 * n + 4 = 2 * n + 2 + 2 by omega, Nat.mul_add, Nat.mul_comm es.length 2]
  omega
theorem putD_mem {κ : Type} [DecidableEq κ] {acc : List (κ × D)} {k : κ} {d : D} {q : κ × D} (h : q ∈ putD acc k d) : q ∈ acc ∨ (q.1 = k ∧ q.2 = d) := by
  unfold putD at h
  split at h
  · obtain ⟨p, hp, rfl⟩ := List.mem_map.mp h
    by_cases e : p.1 = k
    · rw [if_pos e]
      exact .inr ⟨e, rfl⟩
    · rw [if_neg e]
      exact .inl hp
  · rcases List.mem_append.mp h with h | h
    · exact .inl h
    · rw [List.mem_singleton.mp h]
      exact .inr ⟨rfl, rfl⟩
theorem putD_len {κ : Type} [DecidableEq κ] {acc : List (κ × D)} {k : κ} {d : D} : (putD acc k d).length ≤ acc.length + 1 := by
  unfold putD
  split
  · rw [List.length_map]
    omega
  · rw [List.length_append]
    exact Nat.le_refl _
theorem mergeP_mem {P : L2.Key → D → Prop} : ∀ (ps acc : List (L2.Key × D)), (∀ q, q ∈ acc → P q.1 q.2) → (∀ q, q ∈ ps → P q.1 q.2) → ∀ q, q ∈ mergeP acc ps → P q.1 q.2
  | [], acc, h, _ => h
  | p :: ps, acc, h, h2 => mergeP_mem ps (putD acc p.1 p.2) (fun q hq => by
    rcases putD_mem hq with hq | ⟨e1, e2⟩
    · exact h q hq
    · rw [e1, e2]
      exact h2 p (List.mem_cons_self ..)) fun q hq => h2 q (List.mem_cons_of_mem _ hq)
theorem mergeP_len : ∀ (ps acc : List (L2.Key × D)), (mergeP acc ps).length ≤ acc.length + ps.length
  | [], acc => Nat.le_refl _
  | p :: ps, acc => by
    show (mergeP (putD acc p.1 p.2) ps).length ≤ _
    have := mergeP_len ps (putD acc p.1 p.2)
    have := putD_len (acc := acc) (k := p.1) (d := p.2)
    rw [List.length_cons]
    omega
theorem Kd.dictP {n m : Nat} {ps : List (L2.Key × D)} (h : ∀ p, p ∈ ps → Kd false n 0 (kD p.1) ∧ Kd false n m p.2) : Kd false (ps.length * (2 * n + 4) + 3) (m + 1) (.dict ((mergeP [] ps).map fun p => (kD p.1, p.2))) := by
  have k := Kd.dict (n := n) (m := m) (es := (mergeP [] ps).map fun p => (kD p.1, p.2)) fun p hp => by
    obtain ⟨q, hq, rfl⟩ := List.mem_map.mp hp
    exact mergeP_mem (P := fun a b => Kd false n 0 (kD a) ∧ Kd false n m b) ps [] (fun q hq => nomatch hq) h q hq
  refine k.mono ?_ (Nat.le_refl _)
  rw [List.length_map]
  have := mergeP_len ps []
  have h2 : (mergeP [] ps).length ≤ ps.length := by
    simpa using this
  have := Nat.mul_le_mul_right (2 * n + 4) h2
  omega
@[simp] theorem opStr_i {i : Int} (h : okr (.int i) = true) : opStr (.d (.int i)) = some (.d (.str (PyData.int i).shown)) := by
  show (if okr (.int i) = true then some (PyData.int i).shown else none).map _ = _
  rw [if_pos h]
  rfl
theorem opStr_t {ds : List D} (h : okr (.tuple ds) = true) : opStr (.d (.tuple ds)) = some (.d (.str (PyData.tuple ds).shown)) := by
  show (if okr (.tuple ds) = true then some (PyData.tuple ds).shown else none).map _ = _
  rw [if_pos h]
  rfl
theorem opStr_l {ds : List D} (h : okr (.list ds) = true) : opStr (.d (.list ds)) = some (.d (.str (PyData.list ds).shown)) := by
  show (if okr (.list ds) = true then some (PyData.list ds).shown else none).map _ = _
  rw [if_pos h]
  rfl
theorem Kd.ok {n m : Nat} {d : D} (h : Kd true n m d) (x : n ≤ 16000000) (y : m ≤ 60) : Vm.okr d = true := by
  unfold Vm.okr
  rw [Bool.and_eq_true, Bool.and_eq_true, decide_eq_true_eq]
  exact ⟨⟨okd_iff.mpr ⟨h.pl rfl, Nat.le_trans h.dp y⟩, h.sh⟩, Nat.le_trans h.len x⟩
theorem Kd.okd {n m : Nat} {d : D} (h : Kd true n m d) (y : m ≤ 60) : Vm.okd d = true := okd_iff.mpr ⟨h.pl rfl, Nat.le_trans h.dp y⟩
/-- a tuple of ints -/
theorem Kd.ints {b : Bool} {k : Nat} {ns : List Int} (hk : k ≤ 1918) (h : ∀ i, i ∈ ns → Bs k i) : Kd b (ns.length * (k + 4) + 2) 1 (.tuple (ns.map PyData.int)) := by
  have := Kd.tuple (b := b) (n := k + 2) (m := 0) (ds := ns.map PyData.int) fun d hd => by
    obtain ⟨i, hi, rfl⟩ := List.mem_map.mp hd
    exact Kd.int (h i hi) hk
  rw [List.length_map] at this
  exact this
theorem Kd.intsL {k : Nat} {ns : List Int} (hk : k ≤ 1918) (h : ∀ i, i ∈ ns → Bs k i) : Kd true (ns.length * (k + 4) + 2) 1 (.list (ns.map PyData.int)) := by
  have := Kd.list (n := k + 2) (m := 0) (ds := ns.map PyData.int) fun d hd => by
    obtain ⟨i, hi, rfl⟩ := List.mem_map.mp hd
    exact Kd.int (h i hi) hk
  rw [List.length_map] at this
  exact this
@[simp] theorem mulNegOne {i : Int} : -1 * i = -i := by omega
end Vm

namespace Vm
open PySem L2 PySem.Spec PyProof.Rows
section
variable {prog : Program} {w : World} {A : Around} {E : Value → Shared → Prop} {s : Shared}
theorem applied_rev {sl : Addr} {vl vu vs : Value} {n : Nat} {Q : Int × Int × Nat → Shared → Prop} (hs : s.heap.IsSliceOf sl vl vu vs) (pl : IsPart vl none) (pu : IsPart vu none) (ps : IsPart vs (some (-1)))
    (h : Q ((n : Int) - 1, -1, n) s) : wpAny (model prog w) A (Builtin.Slice.sliceApplied (.ref sl) (pure (n : Int))) Q E s := by
  obtain ⟨ob, hob, hcb, hdb⟩ := id hs
  unfold Builtin.Slice.sliceApplied Builtin.Slice.sliceFields
  refine wpAny_bind (wpAny_bind (wpAny_field hob hdb (x := vl) rfl (wpAny_bind (wpAny_field hob hdb (x := vu) rfl (wpAny_bind (wpAny_field hob hdb (x := vs) rfl (wpAny_pure ?_)))))))
  refine wpAny_bind (HT.slicePart_ ps ?_)
  show wpAny _ _ (if ((-1 : Int) == 0) = true then _ else _) _ _ s
  rw [if_neg (by decide)]
  refine wpAny_bind (HT.slicePart_ pl (wpAny_bind (HT.slicePart_ pu (wpAny_bind (wpAny_pure ?_)))))
  show wpAny _ _ (match Builtin.Slice.sliceAdjust none none (-1) (n : Int) with | (a, b) => pure (a, (-1 : Int), Builtin.Slice.slicePlaces a b (-1))) _ _ s
  have e1 : Builtin.Slice.sliceAdjust none none (-1) (n : Int) = ((n : Int) - 1, -1) := rfl
  have e2 : Builtin.Slice.slicePlaces ((n : Int) - 1) (-1) (-1) = n := by
    unfold Builtin.Slice.slicePlaces
    have q1 : ¬ ((-1 : Int) > 0) := by decide
    simp only [q1, if_false]
    by_cases hn : (-1 : Int) < (n : Int) - 1
    · simp only [hn, if_true]
      rw [show (- -1 : Int) = 1 by decide, Int.ediv_one]
      omega
    · simp only [hn, if_false]
      omega
  rw [e1]
  show wpAny _ _ (pure ((n : Int) - 1, (-1 : Int), Builtin.Slice.slicePlaces ((n : Int) - 1) (-1) (-1))) _ _ s
  rw [e2]
  exact wpAny_pure h
theorem fm_congr {α β : Type} {f g : α → Option β} : ∀ {l : List α}, (∀ m, m ∈ l → f m = g m) → l.filterMap f = l.filterMap g
  | [], _ => rfl
  | x :: l, h => by
    rw [List.filterMap_cons, List.filterMap_cons, h x (List.mem_cons_self ..), fm_congr fun m hm => h m (List.mem_cons_of_mem _ hm)]
theorem pick_rev (xs : Array Value) : ((List.range xs.size).filterMap fun (m : Nat) => xs[(((xs.size : Nat) : Int) - 1 + (m : Int) * (-1)).toNat]?).toArray = xs.toList.reverse.toArray := by
  have e : (List.range xs.size).filterMap (fun (m : Nat) => xs[(((xs.size : Nat) : Int) - 1 + (m : Int) * (-1)).toNat]?) = ((List.range xs.size).map (fun k => xs.size - 1 - k)).filterMap (xs[·]?) := by
    rw [List.filterMap_map]
    refine fm_congr fun m hm => ?_
    have hm := List.mem_range.mp hm
    show xs[_]? = xs[xs.size - 1 - m]?
    congr 1
    omega
  rw [e, PySem.W.krv_range, List.filterMap_reverse, PySem.W.krv_all]
theorem getItem_tuple_rev {t sl : Addr} {items : Array Value} {vl vu vs : Value} {Q : Value → Shared → Prop} (ht : IsTup s.heap t items) (hs : s.heap.IsSliceOf sl vl vu vs) (pl : IsPart vl none) (pu : IsPart vu none) (ps : IsPart vs (some (-1)))
    (h : Q (.ref s.heap.objs.size) { s with heap := s.heap.push { cls := .type "tuple", data := .seq items.toList.reverse.toArray } }) (hsz : items.size ≤ sizeLine) : wpAny (model prog w) A (getItem (.ref t) (.ref sl)) Q E s := by
  have hz : sizeOk (.seq items.toList.reverse.toArray) := by
    show items.toList.reverse.toArray.size ≤ sizeLine
    rw [List.size_toArray, List.length_reverse, Array.length_toList]
    exact hsz
  obtain ⟨ob, hob, hcb, hdb⟩ := id hs
  have ty : s.TypeIs (.ref sl) "slice" := ⟨ob, hob, hcb⟩
  unfold getItem
  try with_reducible refine wpAny_holding ?_
  first | refine wpAny_bind (wpAny_pure ?_) | skip
  refine wpAny_bind (wpAny_sequenceKey ht.typeIs (by decide) ?_)
  refine wpAny_bind (wpAny_callSpecial?_slot (name := Str.ofString "__getitem__") ht.typeIs PyProof.Rows.slot_tuple_getitem (wpAny_call_entry PyProof.Rows.slot_tuple_getitem ht.typeIs entry_tuple_getitem ?_ (args_tuple_getitem _ _)))
  show wpAny _ _ (Builtin.Tuple.tupleItemsOf (.ref t) >>= _) _ _ s
  refine wpAny_bind (tupleItemsOf_ ht ?_)
  refine wpAny_bind (wpAny_typeOf ty ?_)
  rw [if_pos (by decide)]
  refine wpAny_bind (applied_rev hs pl pu ps ?_)
  have no : ¬ ((((items.size : Nat) : Int) - 1 == 0 && (-1 : Int) == 1 && items.size == items.size) = true) := by
    intro q
    rw [Bool.and_eq_true, Bool.and_eq_true] at q
    exact absurd q.1.2 (by decide)
  show wpAny _ _ (if (((items.size : Nat) : Int) - 1 == 0 && (-1 : Int) == 1 && items.size == items.size) = true then _ else _) _ _ s
  rw [if_neg no, pick_rev]
  first
    | exact wpAny_bind (m := Builtin.Tuple.tupleExact _) (wpAny_newObj_type (wpAny_pure ⟨_, rfl, wpAny_pure h⟩) hz)
    | exact wpAny_bind (m := Builtin.Tuple.tupleExact _) (wpAny_newObj_type (wpAny_bind (wpAny_pure (wpAny_pure ⟨_, rfl, wpAny_pure h⟩))) hz)
    | exact wpAny_bind (wpAny_bind (m := Builtin.Tuple.tupleExact _) (wpAny_newObj_type (wpAny_pure (wpAny_pure ⟨_, rfl, wpAny_pure h⟩)) hz))
    | exact wpAny_bind (wpAny_bind (m := Builtin.Tuple.tupleExact _) (wpAny_newObj_type (wpAny_pure ⟨_, rfl, wpAny_pure h⟩) hz))
end
def tRevA (K : Fg) (te : TE) : TE := fun σ H Q => te σ H fun x H1 => ∃ a xs, x = .ref a ∧ ((SqL K H1 a xs ∧ ∀ p, H1 p = none → Q (.ref p) (upd H1 p (.lst xs.reverse))) ∨ (SqT K H1 a xs ∧ ∀ p, H1 p = none → Q (.ref p) (upd H1 p (.tup xs.reverse))))
theorem pe_revA {X : Cx} {e : Expr} {te : TE} {k : Nat} {p1 p2 p3 pos : Pos} (he : PE X e te) : PE X (.Subscript e (.Slice none none (some (.UnaryOp .USub (.Constant (.int 1) k p1) p2)) p3) pos) (tRevA X.K te) := by
  refine ⟨fun pins s σ H Q I h => ?_⟩
  refine Subscript_ (thn (he.run pins s σ H _ I h) fun v s1 ⟨x, H1, I1, r1, q1⟩ => ?_)
  obtain ⟨a, xs, ex, q1⟩ := q1
  subst ex
  cases r1
  have hst : PO X (some (.UnaryOp .USub (.Constant (.int 1) k p1) p2)) (tPart (tUn (rU fun i => .int (-i)) (tC (.int 1)))) := po_some (pe_un un_neg pe_int)
  refine wpAny_Slice (thn (po_none.run pins s1 σ H1 (fun o H2 => o = none ∧ H2 = H1) I1 ⟨rfl, rfl⟩) fun vl s2 ⟨l, H2, I2, pl, el, e2⟩ => ?_)
  subst el e2
  refine thn (po_none.run pins s2 σ H2 (fun o H3 => o = none ∧ H3 = H2) I2 ⟨rfl, rfl⟩) fun vu s3 ⟨u, H3, I3, pu, eu, e3⟩ => ?_
  subst eu e3
  refine thn (hst.run pins s3 σ H3 (fun o H4 => o = some (-1) ∧ H4 = H3) I3 ⟨1, rfl, -1, rfl, rfl, rfl⟩) fun vs s4 ⟨o, H4, I4, ps, eo, e4⟩ => ?_
  subst eo e4
  have I5 : Inv X pins σ H4 { s4 with heap := s4.heap.push { cls := .type "slice", data := .fields #[vl, vu, vs] } } := I4.kept (t' := s4.toks) fun b ob q => Heap.get?_push_of_some _ q
  show wpAny (model X.prog X.w) X.A (subscriptTail e (.Slice none none (some (.UnaryOp .USub (.Constant (.int 1) k p1) p2)) p3) (.ref a) (.ref s4.heap.objs.size)) (EP X pins σ Q) X.xe { s4 with heap := s4.heap.push { cls := .type "slice", data := .fields #[vl, vu, vs] } }
  rcases q1 with ⟨hx, q⟩ | ⟨hx, q⟩
  · obtain ⟨its, r, ht, hz⟩ := I5.list hx
    have hl := r.length
    refine tail_any (ops := [.ref a, .ref s4.heap.objs.size]) ht.isList.typeIs (PySem.slot_list_getitem.lookup) ?_ (by with_unfolding_all rfl)
    refine wpAny_getItem_list_slice ht.isList (Heap.IsSliceOf.new _ vl vu vs) pl pu ps (by decide) ?_ (by rw [List.size_toArray]; omega)
    rw [PySem.W.krv_pick]
    refine ⟨.ref _, _, I5.laid (t' := s4.toks) (o := .lst xs.reverse) (fun b ob q => Heap.get?_push_of_some _ q) (Nat.le_refl _) ?_, rfl, q _ (I5.hok.fresh (Nat.le_refl _))⟩
    exact ⟨by rw [List.length_reverse]; exact hz, _, 0, r.reverse, Heap.get?_push_size _ rfl⟩
  · obtain ⟨its, r, ht, hz⟩ := I5.tuple hx
    have hl := r.length
    refine tail_any (ops := [.ref a, .ref s4.heap.objs.size]) ht.typeIs (PyProof.Rows.slot_tuple_getitem.lookup) ?_ (by with_unfolding_all rfl)
    refine getItem_tuple_rev ht (Heap.IsSliceOf.new _ vl vu vs) pl pu ps ?_ (by rw [List.size_toArray]; omega)
    refine ⟨.ref _, _, I5.laid (t' := s4.toks) (o := .tup xs.reverse) (fun b ob q => Heap.get?_push_of_some _ q) (Nat.le_refl _) ?_, rfl, q _ (I5.hok.fresh (Nat.le_refl _))⟩
    exact ⟨by rw [List.length_reverse]; exact hz, its.reverse, r.reverse, ⟨_, Heap.get?_push_size _ rfl, rfl, _, rfl⟩⟩
def opRevA : Od → Option Rv
  | .d (.list ds) => some (.new (.l ds.reverse))
  | .d (.tuple ds) => some (.d (.tuple ds.reverse))
  | _ => none
section
variable {X : Cx} {ec : EC} {W : WX}
theorem e_revA {e : Expr} {c : CE} {k : Nat} {p1 p2 p3 pos : Pos} (he : Ex X ec W e c) : Ex X ec W (.Subscript e (.Slice none none (some (.UnaryOp .USub (.Constant (.int 1) k p1) p2)) p3) pos) (cOp1 opRevA c) :=
  (pe_revA he).imp fun _ _ _ h => op1 (K := X.K) (r := fun x H Q => ∃ a xs, x = .ref a ∧ ((SqL X.K H a xs ∧ ∀ p, H p = none → Q (.ref p) (upd H p (.lst xs.reverse))) ∨ (SqT X.K H a xs ∧ ∀ p, H p = none → Q (.ref p) (upd H p (.tup xs.reverse))))) (fun w x o rv Q hx h e q => by
    unfold opRevA at e
    split at e
    · cases e
      obtain ⟨p, vs, rfl, hs, ra⟩ := h.list hx
      exact ⟨p, vs, rfl, .inl ⟨hs, fun p' hp => post_lst q ra.reverse hp hx⟩⟩
    · cases e
      obtain ⟨p, vs, rfl, hs, ra⟩ := h.tup
      exact ⟨p, vs, rfl, .inr ⟨SqT.of (hx _ _ hs), fun p' hp => post_tup q ra.reverse hp hx⟩⟩
    · cases e) h
end
@[simp] theorem opRevA_l {ds : List D} : opRevA (.d (.list ds)) = some (.new (.l ds.reverse)) := Eq.trans rfl rfl
@[simp] theorem opRevA_t {ds : List D} : opRevA (.d (.tuple ds)) = some (.d (.tuple ds.reverse)) := Eq.trans rfl rfl
theorem ok_p {p p' : Cell} {r : List Cell} {x : D} {v : List Sl} {Q : Rv → List Cell → Prop} (h : Q (.d x) (p' :: r)) : Ok (fin (p :: r) (.rt (.d x) ⟨v, p' :: r⟩)) Q := ok_d (by simpa using h)
theorem ok_0 {x : D} {v : List Sl} {Q : Rv → List Cell → Prop} {m : List Cell} (h : Q (.d x) []) : Ok (fin [] (.rt (.d x) ⟨v, m⟩)) Q := ok_d h
theorem w_rD {P : Po} {s : S} {e : CE} {x : D} (m1 : List Cell) (h : ∃ v, Is (e s) (.ok (.d x) ⟨v, m1⟩)) (q : ∀ v, P.rt (.d x) ⟨v, m1⟩) : Wp (cRet e) P s := by
  obtain ⟨v, h⟩ := h
  exact w_ret h (q v)
theorem w_rDS {P : Po} {s : S} {e : CE} {d : CS} {x : D} (m1 : List Cell) (h : ∃ v, Is (e s) (.ok (.d x) ⟨v, m1⟩)) (q : ∀ v, P.rt (.d x) ⟨v, m1⟩) : Wp (cSeq (cRet e) d) P s := by
  obtain ⟨v, h⟩ := h
  exact w_retS h (q v)
end Vm

namespace Vm
open PySem PySem.Spec PyProof.Rows L2
/-! ### an exception that was caught is known from then on -/
section
variable {X : Cx} {pins : List (Addr × Obj)} {σ τ : L2.St} {H G : Hp} {s t : Shared} {a C : Addr} {oe : Obj}
theorem inv_know (I : Inv X pins σ H s) (I0 : Inv X pins τ G t) (h0 : t.heap.get? a = none) (na : H a = none) (J : PySem.W.InstAt s.heap a oe C none) : Inv X pins σ (upd H a (ExO a C)) s := by
  have other : ∀ {b : Addr} {u : HO}, H b = some u → upd H a (ExO a C) b = some u := fun {b u} e => by
    rw [upd_ne (ne_of_none e na)]
    exact e
  have live : ∀ {b : Addr}, (∃ o, t.heap.get? b = some o) → b ≠ a := fun {b} ⟨o, e⟩ z => by
    rw [z, h0] at e
    cases e
  have off : ∀ {b : Addr}, b ≠ a → upd H a (ExO a C) b = H b := fun {b} h => upd_ne h
  have inst : ∀ {b : Addr} {o : Obj}, X.s_0.heap.get? b = some o → b ∉ X.ex → b ≠ a := fun {b o} e hx => live (I0.base.there b o e hx)
  refine ⟨I.ok, I.os, I.bare, ⟨I.base.keep, I.base.slot, fun b o e n hx => ?_, I.base.there, fun b xs e => other (I.base.tups b xs e), fun b o u e => other (I.base.frzs b o u e), fun b ps e => ?_⟩, I.loc, I.cell, ?_, fun y c e => ?_, fun p hp => ?_, fun b u e => ?_, I.len⟩
  · rw [off (inst e hx)]
    exact I.base.free b o e n hx
  · obtain ⟨more, z⟩ := I.base.tbls b ps e
    exact ⟨more, other z⟩
  · obtain ⟨m, ⟨oL, _, _, e1, _⟩, _⟩ := I0.loc
    rw [off (live ⟨_, e1⟩)]
    exact I.free
  · obtain ⟨v, o, e1, _⟩ := I0.cell y c e
    rw [off (live ⟨_, e1⟩)]
    exact I.freeC y c e
  · obtain ⟨z1, z2, z3⟩ := I.pin p hp
    refine ⟨z1, ?_, z3⟩
    rw [off (live ⟨_, (I0.pin p hp).1⟩)]
    exact z2
  · by_cases hb : b = a
    · subst hb
      rw [upd_same] at e
      cases e
      exact ⟨⟨oe, J⟩, ⟨oe, J.at_⟩, fun h1 h2 ⟨o, j⟩ st => ⟨o, ⟨st _ j.at_, j.cls, j.no, by
        have q := j.dict
        cases hd : o.dict with
        | none => trivial
        | some dx =>
          rw [hd] at q
          exact q.elim⟩⟩⟩
    · rw [upd_ne hb] at e
      exact (I.hok b u e).stay (fun _ _ _ q => q) (fun _ q => other q) fun _ _ q => other q
end
/-- wished of an exception that 'except x as n' may take: its object is kept at j, then n goes -/
def wKeep (K : Fg) (c : Value) (i j : Nat) (Wo : WX) (D : Ends) : WX := fun cls d σ H =>
  ∃ b, PySem.W.exmOne K cls c = some b ∧ (b = true → d = none ∧ ∃ C, cls = .ref C ∧ ∀ a, H a = none → D.nx (((σ.set i (some (.ref a))).set j (some (.ref a))).set i none) (upd H a (ExO a C))) ∧ (b = false → Wo cls d σ H)
section
variable {X : Cx} {x n y : Str} {c : Value} {i j : Nat} {body : List Stmt} {np p1 p2 p3 pos pos' : Pos} {tb : WX → TS} {Wo : WX}
theorem ps_try_keep (st : X.stack = X.env :: X.outer) (fr : X.env.frame = some X.env.locals) (hN : X.N.Nodup) (hi : X.N[i]? = some n) (hj : X.N[j]? = some y) (kn : X.env.kindOf n = some .local) (ky : X.env.kindOf y = some .local) (hc : Names X x c) (tk : Takes X Wo)
    (hdn : (n == ("__debug__" : Str)) = false) (hcn : (n == ("__classdict__" : Str)) = false)
    (hb : ∀ (W : WX) (pn : List (Addr × Obj)) (xe : Value → Shared → Prop), Takes (X.tr pn xe) W → PassesOwn (model X.prog X.w) X.A X.env xe → PSs (X.tr pn xe) body (tb W)) :
    PS X (.Try body [.ExceptHandler (some (.Name x np)) (some n) [.Assign [.Name y p1] (.Name n p2) p3] pos'] [] [] pos) (fun D σ H => tb (wKeep X.K c i j Wo D) D σ H) := by
  constructor
  intro pins s σ H D I h
  have okX := I.ok
  have afr : X.A.frames = some (X.env :: X.outer) := by rw [okX.frames, st]
  have vn : Vis X.env.scope n := .inl kn
  have ln : L2.Loc X.env.scope n := .inl kn
  refine wpAny_Try_except ?_
  refine wpAny_mono ((hb (wKeep X.K c i j Wo D) (X.pn ++ pins) (fun v t1 => wpAny (model X.prog X.w) X.A (noteFrame v X.env) (fun _ t2 => wpAny (model X.prog X.w) X.A (setFlight v none) (fun _ t3 =>
    wpAny (model X.prog X.w) X.A (handleBy v X.env [.ExceptHandler (some (.Name x np)) (some n) [.Assign [.Name y p1] (.Name n p2) p3] pos']) (SP X pins D) X.xe t3) X.xe t2) X.xe t1) (fun u t z => ?_) PassesOwn.looking).run [] s σ H D (I.toTry _) h) (fun fl t hz => ?_) (fun v t z => z)
  · obtain ⟨a, B, tI, pins', τ, G, cls, d, rfl, J', nb, up, sky, na, os, ag, b, hb1, hyes, hno⟩ := z
    have J : Inv X pins τ G tI := J'.ofTry okX
    have sky2 : Sky B (X.env :: X.outer) a (Zc cls d) X.env.locals t.heap := by rw [← st]; exact sky
    show wpAny (model X.prog X.w) X.A (noteFrame (.ref a) X.env) _ _ _
    refine Sky.land Zc.steady afr fr sky2 fun g1 fl1 up1 => ?_
    have J1 : Inv X pins τ G { t with heap := g1 } := J.landed nb fl1.1 (up.trans up1) os ag
    obtain ⟨oe1, vs1, at1, zc1, dd1⟩ := fl1.there
    have aFr : a ∉ frs (X.env :: X.outer) := fun hm => by
      obtain ⟨_, o', e', hnf⟩ := fl1.2.2.1.mem hm
      rw [at1] at e'
      cases e'
      exact hnf _ dd1
    have aL : a ≠ X.env.locals := fun z => aFr (List.mem_filterMap.mpr ⟨X.env, List.mem_cons_self, by rw [fr, z]⟩)
    have aF : a ∉ X.fs := fun hm => by
      obtain ⟨e, he, q⟩ := List.mem_filterMap.mp hm
      exact aFr (List.mem_filterMap.mpr ⟨e, List.mem_cons_of_mem _ he, q⟩)
    have aNew : tI.heap.get? a = none := by
      cases q : tI.heap.get? a with
      | none => rfl
      | some o =>
        have e1 := nb a o q (by rw [st]; exact aFr)
        rw [fl1.2.1] at e1
        cases e1
    have S1 := J1.suite at1 dd1 na aL aF
    refine wpAny_handleBy_cons (codeAny_handlers_test ?_) (by intro q; cases q)
    have ty1 : PySem.W.Looks (model X.prog X.w) g1 (typeOf (.ref a)) cls := fun A Q E s k q => wpAny_typeOf_ref (k _ _ at1) (by rw [zc1.1]; exact q)
    have ma := PySem.W.exm_one (M := model X.prog X.w) (J1.kIn) ty1 hb1
    have tst : ∀ {Q : Value → Shared → Prop} {E : Value → Shared → Prop}, Q c { t with heap := g1 } → wpAny (model X.prog X.w) (X.A.mark (some (.ref a))) (eval (.Name x np) X.env) Q E { t with heap := g1 } := fun {Q E} q => by
      obtain ⟨g, nd, hm | ⟨hm, hv, hnn⟩⟩ := hc
      · exact ld_glob (X := X.suite a ((a, oe1) :: (X.pn ++ pins))) S1 g hm q nd
      · exact ld_blt (X := X.suite a ((a, oe1) :: (X.pn ++ pins))) S1 g hm hv q hnn nd
    refine tst (ma.here ?_)
    cases b with
    | true =>
      refine codeAny_handlers_suite_as ?_
      refine HandSPX.lands_againZ fl1 fun g2 fl2 up2 => ?_
      have J2 : Inv X pins τ G { t with heap := g2 } := J.landed nb fl2.1 ((up.trans up1).trans up2) os ag
      obtain ⟨oe2, vs2, at2, zc2, dd2⟩ := fl2.there
      have S2 := J2.suite at2 dd2 na aL aF
      obtain ⟨ed, CC, ec, hgo⟩ := hyes rfl
      subst ed ec
      refine store_ok (X := X.suite a ((a, oe2) :: (X.pn ++ pins))) (v := .ref a) S2 hN hi ln rfl (fun s5 S5 => ?_) (.inr kn)
      have keep : PSs (X.suite a ((a, oe2) :: (X.pn ++ pins))) [.Assign [.Name y p1] (.Name n p2) p3] _ := pss_one (ps_set (X := X.suite a ((a, oe2) :: (X.pn ++ pins))) (i := j) hN hj (.inl ky) (pe_var (X := X.suite a ((a, oe2) :: (X.pn ++ pins))) (i := i) (pos := p2) hi vn hdn hcn) rfl (.inr ky))
      refine wpAny_mono (keep.run [] s5 _ G { nx := fun σ' H' => σ' = ((τ.set i (some (.ref a))).set j (some (.ref a))) ∧ H' = G, rt := fun _ _ => False } S5 ?_) (fun f s6 hz6 => ?_) (fun _ _ z => False.elim z)
      · have hl : i < τ.length := by
          rw [J2.len]
          exact (List.getElem?_eq_some_iff.mp hi).1
        exact ⟨.ref a, List.getElem?_set_self hl, rfl, rfl⟩
      · cases f with
        | next =>
          obtain ⟨σ6, H6, S6, e1, e2⟩ := hz6
          subst e1 e2
          refine gone_ok (X := X.suite a ((a, oe2) :: (X.pn ++ pins))) S6 hN hi kn fun s7 S7 => ?_
          have hp := S7.pin (a, oe2) (List.mem_append.mpr (.inl List.mem_cons_self))
          have JJ : PySem.W.InstAt s7.heap a oe2 CC none := by
            obtain ⟨oc, od, oda, osl⟩ := oe2
            obtain ⟨h1, h2⟩ := zc2
            dsimp only at h1 h2 dd2
            subst h1 h2 dd2
            exact ⟨hp.1, rfl, rfl, trivial⟩
          exact ⟨_, _, inv_know (S7.unsuite okX) J aNew na JJ, hgo a na⟩
        | brk =>
          obtain ⟨_, _, _, q6⟩ := hz6
          exact q6.elim
        | cont =>
          obtain ⟨_, _, _, q6⟩ := hz6
          exact q6.elim
        | ret u =>
          obtain ⟨_, _, _, _, _, q6⟩ := hz6
          exact q6.elim
    | false =>
      show wpAny _ X.A (handleBy (.ref a) X.env []) _ _ _
      refine wpAny_handleBy_nil ?_
      obtain ⟨k1, k2, k3, o9, v9, T9, oT9, t9, he9, hz9, hd9, h19, hr9⟩ := id fl1
      unfold PySem.passOn
      refine wpAny_bind (wpAny_field he9 hd9 h19 ?_)
      rw [if_neg (show ¬ ((Value.ref T9 == Value.none) = true) from by simp)]
      have up9 : wpAny (model X.prog X.w) X.A (setFlight (.ref a) X.env.frame) (fun _ t4 => wpAny (model X.prog X.w) X.A (throw (.ref a) : Sem Flow) (SP X pins D) X.xe t4) X.xe { t with heap := g1 } := by
        rw [fr]
        refine HandSPX.setFlight_upZ fl1 fun g4 hh4 up4 => wpAny_throw (tk _ _ ?_)
        exact ⟨a, B, tI, pins, τ, G, cls, d, rfl, J, nb, (up.trans up1).trans up4, .inr (.inr (by rw [st]; exact hh4)), na, os, ag, hno rfl⟩
      first
        | exact wpAny_bind (wpAny_pure (wpAny_bind up9))
        | exact wpAny_bind up9
  · cases fl with
    | next =>
      obtain ⟨τ, G, J', q⟩ := hz
      exact wpAny_execs_nil ⟨τ, G, J'.ofTry okX, q⟩
    | brk =>
      obtain ⟨τ, G, J', q⟩ := hz
      exact ⟨τ, G, J'.ofTry okX, q⟩
    | cont =>
      obtain ⟨τ, G, J', q⟩ := hz
      exact ⟨τ, G, J'.ofTry okX, q⟩
    | ret u =>
      obtain ⟨v, τ, G, J', r, q⟩ := hz
      exact ⟨v, τ, G, J'.ofTry okX, r, q⟩
end
end Vm

namespace Vm
open PySem PySem.Spec PyProof.Rows L2
/-! ### isinstance of an exception that was kept -/
/-- the classes of the program's exceptions -/
def isSub (m n : String) : Bool := m == n || n == "BallError" || n == "ValueError"
def rIsX (K : Fg) : List V → Hp → VK → Prop := fun xs H Q => ∃ (a C : Addr) (c : V) (cv : Value) (b : Bool), xs = [.ref a, c] ∧ H a = some (ExO a C) ∧ ExcC K C ∧ ClsV c cv ∧ PySem.W.kitOne K (.ref C) cv = some b ∧ Q (.bl b) H
theorem call_isX {X : Cx} : CallR X (.builtin "isinstance") (rIsX X.K) := by
  intro pins s σ H xs us Q I r h
  obtain ⟨a, C, c, cv, b, rfl, hH, cl, k, e, q⟩ := h
  obtain ⟨u1, u2, rfl, r1, r2⟩ := vals2 r
  have e2 := k.eq r2
  subst e2
  cases (show u1 = Value.ref a from r1)
  obtain ⟨⟨oe, J⟩, _, _⟩ := I.hok a _ hH
  exact PySem.W.kia_one (PySem.W.handS_kitx_exc cl.hg cl.hk cl.hs cl.hd cl.ha cl.hn cl.ht cl.hm) I.kIn J e (fun z => nomatch z) fun tk => ⟨.bl b, H, I.tok tk, rfl, q⟩
def rIsXT (K : Fg) : List V → Hp → VK → Prop := fun xs H Q => ∃ (a C tp : Addr) (cs : List V) (us : List Value) (b : Bool), xs = [.ref a, .ref tp] ∧ H a = some (ExO a C) ∧ ExcC K C ∧ H tp = some (.tup cs) ∧ Paired ClsV cs us ∧ PySem.W.kitAny K (.ref C) us = some b ∧ Q (.bl b) H
theorem call_isXT {X : Cx} : CallR X (.builtin "isinstance") (rIsXT X.K) := by
  intro pins s σ H xs us Q I r h
  obtain ⟨a, C, tp, cs, ws, b, rfl, hH, cl, hT, k, e, q⟩ := h
  obtain ⟨u1, u2, rfl, r1, r2⟩ := vals2 r
  cases (show u1 = Value.ref a from r1)
  cases (show u2 = Value.ref tp from r2)
  obtain ⟨⟨oe, J⟩, _, _⟩ := I.hok a _ hH
  obtain ⟨_, its, rv, o, h1, h2, n, h3⟩ := (show ObjOk X.prog X.w H s.heap tp (.tup cs) from I.hok tp _ hT)
  have e3 := ClsV.all k rv
  subst e3
  obtain ⟨oc, od, dt, sl⟩ := o
  simp only at h2 h3
  subst h2 h3
  exact PySem.W.kia_tup (PySem.W.handS_kitx_exc cl.hg cl.hk cl.hs cl.hd cl.ha cl.hn cl.ht cl.hm) I.kIn J h1 e (fun z => nomatch z) fun tk => ⟨.bl b, H, I.tok tk, rfl, q⟩
/-- what isinstance says of the known exceptions and the class x -/
structure IsF (K : Fg) (mg : Str → Option Value) (ec : EC) (x : Str) (n : String) : Prop where
  ex : ∃ v c, ClsV v c ∧ (mg x = some c ∨ (mg x = none ∧ bootBuiltins x = some c ∧ x ≠ "__name__")) ∧ ∀ m, m ∈ ec.X → PySem.W.kitOne K (.ref (ec.f m)) c = some (isSub m n)
theorem clsV_rel {v : V} {c : Value} (h : ClsV v c) : RelV v c := by
  cases h <;> rfl
theorem isF_own {K : Fg} {mg : Str → Option Value} {ec : EC} {x : Str} {n : String} {D : Addr} (h : mg x = some (.ref D)) (k : ∀ m, m ∈ ec.X → PySem.W.kitOne K (.ref (ec.f m)) (.ref D) = some (isSub m n)) : IsF K mg ec x n := ⟨_, _, .own D, .inl h, k⟩
theorem isF_ty {K : Fg} {mg : Str → Option Value} {ec : EC} {x : Str} {n T : String} (h : mg x = none) (hb : bootBuiltins x = some (.type T)) (hn : x ≠ "__name__") (k : ∀ m, m ∈ ec.X → PySem.W.kitOne K (.ref (ec.f m)) (.type T) = some (isSub m n)) : IsF K mg ec x n := ⟨_, _, .ty T, .inr ⟨h, hb, hn⟩, k⟩
theorem pe_cn {X : Cx} {x : Str} {v : V} {c : Value} {pos : Pos} (hg : Gl X x) (cv : ClsV v c) (h : X.mg x = some c ∨ (X.mg x = none ∧ bootBuiltins x = some c ∧ x ≠ "__name__")) (hd : (x == ("__debug__" : Str)) = false) : PE X (.Name x pos) (tC v) := by
  rcases h with h | ⟨h1, h2, h3⟩
  · exact pe_glob hg h (clsV_rel cv) hd
  · exact pe_bltn hg h1 h2 (clsV_rel cv) h3 hd
def cIsX (i : Nat) (n : String) : CE := fun s => match s.v[i]? with
  | some (.x m) => .ok (.d (.bool (isSub m n))) s
  | _ => .bad
def cIsXT (i : Nat) (ns : List String) : CE := fun s => match s.v[i]? with
  | some (.x m) => .ok (.d (.bool (ns.any (isSub m)))) s
  | _ => .bad
/-- x is None, x holds a caught exception, or a value -/
def cIsN (i : Nat) : CE := fun s => match s.v[i]? with
  | some (.x m) => .ok (.d (.bool false)) s
  | some (.d d) => .ok (.d (.bool (isNone d))) s
  | _ => .bad
section
variable {X : Cx} {ec : EC} {W : WX}
theorem e_isX (i : Nat) {y x : Str} {n : String} {p p1 p2 pos : Pos} (hm : X.mg "isinstance" = none) (F : IsF X.K X.mg ec x n) (C : ∀ m, m ∈ ec.X → ExcC X.K (ec.f m)) (hN : X.N[i]? = some y := by rfl) (hv : Vis X.env.scope y := by first | exact Or.inl rfl | exact Or.inr (Or.inl rfl) | exact Or.inr (Or.inr rfl)) (hd : (y == ("__debug__" : Str)) = false := by decide)
    (hcd : (y == ("__classdict__" : Str)) = false := by decide) (hg : Gl X "isinstance" := by rfl) (hg2 : Gl X x := by rfl) (hd2 : (x == ("__debug__" : Str)) = false := by decide) (h0 : starEach [Expr.Name x p2] X.env = (false, eval (Expr.Name x p2) X.env) :: starEach [] X.env := by rfl)
    (h1 : starEach [Expr.Name y p1, .Name x p2] X.env = (false, eval (.Name y p1) X.env) :: starEach [.Name x p2] X.env := by rfl) (h2 : (backTo pos (starEach [Expr.Name x p2] X.env)).any (·.1) = false := by rfl) : Ex X ec W (.Call (.Name "isinstance" p) [.Name y p1, .Name x p2] [] pos) (cIsX i n) := by
  obtain ⟨v, c, cv, nm, k⟩ := F.ex
  refine (pe_callB call_isX hg hm boot_isinstance (pa_cons (pe_var hN hv hd hcd) (pa_cons (pe_cn hg2 cv nm hd2) pa_nil h0) h1) (by decide) (by decide) h1 h2).imp fun σ H Q h => ?_
  obtain ⟨w, s, rfl, hr, h⟩ := h
  unfold cIsX at h
  split at h
  · rename_i m e
    obtain ⟨hm, a, e1, e2, e3⟩ := hr.slot i _ e
    exact ⟨.ref a, e1, a, ec.f m, v, c, isSub m n, rfl, e3, C m hm, cv, k m hm, h (.bl _) w (Le.refl w) hr (.bl _) .d⟩
  · exact h.elim
theorem isN_rd {i : Nat} {σ : L2.St} {H : Hp} {Q : VK} (h : rd X.K ec W (cIsN i) σ H Q) : L2.tOp (rIsV false) (tVar i) (tC .non) σ H Q := by
  obtain ⟨w, s, rfl, hr, h⟩ := h
  unfold cIsN at h
  split at h
  · rename_i m e
    obtain ⟨hm, a, e1, e2, e3⟩ := hr.slot i _ e
    exact ⟨.ref a, e1, .inl ⟨rfl, h (.bl _) w (Le.refl w) hr (.bl _) .d⟩⟩
  · rename_i d e
    obtain ⟨v, e1, rp⟩ := hr.slot i _ e
    refine ⟨v, e1, .inl ⟨rfl, ?_⟩⟩
    have q := h (.bl (isNone d)) w (Le.refl w) hr (.bl _) .d
    have eq : isNone d = decide (v = .non) := by
      cases rp <;> simp [isNone]
    rw [← eq]
    exact q
  · exact h.elim
theorem e_isN (i : Nat) {y : Str} {p1 p2 pos : Pos} {k : Nat} (hN : X.N[i]? = some y := by rfl) (hv : Vis X.env.scope y := by first | exact Or.inl rfl | exact Or.inr (Or.inl rfl) | exact Or.inr (Or.inr rfl)) (hd : (y == ("__debug__" : Str)) = false := by decide)
    (hcd : (y == ("__classdict__" : Str)) = false := by decide) : Ex X ec W (.Compare (.Name y p1) [.Is] [.Constant .none k p2] pos) (cIsN i) :=
  (pe_cmpR op_isV (pe_var hN hv hd hcd) pe_non (by first | exact nomark _ | rfl)).imp fun σ H Q h => isN_rd h
theorem t_isN (i : Nat) {y : Str} {p1 p2 pos : Pos} {k : Nat} (hN : X.N[i]? = some y := by rfl) (hv : Vis X.env.scope y := by first | exact Or.inl rfl | exact Or.inr (Or.inl rfl) | exact Or.inr (Or.inr rfl)) (hd : (y == ("__debug__" : Str)) = false := by decide)
    (hcd : (y == ("__classdict__" : Str)) = false := by decide) : Tx X ec W (.Compare (.Name y p1) [.Is] [.Constant .none k p2] pos) (cB (cIsN i)) :=
  (pt_cmpR op_isV (pe_var hN hv hd hcd) pe_non (by first | exact nomark _ | rfl)).imp fun σ H Q h => isN_rd (cB_rd h)
/-- a tuple of classes -/
inductive Cns (X : Cx) (ec : EC) : List Expr → List V → List Value → List String → Prop where
  | nil : Cns X ec [] [] [] []
  | cons {x : Str} {v : V} {c : Value} {n : String} {p : Pos} {es : List Expr} {vs : List V} {cs : List Value} {ns : List String} (hg : Gl X x) (hd : (x == ("__debug__" : Str)) = false) (cv : ClsV v c) (nm : X.mg x = some c ∨ (X.mg x = none ∧ bootBuiltins x = some c ∧ x ≠ "__name__"))
      (k : ∀ m, m ∈ ec.X → PySem.W.kitOne X.K (.ref (ec.f m)) c = some (isSub m n)) (hs : starEach (.Name x p :: es) X.env = (false, eval (.Name x p) X.env) :: starEach es X.env) (r : Cns X ec es vs cs ns) : Cns X ec (.Name x p :: es) (v :: vs) (c :: cs) (n :: ns)
def CnX (X : Cx) (ec : EC) (es : List Expr) (ns : List String) : Prop := ∃ vs cs, Cns X ec es vs cs ns
theorem cn_nil : CnX X ec [] [] := ⟨_, _, .nil⟩
theorem cn_cons {x : Str} {n : String} {p : Pos} {es : List Expr} {ns : List String} (F : IsF X.K X.mg ec x n) (r : CnX X ec es ns) (hg : Gl X x := by rfl) (hd : (x == ("__debug__" : Str)) = false := by decide) (hs : starEach (.Name x p :: es) X.env = (false, eval (.Name x p) X.env) :: starEach es X.env := by rfl) : CnX X ec (.Name x p :: es) (n :: ns) := by
  obtain ⟨v, c, cv, nm, k⟩ := F.ex
  obtain ⟨vs, cs, r⟩ := r
  exact ⟨_, _, .cons hg hd cv nm k hs r⟩
theorem Cns.pa {es : List Expr} {vs : List V} {cs : List Value} {ns : List String} (h : Cns X ec es vs cs ns) : PA X es (fun σ H Q => Q vs H) ∧ Paired ClsV vs cs ∧ ∀ m, m ∈ ec.X → PySem.W.kitAny X.K (.ref (ec.f m)) cs = some (ns.any (isSub m)) := by
  induction h with
  | nil => exact ⟨pa_nil, .nil, fun m _ => rfl⟩
  | cons hg hd cv nm k hs r ih =>
    obtain ⟨i1, i2, i3⟩ := ih
    refine ⟨PA.imp (pa_cons (pe_cn hg cv nm hd) i1 hs) fun σ H Q h => h, .cons cv i2, fun m hm => ?_⟩
    unfold PySem.W.kitAny
    rw [k m hm]
    rename_i n _ _ _ _ _
    cases e : isSub m n with
    | true => simp [e]
    | false =>
      simp only [List.any_cons, e, Bool.false_or]
      exact i3 m hm
theorem e_isXT (i : Nat) {y : Str} {ns : List String} {es : List Expr} {p p1 p2 pos : Pos} {x2 : Nat} (hm : X.mg "isinstance" = none) (F : CnX X ec es ns) (C : ∀ m, m ∈ ec.X → ExcC X.K (ec.f m)) (hN : X.N[i]? = some y := by rfl) (hv : Vis X.env.scope y := by first | exact Or.inl rfl | exact Or.inr (Or.inl rfl) | exact Or.inr (Or.inr rfl)) (hd : (y == ("__debug__" : Str)) = false := by decide)
    (hcd : (y == ("__classdict__" : Str)) = false := by decide) (hg : Gl X "isinstance" := by rfl) (h0 : starEach [Expr.Tuple es x2 p2] X.env = (false, eval (Expr.Tuple es x2 p2) X.env) :: starEach [] X.env := by rfl)
    (h1 : starEach [Expr.Name y p1, .Tuple es x2 p2] X.env = (false, eval (.Name y p1) X.env) :: starEach [.Tuple es x2 p2] X.env := by rfl) (h2 : (backTo pos (starEach [Expr.Tuple es x2 p2] X.env)).any (·.1) = false := by rfl) (hl : ns.length ≤ 20 := by decide) : Ex X ec W (.Call (.Name "isinstance" p) [.Name y p1, .Tuple es x2 p2] [] pos) (cIsXT i ns) := by
  obtain ⟨vs, cs, F⟩ := F
  obtain ⟨pa, pc, k⟩ := F.pa
  have ln : vs.length ≤ 20 := by
    have go : ∀ {es : List Expr} {vs : List V} {cs : List Value} {ns : List String}, Cns X ec es vs cs ns → vs.length = ns.length := fun h => by
      induction h with
      | nil => rfl
      | cons _ _ _ _ _ _ _ ih => rw [List.length_cons, List.length_cons, ih]
    rw [go F]
    exact hl
  refine (pe_callB call_isXT hg hm boot_isinstance (pa_cons (pe_var hN hv hd hcd) (pa_cons (pe_tup pa) pa_nil h0) h1) (by decide) (by decide) h1 h2).imp fun σ H Q h => ?_
  obtain ⟨w, s, rfl, hr, h⟩ := h
  unfold cIsXT at h
  split at h
  · rename_i m e
    obtain ⟨hm, a, e1, e2, e3⟩ := hr.slot i _ e
    refine ⟨.ref a, e1, Nat.le_trans ln (by decide), fun tp htp => ⟨a, ec.f m, tp, vs, cs, _, rfl, ?_, C m hm, upd_same, pc, k m hm, ?_⟩⟩
    · rw [upd_ne (ne_of_none e3 htp)]
      exact e3
    · exact h (.bl _) ⟨w.G, w.r, w.F, upd w.H tp (.tup vs)⟩ (gr_new htp).le (hr.grow (gr_new htp)) (.bl _) .d
  · exact h.elim
theorem takesN {X : Cx} : Takes X (fun _ _ _ _ => False) := fun _ _ ⟨_, _, _, _, _, _, _, _, _, _, _, _, _, _, _, _, z⟩ => z.elim
/-! ### try: .., except x as n: y = n -/
def cTry (L : List String) (i j : Nat) (b : CS) : CS := fun s => match b s with
  | .ex e s1 => if L.contains e = true then .nx ⟨((s1.v.set i .u).set j (.x e)).set i .u, s1.m⟩ else .bad
  | o => o
structure CatF (K : Fg) (mg : Str → Option Value) (ec : EC) (x : Str) (L : List String) : Prop where
  ex : ∃ c, (mg x = some c ∨ (mg x = none ∧ bootBuiltins x = some c ∧ x ≠ "__name__")) ∧ ∀ m, m ∈ L → m ∈ ec.X ∧ PySem.W.exmOne K (.ref (ec.f m)) c = some true
theorem s_try (L : List String) (i j : Nat) {x n y : Str} {body : List Stmt} {cb : CS} {np p1 p2 p3 pos pos' : Pos} (st : X.stack = X.env :: X.outer) (fr : X.env.frame = some X.env.locals) (hN : X.N.Nodup) (tk : Takes X W) (F : CatF X.K X.mg ec x L)
    (hb : ∀ (W : WX) (pn : List (Addr × Obj)) (xe : Value → Shared → Prop), Takes (X.tr pn xe) W → PassesOwn (model X.prog X.w) X.A X.env xe → PSs (X.tr pn xe) body (rdS X.K ec W cb))
    (hi : X.N[i]? = some n := by rfl) (hj : X.N[j]? = some y := by rfl) (kn : X.env.kindOf n = some .local := by rfl) (ky : X.env.kindOf y = some .local := by rfl) (hg : Gl X x := by rfl) (hd : (x == ("__debug__" : Str)) = false := by decide)
    (hdn : (n == ("__debug__" : Str)) = false := by decide) (hcn : (n == ("__classdict__" : Str)) = false := by decide) (hij : i ≠ j := by decide) :
    Sx X ec W (.Try body [.ExceptHandler (some (.Name x np)) (some n) [.Assign [.Name y p1] (.Name n p2) p3] pos'] [] [] pos) (cTry L i j cb) := by
  obtain ⟨c, nm, kx⟩ := F.ex
  refine (ps_try_keep (c := c) (Wo := fun _ _ _ _ => False) st fr hN hi hj kn ky ⟨hg, hd, nm⟩ takesN hdn hcn hb).imp fun D σ H h => ?_
  obtain ⟨w, s, rfl, hr, h⟩ := h
  refine ⟨w, s, rfl, hr, ?_⟩
  unfold cTry at h
  cases eb : cb s with
  | bad => rw [eb] at h; exact h
  | nx s1 => rw [eb] at h; exact h
  | rt a s1 => rw [eb] at h; exact h
  | bk s1 => rw [eb] at h; exact h
  | ct s1 => rw [eb] at h; exact h
  | ex e s1 =>
    rw [eb] at h
    by_cases hL : L.contains e = true
    · simp only [hL, if_true] at h
      obtain ⟨m1, m2⟩ := kx e (by simpa using hL)
      intro σ' w' le r
      refine ⟨true, m2, fun _ => ⟨rfl, _, rfl, fun a na => ?_⟩, fun z => nomatch z⟩
      have g := gr_new (w := w') (o := ExO a (ec.f e)) na
      have nr : a ∉ w'.r := fun m => by
        obtain ⟨o, ho⟩ := r.live m
        rw [na] at ho
        cases ho
      have r1 := ((r.grow g).set i (x := .ref a) (sl := .u) trivial).set j (x := .ref a) (sl := .x e) ⟨m1, a, rfl, nr, upd_same⟩
      exact h _ ⟨w'.G, w'.r, w'.F, upd w'.H a (ExO a (ec.f e))⟩ (le.trans g.le) (rel_wipe r1 [i])
    · simp only [hL, if_false] at h
      exact h.elim
end
end Vm
namespace Vm
open PySem L2 PySem.Spec PyProof.Rows
section
variable {X : Cx} {ec : EC} {W : WX}
/-! ### a written dict of one pair, its key reckoned -/
def cDisp1 (ck cw : CE) : CE := fun s => (cCons ck (cCons cw cNil) s).bind fun ds s1 => match ds with
  | [.int i, y] => .ok (.new (.k [(.inl i, y)])) s1
  | _ => .bad
theorem rd_imp {c : CE} {σ : L2.St} {H : Hp} {Q Q' : VK} (h : rd X.K ec W c σ H Q) (i : ∀ x H, Q x H → Q' x H) : rd X.K ec W c σ H Q' := by
  obtain ⟨w, s, e, hr, h⟩ := h
  exact ⟨w, s, e, hr, Res.mono h (fun rv s' q x w' le r' o f => i _ _ (q x w' le r' o f)) fun _ _ q => q⟩
theorem e_disp1 {k v : Expr} {ck cw : CE} {pos : Pos} (hk : Ex X ec W k ck) (hv : Ex X ec W v cw) : Ex X ec W (.Dict [some k] [v] pos) (cDisp1 ck cw) := by
  refine (pe_disp (pps_cons hk hv pps_nil) rfl rfl (fun z => by cases z) (by simp)).imp fun σ H Q h => ?_
  obtain ⟨w, s, rfl, hr, h⟩ := h
  intro p hp
  have hh := hr.hold (o := .dK []) hp
  have back : ∀ {w' : Wd} {s' : S}, Le (w.hold p (.dK [])) w' → Rel ec X.K w' σ s' → Le w (w'.f w.F) ∧ Rel ec X.K (w'.f w.F) σ s' := fun {w' s'} le r => by
    have hq' : ∀ q, w.F q → w'.F q := fun q hq => by
      rw [le.s]
      exact .inl hq
    exact ⟨(Le.hold hp).trans (le.ch w.F), r.f (fun q hq => r.mem.fo q (hq' q hq)) (hr.mem.tab.back r.mem.tab) fun q hq => r.mem.nv.2 q (hq' q hq)⟩
  have go : rdA X.K ec W (cCons ck (cCons cw cNil)) σ (upd w.H p (.dK [])) (fun vs H2 => ∃ x y, vs = [x, y] ∧ H2 p = some (.dK []) ∧ ∃ kvs : List (L2.Key × V), [(x, y)] = kvs.map (fun kv => (kV kv.1, kv.2)) ∧ kvs.length ≤ 15 ∧ Q (.ref p) (upd H2 p (.dK (mergeK [] kvs)))) := by
    refine ⟨w.hold p (.dK []), s, rfl, hh, ?_⟩
    unfold cDisp1 at h
    refine Res.mono h.bind (fun ds s1 q vs w1 le1 r1 ra => ?_) fun e s' q w' le r => by
      obtain ⟨a, b⟩ := back le r
      exact q (w'.f w.F) a b
    split at q
    · rename_i i y
      cases ra with
      | cons r0 ra =>
        cases r0
        rename_i vs
        have hF : w1.F p := by
          rw [le1.s]
          exact .inr rfl
        have hH : w1.H p = some (.dK []) := le1.kN (p := p) upd_same (fun m => by
          have m : p ∈ w.r := m
          obtain ⟨u, hu⟩ := hr.live m
          rw [hp] at hu
          cases hu) noTb_k
        cases ra with
        | cons r2 ra2 =>
          rename_i v2 vs2
          cases ra2
          refine ⟨_, _, rfl, hH, [(.inl i, v2)], rfl, by simp, ?_⟩
          have r2' := r1.rehold (o := .dK (mergeK [] [(.inl i, v2)])) hF hH noTb_k (fun _ z => by cases z) (hr.new0 hp)
          obtain ⟨h3, h4, _⟩ := r1.mem.fo p hF
          have r3 : Rel ec X.K ⟨w1.G, w1.r, w.F, upd w1.H p (.dK (mergeK [] [(.inl i, v2)]))⟩ σ s1 := r2'.f (fun q hq => r2'.mem.fo q (by
            show w1.F q
            rw [le1.s]
            exact .inl hq)) (hr.mem.tab.back r2'.mem.tab) fun q hq => r2'.mem.nv.2 q (by
            show w1.F q
            rw [le1.s]
            exact .inl hq)
          have l3 : Le w ⟨w1.G, w1.r, w.F, upd w1.H p (.dK (mergeK [] [(.inl i, v2)]))⟩ := by
            have l1 := (Le.hold (o := .dK []) hp).trans (le1.ch w.F)
            refine ⟨l1.g, fun a u e n => ?_, l1.p, l1.f, rfl⟩
            obtain ⟨u', e', q'⟩ := l1.k a u e n
            refine ⟨u', ?_, q'⟩
            show upd w1.H p _ a = some u'
            rw [upd_ne (ne_of_none e hp)]
            exact e'
          have nf : ¬ w.F p := fun z => by
            obtain ⟨_, _, u, hu⟩ := hr.mem.fo p z
            rw [hp] at hu
            cases hu
          exact q (.ref p) ⟨w1.G, w1.r, w.F, upd w1.H p (.dK (mergeK [] [(.inl i, v2)]))⟩ l3 r3 ⟨p, rfl, ⟨h4, nf⟩, h3, _, upd_same, kv_merge (vs := [v2]) (ds := [y]) (acc := []) (acd := []) [.inl i] (.cons r2 .nil) .nil⟩ fun _ _ p' e => by
            cases e
            exact hp
    · exact q.elim
  refine rd_imp (rd_cons go) fun x H1 g1 => rd_imp (rd_cons g1) fun y H2 g2 => ?_
  obtain ⟨w2, s2, rfl, hr2, g3⟩ := g2
  obtain ⟨_, _, e, a, b⟩ := g3 [] w2 (Le.refl w2) hr2 .nil
  cases e
  exact ⟨a, b⟩
/-! ### two places of lists, stored one behind the other -/
def kPut (co ci : CE) (d : D) (K : S → Out) (s1 : S) : Out := (cv co s1).out fun o s2 => (cv ci s2).out fun i s3 => match o, i with
  | .ref n, .d (.int k) => match s3.m[n]? with
    | some (.l xs) => match ixN xs.length k with
      | some j => K ⟨s3.v, s3.m.set n (.l (xs.set j d))⟩
      | none => .bad
    | _ => .bad
  | _, _ => .bad
def cPut2 (co ci co2 ci2 ce : CE) : CS := fun s => (cv ce s).out fun v s1 => match v with
  | .d (.tuple [x, y]) => kPut co ci x (kPut co2 ci2 y .nx) s1
  | _ => .bad
theorem kPut_ok {De : Ends} {co ci : CE} {d : D} {K : S → Out} {w : Wd} {σ : L2.St} {s : S} {v : V} {Q : L2.St → Hp → Prop} (hr : Rel ec X.K w σ s) (rp : Rp X.K w.G v d) (h : OOk X.K ec W De w (kPut co ci d K s))
    (hk : ∀ w' s', Le w w' → Rel ec X.K w' σ s' → OOk X.K ec W De w' (K s') → Q σ w'.H) : gSub (rd X.K ec W co) (rd X.K ec W ci) rSetL v σ w.H Q := by
  unfold kPut at h
  refine run_ev hr h fun xo w2 s2 o le2 r2 o2 hn2 h2 => ?_
  refine run_ev r2 (h2.le le2) fun xi w3 s3 i le3 r3 o3 hn3 h3 => ?_
  replace h3 := h3.le le3
  split at h3
  · rename_i n k
    split at h3
    · rename_i xs em
      split at h3
      · rename_i j ej
        obtain ⟨p, rfl, hp⟩ := o2
        have o3 : Rp X.K w3.G xi (.int k) := o3
        cases o3
        have hp3 := le3.cell hp
        obtain ⟨hg, vs, hv, ra⟩ := r3.mem.cell n p _ hp3 em
        have rd' : Rp X.K w3.G v d := Rp.mono (le2.trans le3).g _ _ rp
        obtain ⟨r4, le4⟩ := cell_set (c := .l (xs.set j d)) (o := .lst (vs.set j v)) r3 hp3 hg ⟨hg, _, upd_same, ra.set rd' j⟩
        refine ⟨p, vs, k, j, rfl, rfl, hv, by rw [ra.length]; exact ej, ?_⟩
        exact hk ⟨w3.G, w3.r, w3.F, upd w3.H p (.lst (vs.set j v))⟩ _ ((le2.trans le3).trans le4) r4 (h3.le le4)
      · exact h3.elim
    · exact h3.elim
  · exact h3.elim
theorem s_put2 {o i o2 i2 e : Expr} {co ci co2 ci2 ce : CE} {p1 p2 pt pos : Pos} {kt} (ho : Ex X ec W o co) (hi : Ex X ec W i ci) (ho2 : Ex X ec W o2 co2) (hi2 : Ex X ec W i2 ci2) (he : Ex X ec W e ce) (hcal : X.calm = true := by rfl)
    (hs : swapsWithSole [.Tuple [.Subscript o i p1, .Subscript o2 i2 p2] kt pt] e pos.line X.env = pure false := by rfl) (hw : swappedStores [.Tuple [.Subscript o i p1, .Subscript o2 i2 p2] kt pt] e X.env = pure none := by rfl)
    (h1 : (assignEach [.Tuple [.Subscript o i p1, .Subscript o2 i2 p2] kt pt] X.env).map (·.2) = [assign (.Tuple [.Subscript o i p1, .Subscript o2 i2 p2] kt pt) X.env] := by rfl)
    (hn : (assignEach [.Subscript o i p1, .Subscript o2 i2 p2] X.env).length = 2 := by rfl) (hst : (assignEach [.Subscript o i p1, .Subscript o2 i2 p2] X.env).findIdx? (·.1) = none := by rfl)
    (c1 : (assignEach [.Subscript o i p1, .Subscript o2 i2 p2] X.env).map (·.2) = assign (.Subscript o i p1) X.env :: (assignEach [.Subscript o2 i2 p2] X.env).map (·.2) := by rfl)
    (c2 : (assignEach [.Subscript o2 i2 p2] X.env).map (·.2) = assign (.Subscript o2 i2 p2) X.env :: (assignEach [] X.env).map (·.2) := by rfl)
    (ha : ∀ v, assign (.Subscript o i p1) X.env v = (do
      let ov ← holding [v] (eval o X.env)
      let iv ← holding [v, ov] (eval i X.env)
      standAt p1
      holding [v, ov, iv] (setItem ov iv v)
      release [v, ov, iv] []) := by intro _; rfl)
    (ha2 : ∀ v, assign (.Subscript o2 i2 p2) X.env v = (do
      let ov ← holding [v] (eval o2 X.env)
      let iv ← holding [v, ov] (eval i2 X.env)
      standAt p2
      holding [v, ov, iv] (setItem ov iv v)
      release [v, ov, iv] []) := by intro _; rfl) : Sx X ec W (.Assign [.Tuple [.Subscript o i p1, .Subscript o2 i2 p2] kt pt] e pos) (cPut2 co ci co2 ci2 ce) :=
  (ps_asg he (pg_tup hcal (pgs_cons (pg_sub ho hi set_list ha) (pgs_cons (pg_sub ho2 hi2 set_list ha2) pgs_nil c2) c1) hn hst) hs hw h1).imp fun De σ H h => by
    obtain ⟨w, s, rfl, hr, h⟩ := h
    refine run_ev hr h fun xv w1 s1 v le1 r1 o1 hn1 h1 => ?_
    replace h1 := h1.le le1
    split at h1
    · rename_i x y
      have o1 : Rp X.K w1.G xv (.tuple [x, y]) := o1
      cases o1 with
      | tup hs ra =>
        cases ra with
        | cons ra1 ra =>
          cases ra with
          | cons ra2 ra3 =>
            cases ra3
            refine ⟨_, _, rfl, SqT.of (r1.mem.ext _ _ hs), rfl, ?_⟩
            refine ⟨_, _, rfl, ?_⟩
            refine kPut_ok r1 ra1 h1 fun w2 s2 le2 r2 h2 => ?_
            refine ⟨_, _, rfl, ?_⟩
            refine kPut_ok r2 (Rp.mono le2.g _ _ ra2) h2 fun w3 s3 le3 r3 h3 => ?_
            exact ⟨rfl, h3 σ w3 (Le.refl w3) r3⟩
    · exact h1.elim
end
end Vm
namespace Vm
open PySem L2 PySem.Spec PyProof.Rows
section
variable {X : Cx} {ec : EC} {W : WX}
/-! ### xs[i] += e, ints -/
def rGetL (K : Fg) : V → V → Hp → VK → Prop := fun o i H Q => ∃ p xs k x, o = .ref p ∧ i = .int k ∧ 0 ≤ k ∧ k < 4611686018427387904 ∧ SqL K H p xs ∧ xs[k.toNat]? = some x ∧ Q x H
theorem get_list : PGet X (rGetL X.K) := by
  intro pins s σ H o i ov iv Q I ro ri h
  obtain ⟨p, xs, k, x, rfl, rfl, h0, hk, hp, hx, q⟩ := h
  cases ro
  obtain ⟨t, rfl⟩ := ri
  obtain ⟨its, r, pl, hz⟩ := I.list hp
  obtain ⟨w, ew, rw'⟩ := r.get hx
  exact wpAny_getItem_list pl.isList h0 (by omega) (by simpa using ew) ⟨x, H, I, rw', q⟩
def cAugL (co ci ce : CE) : CS := fun s => (cv co s).out fun o s1 => (cv ci s1).out fun i s2 => match o, i with
  | .ref n, .d (.int k) => match s2.m[n]? with
    | some (.l xs) => if 0 ≤ k ∧ k < 4611686018427387904 then match xs[k.toNat]? with
      | some (.int a) => (cv ce s2).out fun v s3 => match v with
        | .d (.int b) => match s3.m[n]? with
          | some (.l ys) => match ixN ys.length k with
            | some j => .nx ⟨s3.v, s3.m.set n (.l (ys.set j (.int (a + b))))⟩
            | none => .bad
          | _ => .bad
        | _ => .bad
      | _ => .bad
      else .bad
    | _ => .bad
  | _, _ => .bad
theorem s_augL {o i e : Expr} {co ci ce : CE} {tpos pos : Pos} (ho : Ex X ec W o co) (hi : Ex X ec W i ci) (he : Ex X ec W e ce)
    (ha : ∀ ov iv new, augStore i ov iv new = (do holding [new, ov, iv] (setItem ov iv new); release [new, ov, iv] []; pure .next) := by intros; rfl) : Sx X ec W (.AugAssign (.Subscript o i tpos) .Add e pos) (cAugL co ci ce) :=
  (ps_augS ho hi get_list he ip_add set_list ha).imp fun De σ H h => by
    obtain ⟨w, s, rfl, hr, h⟩ := h
    refine run_ev hr h fun xo w1 s1 o le1 r1 o1 hn1 h1 => ?_
    refine run_ev r1 (h1.le le1) fun xi w2 s2 i le2 r2 o2 hn2 h2 => ?_
    replace h2 := h2.le le2
    split at h2
    · rename_i n k
      split at h2
      · rename_i xs em
        split at h2
        · rename_i hk
          split at h2
          · rename_i a ea
            obtain ⟨p, rfl, hp⟩ := o1
            have o2 : Rp X.K w2.G xi (.int k) := o2
            cases o2
            have hp2 := le2.cell hp
            obtain ⟨hg, vs, hv, ra⟩ := r2.mem.cell n p _ hp2 em
            obtain ⟨x, hx, rx⟩ := ra.get ea
            cases rx
            refine ⟨p, vs, k, .int a, rfl, rfl, hk.1, hk.2, SqL.of hv, hx, ?_⟩
            refine run_ev r2 h2 fun xv w3 s3 v le3 r3 o3 hn3 h3 => ?_
            replace h3 := h3.le le3
            split at h3
            · rename_i b
              split at h3
              · rename_i ys em3
                split at h3
                · rename_i j ej
                  have o3 : Rp X.K w3.G xv (.int b) := o3
                  cases o3
                  have hp3 := le3.cell hp2
                  obtain ⟨hg3, vs3, hv3, ra3⟩ := r3.mem.cell n p _ hp3 em3
                  refine ⟨a, b, rfl, rfl, ?_⟩
                  obtain ⟨r4, le4⟩ := cell_set (c := .l (ys.set j (.int (a + b)))) (o := .lst (vs3.set j (.int (a + b)))) r3 hp3 hg3 ⟨hg3, _, upd_same, ra3.set (.int (a + b)) j⟩
                  refine ⟨p, vs3, k, j, rfl, rfl, hv3, by rw [ra3.length]; exact ej, ?_⟩
                  exact h3 σ ⟨w3.G, w3.r, w3.F, upd w3.H p (.lst (vs3.set j (.int (a + b))))⟩ le4 r4
                · exact h3.elim
              · exact h3.elim
            · exact h3.elim
          · exact h2.elim
        · exact h2.elim
      · exact h2.elim
    · exact h2.elim
end
end Vm
namespace Vm
open PySem L2 PySem.Spec PyProof.Rows
/-! ### sorted(xs), ints -/
def sortA (ns : List Int) : List Int := (sortD ns).reverse
theorem sortA_perm (ns : List Int) : (sortA ns).Perm ns := (List.reverse_perm _).trans (sortD_perm ns)
theorem sortA_pw (ns : List Int) : (sortA ns).Pairwise (· ≤ ·) := List.pairwise_reverse.mpr (sortD_pw ns)
def opSorted : Od → Option Rv
  | .d (.list ds) => (ints? ds).bind fun ns => some (.new (.l ((sortA ns).map PyData.int)))
  | _ => none
theorem s_sorted {K : Fg} : Op1S K (fun v H Q => rSortedI K [v] H Q) opSorted := by
  intro w x o rv Q hx h e q
  unfold opSorted at e
  split at e
  · obtain ⟨ns, e1, e2⟩ := Option.bind_eq_some_iff.mp e
    cases e2
    rw [ints?_eq e1] at h
    obtain ⟨p, vs, rfl, hs, ra⟩ := h.list hx
    rw [rp_ints ra] at hs
    refine ⟨p, ns, rfl, hs, fun ns' l h1 h2 hl => ?_⟩
    have e3 : ns' = sortA ns := (h1.trans (sortA_perm ns).symm).eq_of_pairwise (fun a b _ _ h1 h2 => Int.le_antisymm h1 h2) h2 (sortA_pw ns)
    rw [e3]
    exact post_lst q (rpAll_ints _) hl hx
  · cases e
end Vm

namespace Vm
open PySem PySem.Spec PyProof.Rows L2
/-! ### a lambda without parameters, handed to a def that asks it -/
def askOf (cb : CE) (v : List Sl) : List Cell → RF := fun m => match cb ⟨v, m⟩ with
  | .ok a s => .ok a s.m
  | .ex e s => .ex e s.m
  | .bad => .bad
def cAsk (ask : List Cell → RF) : CE := fun s => match s.v[0]? with
  | some Sl.f => (ask s.m).toR s.v
  | _ => .bad
abbrev Hn := (List Cell → RF) → List Cell → RF
def runH (n : Nat) (c : (List Cell → RF) → CS) : Hn := fun ask m => fin m (c ask ⟨[Sl.f] ++ List.replicate (n - 1) .u, m⟩)
def RF.noEx (v : List Sl) : RF → R Rv
  | .ok a m => .ok a ⟨v, m⟩
  | _ => .bad
def cHeard (fh : Hn) (cb : CE) : CE := fun s => (fh (askOf cb s.v) s.m).noEx s.v
abbrev EC.at (ec : EC) (w : Wd) (lf : Addr) : EC := { ec with w := w, lf := lf }
/-- the context of the asking def's body -/
abbrev zx (X : Cx) (N : List Str) (x : Str) (st : Stmt) (g : Addr) (cdv : Value) (s : Shared) (H : Hp) : Cx := cxOf C8.CX0 X.prog X.w X.K X.mg X.base N x (defScope st) g cdv X.A X.stack s H C8.E0
section
variable {X : Cx} {pins : List (Addr × Obj)} {σ : L2.St} {H : Hp} {s : Shared}
/-- the lambda is made: its code object is a new one, or stands in the table -/
theorem lam_made {T : List (Addr × Str)} {c P : Addr} {pr : Arguments} {bd : Expr} {sc : Scope} {pos : Pos} {E : Value → Shared → Prop} {Q : Value → Shared → Prop} (I : Inv X pins σ H s) (B : LamX.TabB X.base X.mg c P) (hcd : X.env.code = .ref c)
    (mT : (P, X.env.qual ++ "<lambda>") ∈ T) (one : ∀ p ∈ T, p.1 = P → p.2 = X.env.qual ++ "<lambda>") (tT : LamX.Tabs T H) (df : defaultsOf pr X.env = ([], [])) (fr : ∀ y ∈ sc.names, y.2 = .free → ∃ c, X.env.cells.lookup y.1 = some c)
    (go : ∀ (f k : Addr) (pm ctv : Value) (H1 : Hp) (s' : Shared), Inv X pins σ H1 s' → LamX.ExtN H H1 → (∀ b, H1 b = Option.none → H b = Option.none) → LamX.Tabs T H1 →
      s'.heap.get? f = some (PySem.W.kla_obj "<lambda>" (X.env.qual ++ "<lambda>") pr bd sc (cloFrom X.env.cells sc.names []) pm k ctv) → H1 f = none → f ∉ frs X.stack → H1 k = some (LamX.CodeO k (X.env.qual ++ "<lambda>")) → Q (.ref f) s') :
    wpAny (model X.prog X.w) X.A (eval (.Lambda pr bd sc pos) X.env) Q E s := by
  obtain ⟨ps, atP, trip, am⟩ := tT _ mT
  refine PySem.W.kla_eval df ?_
  have bmP : s.heap.BuiltinsAt X.mg P := B.bm.keeps I.bk
  have oP : s.heap.get? P = some { cls := .none, data := .fields ps } := I.hok P _ atP
  have out : ∀ f, s.heap.objs.size ≤ f → f ∉ frs X.stack := fun f hf z => by
    rcases List.mem_cons.mp (I.stkSub _ z) with e | e
    · have h1 := I.lt
      rw [← e] at h1
      exact Nat.lt_irrefl _ (Nat.lt_of_lt_of_le h1 hf)
    · exact I.nofs hf e
  rcases look : codeAmong pos ps.toList with _ | cv
  · refine PySem.W.kla_makeFunction (mg := X.mg) (c := c) (P := P) (ps := ps) (closure_ok fr) I.ok.glob (I.mod.glob.keeps I.bk) hcd (B.code.keeps I.bk) oP trip look B.gP bmP fun k ctv g tk hx hge hlt rec tb => ?_
    obtain ⟨k2, ok, vs, t, e2, hoc, hd, hv⟩ := rec
    cases e2
    have big : s.heap.objs.size ≤ g.objs.size := Nat.le_trans hge (Nat.le_of_lt hlt)
    have nk : H k = none := I.hok.fresh hge
    have J := LamX.inv_table (t' := tk) (more := #[rawInt pos.line, rawInt pos.col, .ref k]) (h' := g.push (PySem.W.kla_obj "<lambda>" (X.env.qual ++ "<lambda>") pr bd sc (cloFrom X.env.cells sc.names []) ((X.mg "__name__").getD .none) k ctv)) I atP
      (fun b o hb e => Heap.get?_push_of_some _ (hx b o hb e)) (Heap.get?_push_of_some _ tb) hge ⟨ok, vs, t, Heap.get?_push_of_some _ hoc, hd, hv⟩
    have grown : LamX.ExtN H (upd (upd H P (.tbl (ps ++ #[rawInt pos.line, rawInt pos.col, .ref k]))) k (LamX.CodeO k (X.env.qual ++ "<lambda>"))) := fun b o e n => by
      rw [upd_ne (ne_of_none e nk), upd_ne (fun z => n ps (Option.some.inj (e.symm.trans (by rw [z]; exact atP))))]
      exact e
    have asL : (ps ++ #[rawInt pos.line, rawInt pos.col, .ref k]).toList = ps.toList ++ [rawInt pos.line, rawInt pos.col, .ref k] := by simp
    refine go g.objs.size k ((X.mg "__name__").getD .none) ctv _ _ J grown (fun b e => ?_) (fun p hp => ?_) (Heap.get?_push_size _ rfl) ?_ (out _ big) upd_same
    · by_cases hb : b = k
      · rw [hb]
        exact nk
      · rw [upd_ne hb] at e
        by_cases hb2 : b = P
        · rw [hb2, upd_same] at e
          cases e
        · rw [upd_ne hb2] at e
          exact e
    · by_cases hb : p.1 = P
      · rw [one p hp hb, hb]
        refine ⟨_, by rw [upd_ne (ne_of_none atP nk), upd_same], by rw [asL]; exact PySem.TriplesOk_snoc _ _ _ _ trip, fun p' cv hcv => ?_⟩
        rw [asL] at hcv
        rcases LamX.among_app _ trip hcv with z | z
        · obtain ⟨c0, e1, e2⟩ := am p' cv z
          exact ⟨c0, e1, grown _ _ e2 LamX.codeO_ne⟩
        · exact ⟨k, z, upd_same⟩
      · obtain ⟨ps', a1, a2, a3⟩ := tT p hp
        refine ⟨ps', by rw [upd_ne (ne_of_none a1 nk), upd_ne hb]; exact a1, a2, fun p' cv hcv => ?_⟩
        obtain ⟨c0, e1, e2⟩ := a3 p' cv hcv
        exact ⟨c0, e1, grown _ _ e2 LamX.codeO_ne⟩
    · have n1 : g.objs.size ≠ k := Nat.ne_of_gt hlt
      have n2 : g.objs.size ≠ P := Nat.ne_of_gt (Nat.lt_of_lt_of_le (Heap.lt_size oP) big)
      rw [upd_ne n1, upd_ne n2]
      exact I.hok.fresh big
  · obtain ⟨k, e, hco⟩ := am pos cv look
    subst e
    refine PySem.W.kla_makeFunctionHit (mg := X.mg) (c := c) (P := P) (ps := ps) (closure_ok fr) I.ok.glob (I.mod.glob.keeps I.bk) hcd (B.code.keeps I.bk) oP trip look bmP fun ctv g tk hx hsz => ?_
    have J : Inv X pins σ H { s with heap := g.push (PySem.W.kla_obj "<lambda>" (X.env.qual ++ "<lambda>") pr bd sc (cloFrom X.env.cells sc.names []) ((X.mg "__name__").getD .none) k ctv), toks := tk } := I.kept fun b o e => Heap.get?_push_of_some _ (hx b o e)
    exact go g.objs.size k ((X.mg "__name__").getD .none) ctv H _ J (LamX.ExtN.refl H) (fun b e => e) tT (Heap.get?_push_size _ rfl) (I.hok.fresh hsz) (out _ hsz) hco
/-- the asking def calls what it got -/
theorem pe_asks {N : List Str} {x : Str} {st : Stmt} {g f c' : Addr} {cdv pm ctv : Value} {pr : Arguments} {bd : Expr} {sc : Scope} {k : Nat} {a : Str} {pn : List (Addr × Obj)} {xe : Value → Shared → Prop} {W : WX} {tb : XK → TE} {p1 p2 : Pos}
    (I : Inv X pins σ H s) (L : LamX.LamS X.env.scope sc) (of : s.heap.get? f = some (PySem.W.kla_obj "<lambda>" (X.env.qual ++ "<lambda>") pr bd sc (cloFrom X.env.cells sc.names []) pm c' ctv)) (nf : H f = none) (nfr : f ∉ frs X.stack)
    (bind : bindArgs (PySem.W.kla_fn "<lambda>" (X.env.qual ++ "<lambda>") pr bd sc (cloFrom X.env.cells sc.names []) pm (.ref c') ctv) ⟨[], []⟩ = pure [])
    (tk : Takes ((zx X N x st g cdv s H).tr pn xe) W) (hr : Rg (k + 1) (X.A.deeper (envOfC x (defScope st) s.heap.objs.size g cdv)))
    (hbody : ∀ (A : Around) (outer : List Env) (t : Shared) (G : Hp) (E : XK), Rg k (A.deeper (LamX.lamEnv X sc t.heap.objs.size f c')) → PE (LamX.lamCx X A outer t G E sc f c') bd (tb E))
    (hN : N[0]? = some a) (hv : Vis (defScope st) a) (hd : (a == ("__debug__" : Str)) = false) (hcd : (a == ("__classdict__" : Str)) = false) :
    PE ((zx X N x st g cdv s H).tr pn xe) (.Call (.Name a p1) [] [] p2)
      (fun τ G Q => τ[0]? = some (some (.ref f)) ∧ G c' = some (LamX.CodeO c' (X.env.qual ++ "<lambda>")) ∧ tb (fun cls d H' => W cls d τ H') σ G Q) := by
  constructor
  intro pinsZ sZ τ G Q IZ h
  obtain ⟨hs, hc, ht⟩ := h
  refine wpAny_Call_Name_kw (thn ((pe_var (pos := p1) (i := 0) hN hv hd hcd).run pinsZ sZ τ G (fun v H1 => v = .ref f ∧ H1 = G) IZ ⟨.ref f, hs, rfl, rfl⟩) fun u s1 ⟨v, H1, I1, r1, q1⟩ => ?_)
  obtain ⟨ev, eH⟩ := q1
  subst ev
  rw [eH] at I1
  obtain rfl : u = Value.ref f := r1
  have of1 : s1.heap.get? f = some (PySem.W.kla_obj "<lambda>" (X.env.qual ++ "<lambda>") pr bd sc (cloFrom X.env.cells sc.names []) pm c' ctv) := I1.base.keep f _ of nf nfr (fun z => nomatch (show f ∈ ([] : List Addr) from z))
  refine PySem.W.callWith_F0 ⟨_, _, _, _, of1⟩ ?_
  have un : Un (frs X.stack) [] H G s.heap s1.heap := I1.base
  obtain ⟨⟨oc, vs, t, hoc, hdc, hvc⟩, _, _⟩ := I1.hok c' _ hc
  have rc : codeAny (model X.prog X.w) (X.A.deeper (envOfC x (defScope st) s.heap.objs.size g cdv)) (.call (.ref f) ⟨[], []⟩) (CR (L2.CX X.prog X.w) (envOfC x (defScope st) s.heap.objs.size g cdv :: X.stack) X.prog X.w G s1 Q (fun cls d H' => W cls d τ H')) s1 := by
    refine PySem.W.kla_callFunE hr.r.depth of1 rfl L.co L.gen rfl ⟨c', oc, vs, t, rfl, hoc, hdc, hvc⟩ ?_
    rw [bind]
    refine wpAny_pure (wpAny_newFunctionEnv (fun y hy => (L.own y hy).2) (fun y hy => absurd hy (by simp)) (fun h₁ hns hsb => ⟨I1.nolimit.fresh _ hsb, ?_⟩) L.kind)
    show codeAny _ _ (.expr bd (LamX.lamEnv X sc s1.heap.objs.size f c')) _ _
    have kp : ∀ b o, s1.heap.get? b = some o → h₁.get? b = some o := fun b o e => hsb.extBut b o (Nat.ne_of_lt (Heap.lt_size e)) (Heap.get?_push_of_some _ e)
    have J : Inv (LamX.lamCx X (X.A.deeper (envOfC x (defScope st) s.heap.objs.size g cdv)) (envOfC x (defScope st) s.heap.objs.size g cdv :: X.stack) s1 G (fun cls d H' => W cls d τ H') sc f c') [] σ G { s1 with heap := h₁, toks := s1.toks + ([] : List (Str × Value)).length } :=
      LamX.lam_start2 I L I1.env0 hr.r.hd un hns kp
    refine PySem.W.kla_codeExpr (wpAny_mono ((hbody _ _ s1 G (fun cls d H' => W cls d τ H') ⟨hr.r.deeper _, hr.g⟩).run [] _ _ G Q J ht) (fun v t hq => ?_) fun e t hq => hq)
    obtain ⟨w', H', J', rv, q⟩ := hq
    exact ⟨w', H', J'.os, J'.bare, J'.base, J'.hok, rv, q⟩
  refine wpAny_call (codeAny_mono rc fun r t hq => ?_)
  rcases r with e | (_ | u | _ | _)
  · exact passAt tk τ pinsZ G s1 e t I1 hq
  · exact False.elim hq
  · first | exact I1.after hq | exact False.elim hq
  · first | exact I1.after hq | exact False.elim hq
  · first | exact I1.after hq | exact False.elim hq
end
/-- what the walk of the asking def's body shows -/
def HeardOk (P : Program) (wo : World) (K : Fg) (mg : Str → Option Value) (base : Heap) (ec : EC) (x a : Str) (N : List Str) (st : Stmt) (ch : (List Cell → RF) → CS) (k : Nat) : Prop :=
  ∀ (g : Addr) (cdv : Value) (A : Around) (outer : List Env) (s : Shared) (H : Hp) (w0 : Wd) (lf : Addr) (ask : List Cell → RF), Rg k (A.deeper (envOfC x (defScope st) s.heap.objs.size g cdv)) →
    (∀ {W : WX} {pn : List (Addr × Obj)} {xe : Value → Shared → Prop} {p1 p2 : Pos}, Takes ((cxOf C8.CX0 P wo K mg base N x (defScope st) g cdv A outer s H C8.E0).tr pn xe) W →
      PE ((cxOf C8.CX0 P wo K mg base N x (defScope st) g cdv A outer s H C8.E0).tr pn xe) (.Call (.Name a p1) [] [] p2) (rd K (ec.at w0 lf) W (cAsk ask))) →
    PSs (cxOf C8.CX0 P wo K mg base N x (defScope st) g cdv A outer s H C8.E0).nox (defBody st) (rdS K (ec.at w0 lf) (fun _ _ _ _ => False) (ch ask))
theorem Rel.ext_stays {ec : EC} {K : Fg} {w w' : Wd} {σ : L2.St} {s : S} (r : Rel ec K w σ s) {a : Addr} {q : Str} (e : w.H a = some (LamX.CodeO a q)) (le : Le w w') (hs : Same w'.G w'.H) : w'.H a = some (LamX.CodeO a q) := by
  have nb : NoTb (LamX.CodeO a q) := fun _ z => LamX.codeO_ne _ z
  by_cases m : a ∈ w.r
  · obtain ⟨n, hn⟩ := List.getElem?_of_mem m
    cases g : w.G a with
    | none =>
      obtain ⟨o, e1, _, e3⟩ := r.liveN hn g
      rw [e] at e1
      unfold LamX.CodeO at e1
      exact absurd (Option.some.inj e1).symm (e3 _)
    | some o =>
      have e1 := r.mem.ext _ _ g
      rw [e] at e1
      cases e1
      exact hs _ _ (le.g _ _ g)
  · exact (le.stays m e nb).2
section
variable {X : Cx} {ec : EC} {W : WX}
theorem e_heard {k : Nat} {x a : Str} {N : List Str} {st : Stmt} {ch : (List Cell → RF) → CS} {c P : Addr} {pr : Arguments} {bd : Expr} {sc : Scope} {p lpos pos : Pos} {cb : CE} (D : DefF X.K X.mg x st [a]) (Sg : FnScope N [a] (defScope st)) (HW : HeardOk X.prog X.w X.K X.mg X.base ec x a N st ch (k + 1)) (hr : Rg (k + 2) X.A)
    (B : LamX.TabB X.base X.mg c P) (hcd : X.env.code = .ref c) (mT : (P, X.env.qual ++ "<lambda>") ∈ ec.T) (one : ∀ p ∈ ec.T, p.1 = P → p.2 = X.env.qual ++ "<lambda>") (L : LamX.LamS X.env.scope sc)
    (hbody : ∀ (A : Around) (outer : List Env) (t : Shared) (G : Hp) (E : XK) (f c' : Addr), Rg k (A.deeper (LamX.lamEnv X sc t.heap.objs.size f c')) → PE (LamX.lamCx X A outer t G E sc f c') bd (rd X.K ec (fun cls d _ H => E cls d H) cb))
    (df : defaultsOf pr X.env = ([], []) := by rfl) (bind : ∀ (q : Str) (cl : List (Str × Addr)) (pm cv ctv : Value), bindArgs (PySem.W.kla_fn "<lambda>" q pr bd sc cl pm cv ctv) ⟨[], []⟩ = pure [] := by intros; rfl)
    (hg : Gl X x := by rfl) (hdb : (x == ("__debug__" : Str)) = false := by decide) (hv : Vis (defScope st) a := by first | exact Or.inl rfl | exact Or.inr (Or.inl rfl)) (hN : N[0]? = some a := by rfl) (hda : (a == ("__debug__" : Str)) = false := by decide) (hca : (a == ("__classdict__" : Str)) = false := by decide) :
    Ex X ec W (.Call (.Name x p) [.Lambda pr bd sc lpos] [] pos) (cHeard (runH N.length ch) cb) := by
  obtain ⟨g, fd, F, hm, hb⟩ := D.ex
  obtain ⟨oc, od, kV, doc, pm, an, cdv, ct, osl, rfl, lk, hci⟩ := F.ex
  constructor
  intro pins s σ H Q I h
  obtain ⟨w, sv, rfl, hrel, h⟩ := h
  refine wpAny_Call_Name_kw (ld_glob I hg hm ?_ hdb)
  refine PySem.W.callWith_K (h₀ := X.base) I.ok.mod.kin F.kp ?_ (by rfl) (by rfl)
  show wpAny _ _ (spliced ((false, eval (.Lambda pr bd sc lpos) X.env) :: backTo pos (starEach [] X.env))) _ _ s
  refine Calls.spliced_cons (lam_made I B hcd mT one (fun p hp => (hrel.mem.tab p hp).2) df (L.has I.ok) fun f c' pm' ctv H1 s1 I1 eN aN T1 hf hfn hfr hco => ?_)
  refine Calls.spliced_nil ⟨I1.kIn, ?_⟩
  have alive : ∀ {b : Addr} {o : HO}, w.H b = some o → ∃ o', H1 b = some o' := fun {b o} e => by
    cases z : H1 b with
    | some o' => exact ⟨o', rfl⟩
    | none =>
      rw [aN b z] at e
      cases e
  have le1 : Le w ⟨w.G, w.r, w.F, H1⟩ := ⟨Same.refl _, fun b o e _ => by
    by_cases n : NoTb o
    · exact ⟨o, eN b o e n, fun _ => rfl⟩
    · obtain ⟨o', e'⟩ := alive e
      exact ⟨o', e', fun z => absurd z n⟩, List.prefix_refl _, fun _ m => .inl m, rfl⟩
  have nvH : NV ec ⟨w.G, w.r, w.F, H1⟩ sv.m := by
    refine ⟨fun t q n j ds e1 e2 => ?_, fun p hp => ?_⟩
    · obtain ⟨h1, h2⟩ := hrel.mem.nv.1 t q n j ds e1 e2
      refine ⟨h1, fun p' ks e3 e4 => ?_⟩
      obtain ⟨ws, k, e5, e6⟩ := h2 p' ks e3 e4
      exact ⟨ws, k, eN _ _ e5 noTb_t, e6⟩
    · rcases hrel.mem.nv.2 p hp with z | ⟨o, e, z⟩
      · exact .inl z
      · exact .inr ⟨o, eN _ _ e z.1, z⟩
  have r1 : Rel ec X.K ⟨w.G, w.r, w.F, H1⟩ σ sv := by
    refine ⟨⟨fun b o e => eN b o (hrel.mem.ext b o e) (hrel.mem.gt b o e), hrel.mem.len, hrel.mem.nd, fun n q cl e1 e2 => ?_, fun q hq => ?_, fun q hq => ⟨(hrel.mem.tab q hq).1, T1 q hq⟩, hrel.mem.inv.trans (le1.ch _), hrel.mem.gt, nvH⟩, hrel.len, fun i sl e => slOk_mono le1 (hrel.slot i sl e)⟩
    · have c0 := hrel.mem.cell n q cl e1 e2
      cases cl with
      | l ds =>
        obtain ⟨g0, vs, hv, ra⟩ := c0
        exact ⟨g0, vs, eN _ _ hv noTb_l, ra⟩
      | k ds =>
        obtain ⟨g0, vs, hv, ra⟩ := c0
        exact ⟨g0, vs, eN _ _ hv noTb_k, ra⟩
      | t ds =>
        obtain ⟨g0, vs, hv, ra⟩ := c0
        exact ⟨g0, vs, eN _ _ hv noTb_t, ra⟩
      | r ds =>
        obtain ⟨g0, vs, hv, ra⟩ := c0
        exact ⟨g0, vs, eN _ _ hv noTb_t, ra⟩
      | i n' j' ds =>
        obtain ⟨g0, vs, hv, ra⟩ := c0
        exact ⟨g0, vs, eN _ _ hv noTb_l, ra⟩
      | gone => exact c0
    · obtain ⟨z1, z2, o, z3⟩ := hrel.mem.fo q hq
      exact ⟨z1, z2, alive z3⟩
  have rc : codeAny (model X.prog X.w) X.A (.call (.ref g) ⟨[.ref f], []⟩) (CR C8.CX0 X.stack X.prog X.w H1 s1 Q C8.E0) s1 := by
    refine LamX.run_ofS (N := N) (ps := [a]) (us := [.ref f]) (vs := [.ref f]) lk hci Sg hr.r I1.env0 (.of_eq (hb [.ref f] rfl)) (.cons rfl .nil) rfl fun hr' => ?_
    refine ⟨_, (HW (g := g) (cdv := cdv) (A := X.A) (outer := X.stack) (s := s1) (H := H1) ⟨w.G, w.r, w.F, H1⟩ f (askOf cb sv.v) ⟨hr', hr.g⟩ fun {W pn xe p1 p2} tk => ?_).nox, ?_⟩
    · refine (pe_asks (tb := fun E => rd X.K ec (fun cls d _ H => E cls d H) cb) I1 L hf hfn hfr (bind _ _ _ _ _) tk ⟨hr', hr.g⟩ (fun A outer t G E hr2 => hbody A outer t G E f c' hr2) hN hv hda hca).imp fun τ G Q h => ?_
      obtain ⟨w2, s2, rfl, hr2, h⟩ := h
      unfold cAsk at h
      split at h
      rotate_left
      · exact h.elim
      · rename_i e0
        have q0 : τ[0]? = some (some (.ref f)) := hr2.slot 0 _ e0
        have le2 := hr2.mem.inv
        refine ⟨q0, Rel.ext_stays r1 hco (w' := w2.f w.F) le2 hr2.mem.ext, ?_⟩
        refine ⟨w2, ⟨sv.v, s2.m⟩, rfl, ⟨⟨hr2.mem.ext, hr2.mem.len, hr2.mem.nd, hr2.mem.cell, hr2.mem.fo, hr2.mem.tab, r1.mem.inv.trans (le2.ch _), hr2.mem.gt, hr2.mem.nv⟩, hrel.len, fun i sl e => ?_⟩, ?_⟩
        · have q := slOk_mono le2 (r1.slot i sl e)
          cases sl with
          | u => trivial
          | d x => exact q
          | c n => exact q
          | x n => exact q
          | f => exact q
        · have back : ∀ {w' : Wd} {s' : S}, Le w2 w' → Rel ec X.K w' σ s' → Rel (ec.at ⟨w.G, w.r, w.F, H1⟩ f) X.K w' τ ⟨s2.v, s'.m⟩ := fun {w' s'} le r' => ⟨⟨r'.mem.ext, r'.mem.len, r'.mem.nd, r'.mem.cell, r'.mem.fo, r'.mem.tab, le2.trans (le.ch _), r'.mem.gt, r'.mem.nv⟩, hr2.len, fun i sl e => slOk_mono le (hr2.slot i sl e)⟩
          unfold askOf at h
          cases eb : cb ⟨sv.v, s2.m⟩ with
          | bad => simp only [eb, RF.toR] at h; exact h
          | ex n s3 =>
            simp only [eb, RF.toR] at h
            exact fun w' le r' => h w' le (back le r')
          | ok y s3 =>
            simp only [eb, RF.toR] at h
            exact fun z w' le r' o fr => h z w' le (back le r') o fr
    · refine ⟨⟨w.G, w.r, w.F, H1⟩, ⟨[Sl.f] ++ List.replicate (N.length - [Sl.f].length) .u, sv.m⟩, rfl, rel_start (ec := ec.at ⟨w.G, w.r, w.F, H1⟩ f) (vs := [.ref f]) (as := [Sl.f]) ⟨r1.mem.ext, r1.mem.len, r1.mem.nd, r1.mem.cell, r1.mem.fo, r1.mem.tab, Le.refl _, r1.mem.gt, r1.mem.nv⟩ (Paired.cons (show SlOk (ec.at ⟨w.G, w.r, w.F, H1⟩ f) X.K ⟨w.G, w.r, w.F, H1⟩ (some (some (V.ref f))) Sl.f from rfl) .nil), ?_⟩
      refine fin_ok (ec := ec.at ⟨w.G, w.r, w.F, H1⟩ f) (E := fun _ _ _ => False) (m := sv.m) ⟨r1.mem.ext, r1.mem.len, r1.mem.nd, r1.mem.cell, r1.mem.fo, r1.mem.tab, Le.refl _, r1.mem.gt, r1.mem.nv⟩ ?_
      unfold cHeard runH at h
      show FOk _ _ _ _ _ (fin sv.m (ch (askOf cb sv.v) ⟨[Sl.f] ++ List.replicate (N.length - 1) .u, sv.m⟩))
      cases ef : fin sv.m (ch (askOf cb sv.v) ⟨[Sl.f] ++ List.replicate (N.length - 1) .u, sv.m⟩) with
      | bad => rw [ef] at h; exact h.elim
      | ex n m' => rw [ef] at h; exact h.elim
      | ok y m' =>
        rw [ef] at h
        intro z w' le mm o fr
        have m2 : Mem ec X.K w' m' := ⟨mm.ext, mm.len, mm.nd, mm.cell, mm.fo, mm.tab, r1.mem.inv.trans (le.ch _), mm.gt, mm.nv⟩
        exact h z w' (le1.trans le) (rel_mem (v := sv.v) (m := sv.m) (le1.trans le) hrel m2) o (FrR.back le1 le o fr)
  refine wpAny_call (codeAny_mono rc fun r t hq => ?_)
  rcases r with e | (_ | u | _ | _)
  · exact (show False from hq).elim
  · exact False.elim hq
  · first | exact I1.after hq | exact False.elim hq
  · first | exact I1.after hq | exact False.elim hq
  · first | exact I1.after hq | exact False.elim hq
end
end Vm

namespace Vm
open PySem L2 PySem.Spec PyProof.Rows
/-! ### defs that hold lambdas -/
theorem fn_okL {P : Program} {wo : World} {K : Fg} {mg : Str → Option Value} {base : Heap} {ec : EC} {x qual : Str} {st : Stmt} {f : Addr} {fd : FuncData} {N ps : List Str} {k : Nat} {cv : Value} (F : Fun K x qual st f fd) (S : FnScope N ps (defScope st)) (c : CS) (hcv : fd.code = cv)
    (hb : ∀ (A : Around) (outer : List Env) (s : Shared) (H : Hp) (E : XK), Rg k (A.deeper (envOfC qual (defScope st) s.heap.objs.size f cv)) → Takes (cxOf (L2.CX P wo) P wo K mg base N qual (defScope st) f cv A outer s H E) (fun cls d _ H => E cls d H) →
      PassesOwn (model P wo) (A.deeper (envOfC qual (defScope st) s.heap.objs.size f cv)) (envOfC qual (defScope st) s.heap.objs.size f cv) (cxOf (L2.CX P wo) P wo K mg base N qual (defScope st) f cv A outer s H E).xe →
      PSs (cxOf (L2.CX P wo) P wo K mg base N qual (defScope st) f cv A outer s H E) (defBody st) (rdS K ec (fun cls d _ H => E cls d H) c)) :
    FnG P wo K mg base (k + 1) f fd ps (spF K ec ps.length (runF N.length c)) := by
  obtain ⟨oc, od, kV, doc, pm, an, cdv, ct, osl, rfl, lk, hcd⟩ := F.ex
  have ec : cdv = cv := hcv
  subst ec
  refine ⟨fun vs H Q E h => h.1, fun {A out s H as us vs Q E} rg e0 bd rv h => ?_⟩
  have inS : K.In s.heap := e0.mod.kin.keeps fun b o e => (e0.bs b o e).1
  have noS : s.heap.NoLimit := e0.mod.nolimit.keeps fun b o e => (e0.bs b o e).1
  refine codeAny_call_function rg.r.depth (inS _ _ lk) rfl S.co S.gen rfl (PySem.W.codeRec_of inS hcd) (bd _ _ _ _ ?_)
  refine wpAny_newFunctionEnv_cells S.kind (fun ⟨n, v⟩ hy => ?_) fun env he s1 z => ?_
  · rcases S.par n (List.of_mem_zip hy).1 with q | q
    · exact .inl q
    · exact .inr ⟨q, PySem.W.cellsFrom_some _ _ _ (.inl q)⟩
  subst he
  refine ⟨noS.keeps z.toInCall.keep, codeAny_func ?_⟩
  have body := hb A out s H E ⟨rg.r.deeper _, rg.g⟩ (takes_of rfl rfl rfl rfl) (passes_of rfl)
  have J : Inv (cxOf (L2.CX P wo) P wo K mg base N qual (defScope st) f cdv A out s H E) [] (start N vs) H s1 := inv_start S rg.r.hd e0 h.1 rv z
  obtain ⟨hl, w, m, aa, rfl, hm, ao, h⟩ := h
  refine wpAny_mono (body.run [] s1 (start N vs) w.H _ J ⟨w, _, rfl, rel_start hm ao, fin_ok hm h⟩) (fun fl s2 hs => ?_) fun e s2 hs => hs
  have out : ∀ {σ' : L2.St} {H' : Hp} {v : V} {u : Value}, Inv (cxOf (L2.CX P wo) P wo K mg base N qual (defScope st) f cdv A out s w.H E) [] σ' H' s2 → RelV v u → Q v H' → L2.CE out P wo w.H s Q u s2 :=
    fun {σ' H' v u} J2 rv2 q2 => ⟨v, H', J2.os, J2.bare, J2.base, J2.hok, rv2, q2⟩
  cases fl with
  | next =>
    obtain ⟨σ', H', J2, q2⟩ := hs
    exact out (v := V.non) (u := Value.none) J2 rfl q2
  | ret u =>
    obtain ⟨v, σ', H', J2, rv2, q2⟩ := hs
    exact out J2 rv2 q2
  | brk =>
    obtain ⟨_, _, _, q2⟩ := hs
    exact q2.elim
  | cont =>
    obtain ⟨_, _, _, q2⟩ := hs
    exact q2.elim
/-- the code object and the table of a def that holds lambdas -/
structure LamF (K : Fg) (mg : Str → Option Value) (base : Heap) (ec : EC) (x q : Str) : Prop where
  ex : ∃ c P, LamX.TabB base mg c P ∧ (P, q) ∈ ec.T ∧ (∀ p ∈ ec.T, p.1 = P → p.2 = q) ∧ ∀ fa fd oc od osl, mg x = some (.ref fa) → K.lookup fa = some ⟨oc, od, .func fd, osl⟩ → fd.code = .ref c
theorem DefF.calL {P : Program} {wo : World} {K : Fg} {mg : Str → Option Value} {base : Heap} {ec : EC} {x : Str} {st : Stmt} {ps : List Str} {k : Nat} {f : Fn} (D : DefF K mg x st ps)
    (h : ∀ {fa : Addr} {fd : FuncData} {oc : Value} {od : Option Addr} {osl : Array (Option Value)}, Fun K x x st fa fd → mg x = some (.ref fa) → K.lookup fa = some ⟨oc, od, .func fd, osl⟩ → FnG P wo K mg base k fa fd ps (spF K ec ps.length f)) : Cal P wo K mg base ec x ps f k := by
  obtain ⟨fa, fd, F, hm, hb⟩ := D.ex
  obtain ⟨oc, od, kV, doc, pm, an, cdv, ct, osl, e, lk, _⟩ := F.ex
  exact ⟨fa, fd, oc, od, osl, lk, h F hm lk, hm, F.kp, .all hb⟩
/-- the law's call, where tables of code objects may grow -/
theorem walkGT {l : PySem.W.OpenLaw} {n k : Nat} {q : Program} {loose : List Str} {XP : (Str → Option Value) → Heap → Prop} {YP : World → Heap → Prop} {d : DefRec} {K : Params → PySem.W.Frag} {f : Fn}
    (hn : l.most = some n) (hn2 : n ≤ sizeLine) (hdf : d.params.defaults = []) (hr : Room k callerA) (hY : ∀ (w : World) (h : Heap), YP w h → (K w.params).In h)
    (F : ∀ (w : World) (mg : Str → Option Value) (fa : Addr) (h : Heap), YP w h → (K w.params).In h → h.Ns mainGlobals mg → mg d.name = some (.ref fa) →
      ∃ (fd : FuncData) (cs : List (Addr × Addr)) (T : List (Addr × Str)), (∀ p ∈ cs, h.get? p.2 = some { cls := .none, data := .fields #[] }) ∧ (∀ p ∈ cs, (K w.params).lookup p.2 = none) ∧ (∀ p ∈ cs, PySem.W.CodeHd h p.1 p.2) ∧ (∀ t ∈ T, ∃ p ∈ cs, p.2 = t.1) ∧
        (∀ (s : Shared) (u : Value), BindsTo s fd ⟨[u], []⟩ [("_law_script", u)]) ∧ ∀ base : Heap, (K w.params).In base → base.Ns mainGlobals mg → (∀ p ∈ cs, LamX.TabB base mg p.1 p.2) → FnG l.prog w (K w.params) mg base k fa fd ["_law_script"] (spLaw (K w.params) f T))
    (hf : ∀ ns : List Int, ns.length ≤ n → f [.d (.list (ns.map PyData.int))] [] = .ok (.d (.bool true)) []) : PySem.W.WalkO q loose XP YP l.row.toRowW d [] (fun g vs => PySem.call g vs) := by
  refine Att.attach_call hn hdf fun w s₀ s₁ mg mb fa o pm cd doc a vs ns G Y _ _ _ hmg hobj hints hlen hg => ?_
  have KX := hY w _ Y
  obtain ⟨fd, cs, TT, tb, nK, hd, hTT, hb, FF⟩ := F w mg fa _ Y KX G.T.g hmg
  have T := G.T
  have rv := vals_ints hints
  have lz := hints.length
  have l16 := Nat.le_trans hlen hn2
  have at_ : ∀ b : Addr, b ∈ cs.map (·.2) → s₁.heap.get? b = some { cls := .none, data := .fields #[] } := fun b hm => by
    obtain ⟨p, hp, rfl⟩ := List.mem_map.mp hm
    exact tb p hp
  have na : a ∉ cs.map (·.2) := fun z => by
    have e := at_ a z
    rw [hobj] at e
    exact nomatch (show Data.seq vs.toArray _ = Data.fields #[] from congrArg Obj.data (Option.some.inj e))
  have inT : ∀ p ∈ cs, p.2 ∈ cs.map (·.2) := fun p hp => List.mem_map.mpr ⟨p, hp, rfl⟩
  have main : ∀ H : Hp, (∀ p ∈ cs, H p.2 = some (.tbl #[])) → (∀ b, H b = none ∨ b ∈ cs.map (·.2) ∨ ∃ o xs, H b = some (.frz o (.lst xs))) → SqL (K w.params) H a (ns.map V.int) → HOk l.prog w H s₁.heap → (∀ b, H b ≠ none → b = a ∨ b ∈ cs.map (·.2)) → (H a ≠ none → (K w.params).lookup a = none) →
      codeAny (model l.prog w) callerA (.call (.ref fa) ⟨[.ref a], []⟩) (fun r s' => r = .ok (.ret (.bool true)) ∧ OldK s₁.heap s'.heap ∧ s'.os = s₁.os ∧ AllBare s'.gens) s₁ := by
    intro H tbH onl seq ok1 own1 own2
    have hid : ∀ {b : Addr} {o : Obj}, s₁.heap.get? b = some o → H b = none → (hidT s₁.heap H).get? b = some o := fun e z => hidT_get e z
    have nil : ∀ {b : Addr} {o : Obj}, s₁.heap.get? b = some o → (∀ us m, o.data ≠ .seq us m) → o.data ≠ .fields #[] → H b = none := fun {b o} e d1 d2 => by
      rcases z : H b with _ | u
      · rfl
      · rcases own1 b (by rw [z]; simp) with eb | eb
        · rw [eb, hobj] at e
          cases e
          exact (d1 _ _ rfl).elim
        · rw [at_ b eb] at e
          cases e
          exact (d2 rfl).elim
    have dic : ∀ {b : Addr} {o : Obj} {es : Array DictEntry} {ep : Nat}, s₁.heap.get? b = some o → o.data = .dict es ep → H b = none := fun {b o es ep} e dd =>
      nil e (fun us m z => nomatch (dd.symm.trans z)) fun z => nomatch (dd.symm.trans z)
    have nsT : ∀ {b : Addr} {mm : Str → Option Value}, s₁.heap.Ns b mm → (hidT s₁.heap H).Ns b mm := fun {b mm} ⟨o, es, ep, e, dd, r⟩ => ⟨o, es, ep, hid e (dic e dd), dd, r⟩
    have inB : (K w.params).In (hidT s₁.heap H) := fun b o e => hid (KX b o e) (by
      rcases z : H b with _ | u
      · rfl
      · rcases own1 b (by rw [z]; simp) with eb | eb
        · subst eb
          rw [own2 (by rw [z]; simp)] at e
          cases e
        · obtain ⟨p, hp, rfl⟩ := List.mem_map.mp eb
          rw [nK p hp] at e
          cases e)
    have md : Mod (K w.params) mg (hidT s₁.heap H) := ⟨inB, nsT T.g, ⟨mb, nsT T.b, T.builtins⟩, let ⟨mc, z1, z2⟩ := T.nolimit; ⟨mc, nsT z1, z2⟩⟩
    have TB : ∀ p ∈ cs, LamX.TabB (hidT s₁.heap H) mg p.1 p.2 := fun p hp => by
      have atp := tb p hp
      refine ⟨?_, ?_, fun z => ?_⟩
      · obtain ⟨o, us, file, tf, flags, tg, inF, text, tt, e1, c1, c2, c3, c4, c5, c6, c7, c8, ne⟩ := hd p hp
        refine ⟨o, us, file, tf, flags, tg, inF, text, tt, hid e1 (nil e1 (fun us m z => nomatch (c2.symm.trans z)) fun z => ?_), c1, c2, c3, c4, c5, c6, c7, c8, ne⟩
        rw [c2] at z
        cases z
        simp at c3
      · obtain ⟨bm, ob, y1, y2, y3, y4, y5, y6⟩ := T.bmain
        have ng : bm ≠ mainGlobals := fun z => by
          obtain ⟨o, es, ep, e, dd, _⟩ := T.g
          rw [z, e] at y3
          cases y3
          exact nomatch (dd.symm.trans y6)
        have np : bm ≠ p.2 := fun z => by
          rw [z, atp] at y3
          cases y3
          cases y6
        exact ⟨bm, ob, y1, y2, ng, np, hid y3 (nil y3 (fun us m z => nomatch (y6.symm.trans z)) fun z => nomatch (y6.symm.trans z)), y4, y5, y6⟩
      · obtain ⟨o, es, ep, e, dd, _⟩ := T.g
        rw [z, atp] at e
        cases e
        cases dd
    have e0 : Env0 l.prog w (K w.params) mg (hidT s₁.heap H) callerA [] s₁ H := ⟨rfl, md, fun b o e => of_hidT e, Nat.le_of_eq (hidT_size _ _), trivial, fun b z => absurd (show b ∈ ([] : List Addr) from z) (by simp), ok1, .of_eq hg⟩
    have tT : ∀ t ∈ TT, H t.1 = some (.tbl #[]) ∧ (K w.params).lookup t.1 = none := fun t ht => by
      obtain ⟨p, hp, e⟩ := hTT t ht
      rw [← e]
      exact ⟨tbH p hp, nK p hp⟩
    refine codeAny_mono ((FF _ inB (nsT T.g) TB).go (us := [.ref a]) (vs := [.ref a]) (Q := fun v _ => v = .bl true) (E := fun _ _ _ => False) ⟨hr, rfl⟩ e0 (hb s₁ (.ref a)) (.cons rfl .nil) ⟨tT, a, ns, rfl, seq, hf ns hlen, fun _ => rfl⟩) fun r s2 z => ?_
    rcases r with e | fl
    · exact (cx_none z).elim
    cases fl with
    | next => exact z.elim
    | brk => exact z.elim
    | cont => exact z.elim
    | ret u =>
      obtain ⟨v, H2, os, bare, un, ok2, rv2, ve⟩ := z
      have ve : v = .bl true := ve
      subst ve
      obtain rfl : u = Value.bool true := rv2
      have stays : ∀ b o, b ∉ cs.map (·.2) → s₁.heap.get? b = some o → s2.heap.get? b = some o := fun b o nb e => by
        rcases z : H b with _ | u
        · exact un.keep b o e z (by intro zz; exact absurd (show b ∈ ([] : List Addr) from zz) (by simp)) (by simp)
        · rcases onl b with y | y | ⟨ob, xs, y⟩
          · rw [z] at y
            cases y
          · exact absurd y nb
          · obtain ⟨e1, _⟩ := ok1 b _ y
            obtain ⟨e2, _⟩ := ok2 b _ (un.frzs b ob _ y)
            rw [e] at e1
            cases e1
            exact e2
      have more : ∀ p ∈ cs, ∃ us : Array Value, s2.heap.get? p.2 = some { cls := .none, data := .fields us } := fun p hp => by
        obtain ⟨us, y⟩ := un.tbls p.2 #[] (tbH p hp)
        exact ⟨_, ok2 p.2 _ y⟩
      refine ⟨rfl, ⟨fun b o e => ?_, fun b o e => ?_⟩, os, bare⟩
      · by_cases m : b ∈ cs.map (·.2)
        · obtain ⟨p, hp, eb⟩ := List.mem_map.mp m
          obtain ⟨us, y⟩ := more p hp
          rw [← eb] at e ⊢
          rw [tb p hp] at e
          cases e
          exact .inr (.inl ⟨((hd p hp).tab (tb p hp)).isCodeTable, rfl, #[], us, rfl, by rw [Array.empty_append]; exact y⟩)
        · exact .inl (stays b o m e)
      · by_cases m : b ∈ cs.map (·.2)
        · obtain ⟨p, hp, eb⟩ := List.mem_map.mp m
          obtain ⟨us, y⟩ := more p hp
          rw [← eb]
          exact ⟨_, y⟩
        · exact ⟨o, stays b o m e⟩
  rcases lk : (K w.params).lookup a with _ | o1
  · refine main (fun b => if b = a then some (.frz { cls := .type "list", data := .seq vs.toArray } (.lst (ns.map V.int))) else if b ∈ cs.map (·.2) then some (.tbl #[]) else none) (fun p hp => ?_) (fun b => ?_) (.inl (.inr ⟨{ cls := .type "list", data := .seq vs.toArray }, if_pos rfl⟩)) (fun b u z => ?_) (fun b z => ?_) fun _ => lk
    · exact (if_neg (show ¬ p.2 = a from fun z => na (by rw [← z]; exact inT p hp))).trans (if_pos (inT p hp))
    · by_cases e : b = a
      · exact .inr (.inr ⟨_, _, if_pos e⟩)
      · by_cases m : b ∈ cs.map (·.2)
        · exact .inr (.inl m)
        · exact .inl ((if_neg e).trans (if_neg m))
    · by_cases e : b = a
      · have z := (if_pos e).symm.trans z
        cases z
        subst e
        exact ⟨hobj, by rw [List.length_map]; exact l16, vs, _, rv, hobj⟩
      · have z := (if_neg e).symm.trans z
        by_cases m : b ∈ cs.map (·.2)
        · have z := (if_pos m).symm.trans z
          cases z
          exact at_ b m
        · exact nomatch (if_neg m).symm.trans z
    · by_cases e : b = a
      · exact .inl e
      · by_cases m : b ∈ cs.map (·.2)
        · exact .inr m
        · exact absurd ((if_neg e).trans (if_neg m)) z
  · have e := KX a o1 lk
    rw [hobj] at e
    cases e
    refine main (fun b => if b ∈ cs.map (·.2) then some (.tbl #[]) else none) (fun p hp => if_pos (inT p hp)) (fun b => ?_) (.inr ⟨_, vs.toArray, _, lk, rfl, rfl, rfl, by rw [List.size_toArray, lz]; exact l16, by simpa using rv⟩) (fun b u z => ?_) (fun b z => ?_) fun z => absurd (if_neg na) z
    · by_cases m : b ∈ cs.map (·.2)
      · exact .inr (.inl m)
      · exact .inl (if_neg m)
    · by_cases m : b ∈ cs.map (·.2)
      · have z := (if_pos m).symm.trans z
        cases z
        exact at_ b m
      · exact nomatch (if_neg m).symm.trans z
    · by_cases m : b ∈ cs.map (·.2)
      · exact .inr m
      · exact absurd (if_neg m) z
/-- what all_mk tells of a def that holds lambdas -/
theorem codeOf {K : Fg} {mg : Str → Option Value} {x : Str} {f c : Addr} {cd : Value} {oc : Value} {od an : Option Addr} {osl : Array (Option Value)} {ps : Arguments} {bd : List Stmt} {sc : Scope} {kV dc pm ct : Value} (hm : mg x = some (.ref f))
    (l : K.lookup f = some ⟨oc, od, .func (PySem.W.fnOf x x ps bd sc .none kV dc pm an cd ct), osl⟩) (e : cd = .ref c) : ∀ fa fd oc od osl, mg x = some (.ref fa) → K.lookup fa = some ⟨oc, od, .func fd, osl⟩ → fd.code = .ref c := fun fa fd oc' od' osl' h1 h2 => by
  rw [hm] at h1
  cases h1
  rw [l] at h2
  cases h2
  exact e
theorem spLaw_ofB {P : Program} {wo : World} {K : Fg} {mg : Str → Option Value} {ec : EC} {B : Heap → Prop} (hw : ec.w = bot) {x : Str} {st : Stmt} {k : Nat} {f : Fn} {fa : Addr} (D : DefF K mg x st ["_law_script"]) (hfa : mg x = some (.ref fa))
    (C : ∀ base : Heap, K.In base → base.Ns mainGlobals mg → B base → Cal P wo K mg base ec x ["_law_script"] f k) :
    ∃ fd : FuncData, (∀ (s : Shared) (v : Value), BindsTo s fd ⟨[v], []⟩ [("_law_script", v)]) ∧ ∀ base : Heap, K.In base → base.Ns mainGlobals mg → B base → FnG P wo K mg base k fa fd ["_law_script"] (spLaw K f ec.T) := by
  obtain ⟨fa', fd, F, hm, hb⟩ := D.ex
  rw [hfa] at hm
  cases hm
  obtain ⟨oc, od, kV, doc, pm, an, cdv, ct, osl, e, lk, _⟩ := F.ex
  refine ⟨fd, fun s v => .of_eq (hb [v] rfl), fun base h1 h2 h3 => ?_⟩
  obtain ⟨fa2, fd2, oc2, od2, osl2, lk2, F2, hm2, _, _⟩ := C base h1 h2 h3
  rw [hfa] at hm2
  cases hm2
  rw [lk] at lk2
  cases lk2
  exact F2.imp fun vs H Q E q => spLaw_spF hw q
theorem takesL {X : Cx} {A : Around} {outer : List Env} {t : Shared} {G : Hp} {E : XK} {sc : Scope} {f c' : Addr} : Takes (LamX.lamCx X A outer t G E sc f c') (fun cls d _ H => E cls d H) := takes_of rfl rfl rfl rfl
theorem IsF.at {K : Fg} {mg : Str → Option Value} {ec : EC} {x : Str} {n : String} (F : IsF K mg ec x n) {w : Wd} {f : Addr} : IsF K mg (ec.at w f) x n := ⟨F.ex⟩
theorem CatF.at {K : Fg} {mg : Str → Option Value} {ec : EC} {x : Str} {L : List String} (F : CatF K mg ec x L) {w : Wd} {f : Addr} : CatF K mg (ec.at w f) x L := ⟨F.ex⟩
end Vm

namespace Vm
open PySem L2
/-! ### what a def that asks tells -/
def cHeardA (L : List String) (ask : List Cell → RF) : CS :=
 (cSeq (cSet 1 (cC .none))
 (cSeq (cSet 2 (cC .none))
 (cSeq (cTry L 3 1
 (cSet 2 (cAsk ask)))
 (cSeq (cIfS (cB (cIsN 1))
 (cRet (cLst (cCons (cVar 2) cNil)))
 cNx)
 (cSeq (cSet 4 (cLst (cCons (cIsX 1 "NoShare") (cCons (cIsX 1 "NoBall") (cCons (cIsX 1 "Unlike") cNil)))))
 (cSeq (cSet 4 (cOp2 opAdd (cVar 4) (cLst (cCons (cIsX 1 "Fuller") (cCons (cIsX 1 "TooMany") (cCons (cIsX 1 "NoBack") cNil))))))
 (cSeq (cSet 4 (cOp2 opAdd (cVar 4) (cLst (cCons (cIsX 1 "NoName") (cCons (cIsX 1 "NoText") (cCons (cIsX 1 "NoRow") cNil))))))
 (cSeq (cIfS (tOr' (cB (cOp2 opNe (cMt1 "list" opCount (cVar 4) (cC (.bool true))) (cC (.int 1)))) (tNot' (cTru (cIsX 1 "ValueError"))))
 (cRet (cC (.str "odd")))
 cNx)
 (cRet (cOp2 opIx (cLst (cCons (cC (.str "share")) (cCons (cC (.str "ball")) (cCons (cC (.str "unlike")) (cCons (cC (.str "fuller")) (cCons (cC (.str "many")) (cCons (cC (.str "back")) (cCons (cC (.str "name")) (cCons (cC (.str "text")) (cCons (cC (.str "row")) cNil)))))))))) (cMt1 "list" opIndex (cVar 4) (cC (.bool true)))))))))))))
def fHeardA (L : List String) : Hn := runH 5 (cHeardA L)
@[simp] theorem cAsk_s {ask : List Cell → RF} {v : List Sl} {m : List Cell} : cAsk ask ⟨.f :: v, m⟩ = (ask m).toR (.f :: v) := rfl
theorem cTry_nx {L : List String} {i j : Nat} {b : CS} {s s' : S} (h : b s = .nx s') : cTry L i j b s = .nx s' := by
  unfold cTry
  rw [h]
theorem cTry_ex {L : List String} {i j : Nat} {b : CS} {s s' : S} {n : String} (h : b s = .ex n s') (hn : L.contains n = true) : cTry L i j b s = .nx ⟨((s'.v.set i .u).set j (.x n)).set i .u, s'.m⟩ := by
  unfold cTry
  rw [h]
  simp only [hn, if_true]
theorem cIsN_d {i : Nat} {v : List Sl} {m : List Cell} {d : D} (h : v[i]? = some (.d d)) : cIsN i ⟨v, m⟩ = .ok (.d (.bool (isNone d))) ⟨v, m⟩ := by
  unfold cIsN
  dsimp only
  rw [h]
theorem heardA_d {L : List String} {ask : List Cell → RF} {m : List Cell} {d : D} (h : ask m = .ok (.d d) m) : fHeardA L ask m = .ok (.new (.l [d])) m := by
  have q3 : cTry L 3 1 (cSet 2 (cAsk ask)) ⟨[Sl.f, .d .none, .d .none, .u, .u], m⟩ = .nx ⟨[Sl.f, .d .none, .d d, .u, .u], m⟩ := cTry_nx (by simp [h, RF.toR])
  unfold fHeardA runH
  show fin m (cHeardA L ask ⟨[Sl.f, .u, .u, .u, .u], m⟩) = _
  have q4 : cIsN 1 ⟨[Sl.f, .d .none, .d d, .u, .u], m⟩ = .ok (.d (.bool true)) ⟨[Sl.f, .d .none, .d d, .u, .u], m⟩ := cIsN_d (d := .none) rfl
  simp [cHeardA, q3, q4]
theorem heardA_new {L : List String} {ask : List Cell → RF} {m : List Cell} {ds : List D} (h : ask m = .ok (.new (.l ds)) m) : fHeardA L ask m = .ok (.new (.l [.list ds])) m := by
  have q3 : cTry L 3 1 (cSet 2 (cAsk ask)) ⟨[Sl.f, .d .none, .d .none, .u, .u], m⟩ = .nx ⟨[Sl.f, .d .none, .d (.list ds), .u, .u], m⟩ := cTry_nx (by simp [h, RF.toR])
  unfold fHeardA runH
  show fin m (cHeardA L ask ⟨[Sl.f, .u, .u, .u, .u], m⟩) = _
  have q4 : cIsN 1 ⟨[Sl.f, .d .none, .d (.list ds), .u, .u], m⟩ = .ok (.d (.bool true)) ⟨[Sl.f, .d .none, .d (.list ds), .u, .u], m⟩ := cIsN_d (d := .none) rfl
  simp [cHeardA, q3, q4]
def wordA (n : String) : Option Str := if n = "NoShare" then some "share" else if n = "NoBall" then some "ball" else if n = "Unlike" then some "unlike" else none
theorem tailA {w : Str} (n : String) (m : List Cell) (h : wordA n = some w) : fin m ((cSeq (cIfS (cB (cIsN 1))
 (cRet (cLst (cCons (cVar 2) cNil)))
 cNx)
 (cSeq (cSet 4 (cLst (cCons (cIsX 1 "NoShare") (cCons (cIsX 1 "NoBall") (cCons (cIsX 1 "Unlike") cNil)))))
 (cSeq (cSet 4 (cOp2 opAdd (cVar 4) (cLst (cCons (cIsX 1 "Fuller") (cCons (cIsX 1 "TooMany") (cCons (cIsX 1 "NoBack") cNil))))))
 (cSeq (cSet 4 (cOp2 opAdd (cVar 4) (cLst (cCons (cIsX 1 "NoName") (cCons (cIsX 1 "NoText") (cCons (cIsX 1 "NoRow") cNil))))))
 (cSeq (cIfS (tOr' (cB (cOp2 opNe (cMt1 "list" opCount (cVar 4) (cC (.bool true))) (cC (.int 1)))) (tNot' (cTru (cIsX 1 "ValueError"))))
 (cRet (cC (.str "odd")))
 cNx)
 (cRet (cOp2 opIx (cLst (cCons (cC (.str "share")) (cCons (cC (.str "ball")) (cCons (cC (.str "unlike")) (cCons (cC (.str "fuller")) (cCons (cC (.str "many")) (cCons (cC (.str "back")) (cCons (cC (.str "name")) (cCons (cC (.str "text")) (cCons (cC (.str "row")) cNil)))))))))) (cMt1 "list" opIndex (cVar 4) (cC (.bool true)))))))))) ⟨[Sl.f, .x n, .d .none, .u, .u], m⟩) = .ok (.d (.str w)) m := by
  have go : ∀ {x : Out} {d : D} {v : List Sl}, x = .rt (.d d) ⟨v, m⟩ → fin m x = .ok (.d d) m := fun e => by
    rw [e]
    simp
  unfold wordA at h
  split at h
  · rename_i e
    subst e
    cases h
    exact go (v := [Sl.f, .x "NoShare", .d .none, .u, .d (.list [.bool true, .bool false, .bool false, .bool false, .bool false, .bool false, .bool false, .bool false, .bool false])]) (by kernel_rfl)
  split at h
  · rename_i e
    subst e
    cases h
    exact go (v := [Sl.f, .x "NoBall", .d .none, .u, .d (.list [.bool false, .bool true, .bool false, .bool false, .bool false, .bool false, .bool false, .bool false, .bool false])]) (by kernel_rfl)
  split at h
  · rename_i e
    subst e
    cases h
    exact go (v := [Sl.f, .x "Unlike", .d .none, .u, .d (.list [.bool false, .bool false, .bool true, .bool false, .bool false, .bool false, .bool false, .bool false, .bool false])]) (by kernel_rfl)
  · cases h
theorem heardA_ex {L : List String} {ask : List Cell → RF} {m : List Cell} {n : String} {w : Str} (h : ask m = .ex n m) (hn : L.contains n = true) (hw : wordA n = some w) : fHeardA L ask m = .ok (.d (.str w)) m := by
  have q3 : cTry L 3 1 (cSet 2 (cAsk ask)) ⟨[Sl.f, .d .none, .d .none, .u, .u], m⟩ = .nx ⟨[Sl.f, .x n, .d .none, .u, .u], m⟩ := cTry_ex (s' := ⟨[Sl.f, .d .none, .d .none, .u, .u], m⟩) (by simp [h, RF.toR]) hn
  unfold fHeardA runH
  show fin m (cHeardA L ask ⟨[Sl.f, .u, .u, .u, .u], m⟩) = _
  unfold cHeardA
  have q1 : cSet 1 (cC .none) ⟨[Sl.f, .u, .u, .u, .u], m⟩ = .nx ⟨[Sl.f, .d .none, .u, .u, .u], m⟩ := by simp
  have q2 : cSet 2 (cC .none) ⟨[Sl.f, .d .none, .u, .u, .u], m⟩ = .nx ⟨[Sl.f, .d .none, .d .none, .u, .u], m⟩ := by simp
  rw [cSeq_s, q1, then_nx, cSeq_s, q2, then_nx, cSeq_s, q3, then_nx]
  exact tailA n m hw
/-- the lambda's body, a call handed data alone -/
theorem ask_d {f : Fn} {cl : CL} {v : List Sl} {m : List Cell} {as : List Sl} {d : D} {m' : List Cell} (h : cl ⟨v, m⟩ = .ok as ⟨v, m⟩) (ha : as.all Sl.isD = true) (e : f as [] = .ok (.d d) m') : askOf (cCallP f cl) v m = .ok (.d d) m := by
  unfold askOf cCallP
  simp [h, R.bind, ha, e, RF.pure]
theorem ask_n {f : Fn} {cl : CL} {v : List Sl} {m : List Cell} {as : List Sl} {c : Cell} {m' : List Cell} (h : cl ⟨v, m⟩ = .ok as ⟨v, m⟩) (ha : as.all Sl.isD = true) (e : f as [] = .ok (.new c) m') : askOf (cCallP f cl) v m = .ok (.new c) m := by
  unfold askOf cCallP
  simp [h, R.bind, ha, e, RF.pure]
theorem ask_x {f : Fn} {cl : CL} {v : List Sl} {m : List Cell} {as : List Sl} {n : String} {m' : List Cell} (h : cl ⟨v, m⟩ = .ok as ⟨v, m⟩) (ha : as.all Sl.isD = true) (e : f as [] = .ex n m') : askOf (cCallP f cl) v m = .ex n m := by
  unfold askOf cCallP
  simp [h, R.bind, ha, e, RF.pure]
theorem cHeard_s {fh : Hn} {cb : CE} {v : List Sl} {m m' : List Cell} {a : Rv} (h : fh (askOf cb v) m = .ok a m') : cHeard fh cb ⟨v, m⟩ = .ok a ⟨v, m'⟩ := by
  unfold cHeard
  dsimp only
  rw [h]
  rfl
end Vm

namespace Vm
open PySem L2
/-! ### lists of numbers, sorted -/
theorem set_perm {α : Type} (a : α) : ∀ (xs : List α) (i : Nat), i < xs.length → (xs.set i a).Perm (a :: xs.eraseIdx i)
  | x :: xs, 0, _ => .refl _
  | x :: xs, i + 1, h => by
    show (x :: xs.set i a).Perm (a :: x :: xs.eraseIdx i)
    exact (List.Perm.cons x (set_perm a xs i (by simpa using h))).trans (List.Perm.swap a x _)
theorem get_perm {α : Type} : ∀ (xs : List α) (i : Nat) (h : i < xs.length), xs.Perm (xs[i] :: xs.eraseIdx i)
  | x :: xs, 0, _ => .refl _
  | x :: xs, i + 1, h => by
    show (x :: xs).Perm (xs[i]'(by simpa using h) :: x :: xs.eraseIdx i)
    exact (List.Perm.cons x (get_perm xs i (by simpa using h))).trans (List.Perm.swap _ x _)
theorem sortD_congr {as bs : List Int} (h : as.Perm bs) : sortD as = sortD bs := sorted_one ((sortD_perm as).trans (h.trans (sortD_perm bs).symm)) (sortD_pw as) (sortD_pw bs)
theorem sortD_id {as : List Int} (h : as.Pairwise (· ≥ ·)) : sortD as = as := sorted_one (sortD_perm as) (sortD_pw as) h
theorem sortD_len {as : List Int} : (sortD as).length = as.length := (sortD_perm as).length_eq
theorem sortD_sum {as : List Int} : (sortD as).sum = as.sum := perm_sum (sortD_perm as)
theorem sortD_mem {as : List Int} {x : Int} : x ∈ sortD as ↔ x ∈ as := (sortD_perm as).mem_iff
/-- one put, and one taken from a box that then holds as many -/
theorem put_back {xs : List Int} (hf : xs.Pairwise (· ≥ ·)) {i j : Nat} (hi : i < xs.length) (hj : j < (sortD (xs.set i (xs[i] + 1))).length) (e : (sortD (xs.set i (xs[i] + 1)))[j] = xs[i] + 1) : sortD ((sortD (xs.set i (xs[i] + 1))).set j ((sortD (xs.set i (xs[i] + 1)))[j] - 1)) = xs := by
  have h1 := get_perm _ j hj
  have h2 := (sortD_perm (xs.set i (xs[i] + 1))).trans (set_perm (xs[i] + 1) xs i hi)
  rw [e] at h1
  have h3 : ((sortD (xs.set i (xs[i] + 1))).eraseIdx j).Perm (xs.eraseIdx i) := List.Perm.cons_inv (h1.symm.trans h2)
  rw [e, show xs[i] + 1 - 1 = xs[i] by omega]
  have h4 := (set_perm xs[i] _ j hj).trans ((List.Perm.cons _ h3).trans (get_perm xs i hi).symm)
  rw [sortD_congr h4, sortD_id hf]
theorem set_alike {xs : List Int} {i j : Nat} (hi : i < xs.length) (hj : j < xs.length) (e : xs[j] = xs[i]) (v : Int) : (xs.set j v).Perm (xs.set i v) := by
  have h1 := (get_perm xs j hj).symm.trans (get_perm xs i hi)
  rw [e] at h1
  exact (set_perm v xs j hj).trans ((List.Perm.cons v (List.Perm.cons_inv h1)).trans (set_perm v xs i hi).symm)
/-! ### loads changed -/
def cSortedL : CS :=
 (cRet (cOp1 opTuple (cOp1 opSortedR (cVar 0))))
def fSortedL : Fn := runF 1 cSortedL
theorem sortedL_ok {ns : List Int} : fSortedL [.d (.list (ns.map PyData.int))] [] = .ok (.d (.tuple ((sortD ns).map PyData.int))) [] := by
  unfold fSortedL
  rw [runF_s]
  simp [cSortedL]
theorem sortedLt_ok {ns : List Int} : fSortedL [.d (.list (ns.map PyData.int))] [] = .ok (.d (.tuple ((sortD ns).map PyData.int))) [] := sortedL_ok
def cChangedAt : CS :=
 (cSeq (cSetM 3 (cOp1 opList (cVar 0)))
 (cSeq (cPutL (cVar 3) (cVar 1) (cOp2 opAdd (cOp2 opIx (cVar 3) (cVar 1)) (cVar 2)))
 (cRet (cCallP fSortedL (lCons (cFz 3) lNil)))))
def fChangedAt : Fn := runF 4 cChangedAt
theorem changed_ok {ns : List Int} {i : Nat} {v : Int} (hi : i < ns.length) : fChangedAt [.d (.tuple (ns.map PyData.int)), .d (.int (i : Nat)), .d (.int v)] [] = .ok (.d (.tuple ((sortD (ns.set i (ns[i] + v))).map PyData.int))) [] := by
  unfold fChangedAt
  refine run_eq ?_
  unfold cChangedAt
  have ix := opIx_ln (ds := ns.map PyData.int) (i := i) (by simpa using hi)
  rw [List.getElem_map] at ix
  refine st (s1 := ⟨[.d (.tuple (ns.map PyData.int)), .d (.int (i : Nat)), .d (.int v), .c 0], [.l (ns.map PyData.int)]⟩) (by simp; exact .rfl) ?_
  have pu := putLR_s (n := 0) (k := (i : Int)) (v := .int (ns[i] + v)) (s3 := ⟨[.d (.tuple (ns.map PyData.int)), .d (.int (i : Nat)), .d (.int v), .c 0], [.l (ns.map PyData.int)]⟩) (xs := ns.map PyData.int) rfl (by omega) (by simp; omega)
  refine st (s1 := ⟨[.d (.tuple (ns.map PyData.int)), .d (.int (i : Nat)), .d (.int v), .c 0], [.l ((ns.set i (ns[i] + v)).map PyData.int)]⟩) ?_ ?_
  · have hs : (ns.map PyData.int).set i (.int (ns[i] + v)) = (ns.set i (ns[i] + v)).map PyData.int := by rw [List.map_set]
    rw [Int.toNat_natCast, hs] at pu
    simp [ix, pu]
    exact .rfl
  have fz := cFz_l (i := 3) (n := 0) (s := ⟨[.d (.tuple (ns.map PyData.int)), .d (.int (i : Nat)), .d (.int v), .c 0], [.l ((ns.set i (ns[i] + v)).map PyData.int)]⟩) rfl rfl
  exact w_rD (x := .tuple ((sortD (ns.set i (ns[i] + v))).map PyData.int)) [.gone] ⟨_, by simp [fz, sortedL_ok, -List.map_set]; exact .rfl⟩ fun _ => ok_0 ⟨rfl, rfl⟩
def fPutAt : Fn := runF 2 (cRet (cCallP fChangedAt (lCons (cVar 0) (lCons (cVar 1) (lCons (cC (.int 1)) lNil)))))
theorem putAt_ok {ns : List Int} {i : Nat} (hi : i < ns.length) : fPutAt [.d (.tuple (ns.map PyData.int)), .d (.int (i : Nat))] [] = .ok (.d (.tuple ((sortD (ns.set i (ns[i] + 1))).map PyData.int))) [] := by
  unfold fPutAt
  rw [runF_s]
  simp [changed_ok (v := 1) hi, -List.map_set]
def cTaken : CS :=
 (cSeq (cIfS (cB (cOp2 opEq (cOp2 opIx (cVar 0) (cVar 1)) (cC (.int 0))))
 (cRaise "NoBall")
 cNx)
 (cRet (cCallP fChangedAt (lCons (cVar 0) (lCons (cVar 1) (lCons (cOp1 opNeg (cC (.int 1))) lNil))))))
def fTaken : Fn := runF 2 cTaken
theorem taken_none {ns : List Int} {i : Nat} (hi : i < ns.length) (h : ns[i] = 0) : fTaken [.d (.tuple (ns.map PyData.int)), .d (.int (i : Nat))] [] = .ex "NoBall" [] := by
  have ix := opIx_tn (ds := ns.map PyData.int) (i := i) (by simpa using hi)
  rw [List.getElem_map, h] at ix
  unfold fTaken
  rw [runF_s]
  simp [cTaken, ix]
theorem taken_ok {ns : List Int} {i : Nat} (hi : i < ns.length) (h : ns[i] ≠ 0) : fTaken [.d (.tuple (ns.map PyData.int)), .d (.int (i : Nat))] [] = .ok (.d (.tuple ((sortD (ns.set i (ns[i] - 1))).map PyData.int))) [] := by
  have ix := opIx_tn (ds := ns.map PyData.int) (i := i) (by simpa using hi)
  rw [List.getElem_map] at ix
  have c := changed_ok (v := -1) hi
  rw [show ns[i] + -1 = ns[i] - 1 by omega] at c
  unfold fTaken
  rw [runF_s]
  simp [cTaken, ix, h, c, -List.map_set]
/-! ### equality of lists of like things -/
theorem okd_seq {ds : List D} (h : ∀ d, d ∈ ds → d.plain = true ∧ d.depth ≤ 59) : okd (.list ds) = true ∧ okd (.tuple ds) = true := by
  have h1 : PyData.plainAll ds = true := by
    induction ds with
    | nil => rfl
    | cons d ds ih =>
      rw [PyData.plainAll, (h d (List.mem_cons_self ..)).1, ih fun x hx => h x (List.mem_cons_of_mem _ hx)]
      rfl
  have h2 : PyData.depthAll ds ≤ 59 := by
    clear h1
    induction ds with
    | nil => exact Nat.zero_le _
    | cons d ds ih =>
      rw [PyData.depthAll]
      have := (h d (List.mem_cons_self ..)).2
      have := ih fun x hx => h x (List.mem_cons_of_mem _ hx)
      omega
  unfold okd
  rw [Bool.and_eq_true, decide_eq_true_eq, Bool.and_eq_true, decide_eq_true_eq]
  refine ⟨⟨by rw [PyData.plain]; exact h1, ?_⟩, by rw [PyData.plain]; exact h1, ?_⟩
  · show PyData.depthAll ds + 1 ≤ 60
    omega
  · show PyData.depthAll ds + 1 ≤ 60
    omega
theorem plain_tup (ns : List Int) : (PyData.tuple (ns.map PyData.int)).plain = true ∧ (PyData.tuple (ns.map PyData.int)).depth ≤ 59 := by
  refine ⟨by rw [PyData.plain]; exact plain_ints ns, ?_⟩
  show PyData.depthAll (ns.map PyData.int) + 1 ≤ 59
  rw [PySem.W.depth_ints]
  omega
theorem eqv_map {α : Type} [DecidableEq α] {F : α → D} (h : ∀ x y, PyData.eqv (F x) (F y) = decide (x = y)) : ∀ xs ys : List α, PyData.eqvAll (xs.map F) (ys.map F) = decide (xs = ys)
  | [], [] => by simp [PyData.eqvAll]
  | [], y :: ys => by simp [PyData.eqvAll]
  | x :: xs, [] => by simp [PyData.eqvAll]
  | x :: xs, y :: ys => by
    show PyData.eqvAll (F x :: xs.map F) (F y :: ys.map F) = _
    rw [PyData.eqvAll, eqv_map h xs ys, h x y]
    by_cases h1 : x = y
    · subst h1
      by_cases h2 : xs = ys <;> simp [h2]
    · simp [h1]
theorem eqv_tup {xs ys : List Int} : PyData.eqv (.tuple (xs.map PyData.int)) (.tuple (ys.map PyData.int)) = decide (xs = ys) := by rw [PyData.eqv, eqv_ints]
theorem opEq_list {α : Type} [DecidableEq α] {F : α → D} (h : ∀ x y, PyData.eqv (F x) (F y) = decide (x = y)) (hk : ∀ x, (F x).plain = true ∧ (F x).depth ≤ 59) {xs ys : List α} : opEq (.d (.list (xs.map F))) (.d (.list (ys.map F))) = some (.d (.bool (decide (xs = ys)))) := by
  have k : ∀ zs : List α, okd (.list (zs.map F)) = true := fun zs => (okd_seq fun d hd => by
    obtain ⟨z, _, rfl⟩ := List.mem_map.mp hd
    exact hk z).1
  unfold opEq eqB
  dsimp only
  rw [if_pos ⟨k xs, k ys⟩, show PyData.eqv (.list (xs.map F)) (.list (ys.map F)) = _ from by rw [PyData.eqv], eqv_map h]
theorem opNe_list {α : Type} [DecidableEq α] {F : α → D} (h : ∀ x y, PyData.eqv (F x) (F y) = decide (x = y)) (hk : ∀ x, (F x).plain = true ∧ (F x).depth ≤ 59) {xs ys : List α} : opNe (.d (.list (xs.map F))) (.d (.list (ys.map F))) = some (.d (.bool (!decide (xs = ys)))) := by
  have k : ∀ zs : List α, okd (.list (zs.map F)) = true := fun zs => (okd_seq fun d hd => by
    obtain ⟨z, _, rfl⟩ := List.mem_map.mp hd
    exact hk z).1
  unfold opNe eqB
  dsimp only
  rw [if_pos ⟨k xs, k ys⟩, show PyData.eqv (.list (xs.map F)) (.list (ys.map F)) = _ from by rw [PyData.eqv], eqv_map h]
theorem put_back' {xs ys : List Int} (hf : xs.Pairwise (· ≥ ·)) {i j : Nat} (hi : i < xs.length) (hy : sortD (xs.set i (xs[i] + 1)) = ys) (hj : j < ys.length) (e : ys[j] = xs[i] + 1) : sortD (ys.set j (ys[j] - 1)) = xs := by
  subst hy
  exact put_back hf hi hj e
end Vm

namespace Vm
open PySem L2
/-! ### the first k together -/
theorem sum_take {xs : List Int} {i : Nat} (h : i < xs.length) : (xs.take (i + 1)).sum = (xs.take i).sum + xs[i] := by
  rw [List.take_add_one, List.getElem?_eq_getElem h, List.sum_append]
  simp
theorem sum_set (a : Int) : ∀ (xs : List Int) (i : Nat) (h : i < xs.length), (xs.set i a).sum = xs.sum - xs[i] + a
  | x :: xs, 0, _ => by
    show (a :: xs).sum = (x :: xs).sum - x + a
    rw [List.sum_cons, List.sum_cons]
    omega
  | x :: xs, i + 1, h => by
    have := sum_set a xs i (by simpa using h)
    show (x :: xs.set i a).sum = (x :: xs).sum - xs[i]'(by simpa using h) + a
    rw [List.sum_cons, List.sum_cons, this]
    omega
/-- which first numbers are together more -/
def ffN (xs ys : List Int) : Option Nat := (List.range xs.length).find? fun i => decide (0 < (xs.take (i + 1)).sum - (ys.take (i + 1)).sum)
def ffD : Option Nat → D
  | none => .none
  | some i => .int ((i : Int) + 1)
theorem ffN_some {xs ys : List Int} {i : Nat} (hi : i < xs.length) (h : 0 < (xs.take (i + 1)).sum - (ys.take (i + 1)).sum) (hb : ∀ j, j < i → ¬ 0 < (xs.take (j + 1)).sum - (ys.take (j + 1)).sum) : ffN xs ys = some i := by
  unfold ffN
  rw [List.find?_range_eq_some]
  exact ⟨decide_eq_true h, List.mem_range.mpr hi, fun j hj => by rw [decide_eq_false (hb j hj)]; rfl⟩
theorem ffN_none {xs ys : List Int} (hb : ∀ j, j < xs.length → ¬ 0 < (xs.take (j + 1)).sum - (ys.take (j + 1)).sum) : ffN xs ys = none := by
  unfold ffN
  rw [List.find?_eq_none]
  intro j hj
  simpa using hb j (List.mem_range.mp hj)
def cNeedAlike : CS :=
 (cIfS (tOr' (cB (cOp2 opNe (cOp1 opLen (cVar 0)) (cOp1 opLen (cVar 1)))) (cB (cOp2 opNe (cOp1 opSum (cVar 0)) (cOp1 opSum (cVar 1)))))
 (cRaise "Unlike")
 cNx)
def fNeedAlike : Fn := runF 2 cNeedAlike
theorem need_ok {xs ys : List Int} (h : xs.length = ys.length) (hs : xs.sum = ys.sum) : fNeedAlike [.d (.tuple (xs.map PyData.int)), .d (.tuple (ys.map PyData.int))] [] = .ok (.d .none) [] := by
  unfold fNeedAlike
  rw [runF_s]
  simp [cNeedAlike, h, hs]
theorem need_not {xs ys : List Int} (h : ¬ (xs.length = ys.length ∧ xs.sum = ys.sum)) : fNeedAlike [.d (.tuple (xs.map PyData.int)), .d (.tuple (ys.map PyData.int))] [] = .ex "Unlike" [] := by
  unfold fNeedAlike
  rw [runF_s]
  by_cases h1 : xs.length = ys.length
  · have h2 : ¬ xs.sum = ys.sum := fun z => h ⟨h1, z⟩
    simp [cNeedAlike, h1, h2]
  · have h3 : ¬ ((xs.length : Int) = (ys.length : Int)) := fun z => h1 (by omega)
    simp [cNeedAlike, h3]
def cFirstFuller : CS :=
 (cSeq (cExp (cCallP fNeedAlike (lCons (cVar 0) (lCons (cVar 1) lNil))))
 (cSeq (cFor (ciR2 (cC (.int 1)) (cOp2 opAdd (cOp1 opLen (cVar 0)) (cC (.int 1)))) (tgN 2)
 (cIfS (cB (cOp2 opGt (cOp1 opSum (cSl (cVar 0) (cPt none) (cPt (some (cVar 2))))) (cOp1 opSum (cSl (cVar 1) (cPt none) (cPt (some (cVar 2)))))))
 (cRet (cVar 2))
 cNx))
 (cRet (cC .none))))
def fFirstFuller : Fn := runF 3 cFirstFuller
theorem opGt_b {i j : Int} : opGt (.d (.int i)) (.d (.int j)) = some (.d (.bool (decide (j < i)))) := rfl
theorem first_ok {xs ys : List Int} (h : xs.length = ys.length) (hs : xs.sum = ys.sum) (hl : xs.length ≤ 1000) : fFirstFuller [.d (.tuple (xs.map PyData.int)), .d (.tuple (ys.map PyData.int))] [] = .ok (.d (ffD (ffN xs ys))) [] := by
  unfold fFirstFuller
  refine run_eq ?_
  unfold cFirstFuller
  have e := need_ok h hs
  refine st (s1 := ⟨[.d (.tuple (xs.map PyData.int)), .d (.tuple (ys.map PyData.int)), .u], []⟩) (by simp [e]; exact .rfl) ?_
  have r2 := ciR2_s (c := cC (.int 1)) (c' := cOp2 opAdd (cOp1 opLen (cVar 0)) (cC (.int 1))) (s := ⟨[.d (.tuple (xs.map PyData.int)), .d (.tuple (ys.map PyData.int)), .u], []⟩) (s1 := ⟨[.d (.tuple (xs.map PyData.int)), .d (.tuple (ys.map PyData.int)), .u], []⟩) (s2 := ⟨[.d (.tuple (xs.map PyData.int)), .d (.tuple (ys.map PyData.int)), .u], []⟩) (n := 1) (m := (xs.length : Int) + 1) (by simp) (by simp) (by decide) (by decide) (by omega) (by omega)
  rw [show ((xs.length : Int) + 1 - 1).toNat = xs.length by omega] at r2
  refine w_cut (fun s => ffN xs ys = none ∧ ∃ x2, s = ⟨[.d (.tuple (xs.map PyData.int)), .d (.tuple (ys.map PyData.int)), x2], []⟩) ?_ fun s hs => ?_
  · refine w_for (ds := rangeD 1 xs.length) (fun i s => (∃ x2, s = ⟨[.d (.tuple (xs.map PyData.int)), .d (.tuple (ys.map PyData.int)), x2], []⟩) ∧ ∀ j, j < i → ¬ 0 < (xs.take (j + 1)).sum - (ys.take (j + 1)).sum) r2 ⟨⟨_, rfl⟩, fun j hj => nomatch hj⟩ (fun i d s hd hi => ?_) fun s hs => ?_
    · obtain ⟨⟨x2, rfl⟩, hb⟩ := hi
      obtain ⟨hi, rfl⟩ := rangeD_lt hd
      refine ⟨_, rfl, ?_⟩
      have c1 := cutD_to (xs := xs.map PyData.int) (k := 1 + (i : Int)) (by omega)
      have c2 := cutD_to (xs := ys.map PyData.int) (k := 1 + (i : Int)) (by omega)
      rw [show (1 + (i : Int)).toNat = i + 1 by omega, ← List.map_take] at c1 c2
      refine w_if (x := decide ((ys.take (i + 1)).sum < (xs.take (i + 1)).sum)) (s1 := ⟨[.d (.tuple (xs.map PyData.int)), .d (.tuple (ys.map PyData.int)), .d (.int (1 + (i : Int)))], []⟩) (by simp [c1, c2, -List.map_take]; exact .rfl) (fun hx => ?_) fun hx => ?_
      · have hx := of_decide_eq_true hx
        have hf := ffN_some hi (by omega) hb
        exact w_ret (x := .d (.int (1 + (i : Int)))) (s1 := ⟨[.d (.tuple (xs.map PyData.int)), .d (.tuple (ys.map PyData.int)), .d (.int (1 + (i : Int)))], []⟩) (by simp; exact .rfl) (ok_0 ⟨by rw [hf]; show Rv.d (.int (1 + (i : Int))) = .d (.int ((i : Int) + 1)); rw [Int.add_comm], rfl⟩)
      · have hx := of_decide_eq_false hx
        refine w_nx ⟨⟨_, rfl⟩, fun j hj => ?_⟩
        by_cases hji : j = i
        · subst hji
          omega
        · exact hb j (by omega)
    · obtain ⟨hx, hb⟩ := hs
      rw [show (rangeD 1 xs.length).length = xs.length by rw [rangeD_eq, List.length_map, rangeI_len]] at hb
      exact ⟨ffN_none hb, hx⟩
  · obtain ⟨hf, x2, rfl⟩ := hs
    exact w_rD (x := .none) [] ⟨_, by simp; exact .rfl⟩ fun _ => ok_0 ⟨by rw [hf]; rfl, rfl⟩
theorem first_not {xs ys : List Int} (h : ¬ (xs.length = ys.length ∧ xs.sum = ys.sum)) : fFirstFuller [.d (.tuple (xs.map PyData.int)), .d (.tuple (ys.map PyData.int))] [] = .ex "Unlike" [] := by
  unfold fFirstFuller
  rw [runF_s]
  simp [cFirstFuller, need_not h]
def cLawFuller : CS :=
 (cSeq (cSet 2 (cC (.int 0)))
 (cSeq (cFor (ciR1 (cOp1 opLen (cVar 0))) (tgN 3)
 (cSeq (cSet 2 (cOp2 opSub (cOp2 opAdd (cVar 2) (cOp2 opIx (cVar 0) (cVar 3))) (cOp2 opIx (cVar 1) (cVar 3))))
 (cIfS (cB (cOp2 opGt (cVar 2) (cC (.int 0))))
 (cRet (cOp2 opAdd (cVar 3) (cC (.int 1))))
 cNx)))
 (cRet (cC .none))))
def fLawFuller : Fn := runF 4 cLawFuller
theorem ixN {xs : List Int} {i : Nat} (h : i < xs.length) : opIx (.d (.tuple (xs.map PyData.int))) (.d (.int (i : Nat))) = some (.d (.int xs[i])) := by
  have q := opIx_ti (ns := xs) (i := (i : Nat)) (by omega) (by omega)
  rw [Int.toNat_natCast, List.getD_eq_getElem?_getD, List.getElem?_eq_getElem h, Option.getD_some] at q
  exact q
theorem ixL {xs : List Int} {i : Nat} (h : i < xs.length) : opIx (.d (.list (xs.map PyData.int))) (.d (.int (i : Nat))) = some (.d (.int xs[i])) := by
  have q := opIx_li (ns := xs) (i := (i : Nat)) (by omega) (by omega)
  rw [Int.toNat_natCast, List.getD_eq_getElem?_getD, List.getElem?_eq_getElem h, Option.getD_some] at q
  exact q
theorem rangeN_get {n i : Nat} {d : D} (h : ((List.range n).map fun i : Nat => PyData.int (i : Int))[i]? = some d) : i < n ∧ d = .int (i : Nat) := by
  have hi : i < n := by
    have := (List.getElem?_eq_some_iff.mp h).1
    simpa using this
  rw [List.getElem?_map, List.getElem?_range hi] at h
  exact ⟨hi, (Option.some.inj h).symm⟩
theorem lawFuller_ok {xs ys : List Int} (h : xs.length = ys.length) (hl : xs.length ≤ 1000) : fLawFuller [.d (.tuple (xs.map PyData.int)), .d (.tuple (ys.map PyData.int))] [] = .ok (.d (ffD (ffN xs ys))) [] := by
  unfold fLawFuller
  refine run_eq ?_
  unfold cLawFuller
  refine st (s1 := ⟨[.d (.tuple (xs.map PyData.int)), .d (.tuple (ys.map PyData.int)), .d (.int 0), .u], []⟩) (by simp; exact .rfl) ?_
  refine w_cut (fun s => ffN xs ys = none ∧ ∃ x2 x3, s = ⟨[.d (.tuple (xs.map PyData.int)), .d (.tuple (ys.map PyData.int)), x2, x3], []⟩) ?_ fun s hs => ?_
  · refine w_for (ds := (List.range xs.length).map fun i : Nat => PyData.int (i : Int)) (fun i s => (∃ x3, s = ⟨[.d (.tuple (xs.map PyData.int)), .d (.tuple (ys.map PyData.int)), .d (.int ((xs.take i).sum - (ys.take i).sum)), x3], []⟩) ∧ ∀ j, j < i → ¬ 0 < (xs.take (j + 1)).sum - (ys.take (j + 1)).sum)
      (ciR1_n (n := xs.length) (s := ⟨[.d (.tuple (xs.map PyData.int)), .d (.tuple (ys.map PyData.int)), .d (.int 0), .u], []⟩) (s1 := ⟨[.d (.tuple (xs.map PyData.int)), .d (.tuple (ys.map PyData.int)), .d (.int 0), .u], []⟩) (by simp) (by omega)) ⟨⟨.u, by simp⟩, fun j hj => nomatch hj⟩ (fun i d s hd hi => ?_) fun s hs => ?_
    · obtain ⟨⟨x3, rfl⟩, hb⟩ := hi
      obtain ⟨hi, rfl⟩ := rangeN_get hd
      refine ⟨_, rfl, ?_⟩
      have i1 := ixN hi
      have i2 := ixN (xs := ys) (i := i) (by omega)
      have t1 := sum_take hi
      have t2 := sum_take (xs := ys) (i := i) (by omega)
      refine st (s1 := ⟨[.d (.tuple (xs.map PyData.int)), .d (.tuple (ys.map PyData.int)), .d (.int ((xs.take (i + 1)).sum - (ys.take (i + 1)).sum)), .d (.int (i : Nat))], []⟩) ?_ ?_
      · rw [show (xs.take (i + 1)).sum - (ys.take (i + 1)).sum = (xs.take i).sum - (ys.take i).sum + xs[i] - ys[i] by omega]
        simp [i1, i2]
        exact .rfl
      refine w_if (x := decide (0 < (xs.take (i + 1)).sum - (ys.take (i + 1)).sum)) (s1 := ⟨[.d (.tuple (xs.map PyData.int)), .d (.tuple (ys.map PyData.int)), .d (.int ((xs.take (i + 1)).sum - (ys.take (i + 1)).sum)), .d (.int (i : Nat))], []⟩) (by simp [-Int.sub_pos]; exact .rfl) (fun hx => ?_) fun hx => ?_
      · have hf := ffN_some hi (of_decide_eq_true hx) hb
        exact w_ret (x := .d (.int ((i : Int) + 1))) (s1 := ⟨[.d (.tuple (xs.map PyData.int)), .d (.tuple (ys.map PyData.int)), .d (.int ((xs.take (i + 1)).sum - (ys.take (i + 1)).sum)), .d (.int (i : Nat))], []⟩) (by simp; exact .rfl) (ok_0 ⟨by rw [hf]; rfl, rfl⟩)
      · have hx := of_decide_eq_false hx
        refine w_nx ⟨⟨_, rfl⟩, fun j hj => ?_⟩
        by_cases hji : j = i
        · subst hji
          exact hx
        · exact hb j (by omega)
    · obtain ⟨⟨x3, rfl⟩, hb⟩ := hs
      rw [List.length_map, List.length_range] at hb
      exact ⟨ffN_none hb, _, _, rfl⟩
  · obtain ⟨hf, x2, x3, rfl⟩ := hs
    exact w_rD (x := .none) [] ⟨_, by simp; exact .rfl⟩ fun _ => ok_0 ⟨by rw [hf]; rfl, rfl⟩
/-! ### loads drawn by moves -/
def prI (x : Int × Int) : D := .tuple [.int x.1, .int x.2]
theorem eqv_prI (x y : Int × Int) : PyData.eqv (prI x) (prI y) = decide (x = y) := by
  obtain ⟨a, b⟩ := x
  obtain ⟨c, d⟩ := y
  have h := eqv_tup (xs := [a, b]) (ys := [c, d])
  show PyData.eqv (.tuple ([a, b].map PyData.int)) (.tuple ([c, d].map PyData.int)) = _
  rw [h]
  simp
theorem plain_prI (x : Int × Int) : (prI x).plain = true ∧ (prI x).depth ≤ 59 := plain_tup [x.1, x.2]
def cLawMoved : CS :=
 (cSeq (cSetM 3 (cOp1 opList (cVar 0)))
 (cSeq (cPutL (cVar 3) (cVar 1) (cOp2 opSub (cOp2 opIx (cVar 3) (cVar 1)) (cC (.int 1))))
 (cSeq (cPutL (cVar 3) (cVar 2) (cOp2 opAdd (cOp2 opIx (cVar 3) (cVar 2)) (cC (.int 1))))
 (cRet (cOp1 opTuple (cOp1 opSortedR (cVar 3)))))))
def fLawMoved : Fn := runF 4 cLawMoved
/-- one ball from i to j -/
def mvL (ys : List Int) (i j : Nat) : List Int := (ys.set i (ys.getD i 0 - 1)).set j ((ys.set i (ys.getD i 0 - 1)).getD j 0 + 1)
theorem mvL_len {ys : List Int} {i j : Nat} : (mvL ys i j).length = ys.length := by
  unfold mvL
  rw [List.length_set, List.length_set]
theorem getD_get {xs : List Int} {i : Nat} (h : i < xs.length) : xs.getD i 0 = xs[i] := by rw [List.getD_eq_getElem?_getD, List.getElem?_eq_getElem h, Option.getD_some]
theorem mvL_sum {ys : List Int} {i j : Nat} (hi : i < ys.length) (hj : j < ys.length) : (mvL ys i j).sum = ys.sum := by
  unfold mvL
  have hj' : j < (ys.set i (ys.getD i 0 - 1)).length := by rw [List.length_set]; exact hj
  rw [sum_set _ _ _ hj', sum_set _ _ _ hi, getD_get hj']
  have := getD_get hi
  omega
theorem mvL_pos {ys : List Int} {i j : Nat} (hi : i < ys.length) (hj : j < ys.length) (hp : ∀ y, y ∈ ys → 0 ≤ y) (h : 0 < ys.getD i 0) : ∀ y, y ∈ mvL ys i j → 0 ≤ y := fun y hy => by
  unfold mvL at hy
  have hj' : j < (ys.set i (ys.getD i 0 - 1)).length := by rw [List.length_set]; exact hj
  have p1 : ∀ z, z ∈ ys.set i (ys.getD i 0 - 1) → 0 ≤ z := fun z hz => by
    rcases List.mem_or_eq_of_mem_set hz with hz | rfl
    · exact hp z hz
    · omega
  rcases List.mem_or_eq_of_mem_set hy with hy | rfl
  · exact p1 y hy
  · rw [getD_get hj']
    have := p1 _ (List.getElem_mem hj')
    omega
theorem lawMoved_ok {ys : List Int} {i j : Nat} (hi : i < ys.length) (hj : j < ys.length) : fLawMoved [.d (.tuple (ys.map PyData.int)), .d (.int (i : Nat)), .d (.int (j : Nat))] [] = .ok (.d (.tuple ((sortD (mvL ys i j)).map PyData.int))) [] := by
  unfold fLawMoved
  refine run_eq ?_
  unfold cLawMoved
  obtain ⟨zs, hz⟩ : ∃ zs, ys.set i (ys.getD i 0 - 1) = zs := ⟨_, rfl⟩
  have hzl : zs.length = ys.length := by rw [← hz, List.length_set]
  have ix := ixL hi
  have iz := ixL (xs := zs) (i := j) (by omega)
  have hm : mvL ys i j = zs.set j (zs[j]'(by omega) + 1) := by
    unfold mvL
    rw [hz, getD_get (by omega : j < zs.length)]
  refine st (s1 := ⟨[.d (.tuple (ys.map PyData.int)), .d (.int (i : Nat)), .d (.int (j : Nat)), .c 0], [.l (ys.map PyData.int)]⟩) (by simp; exact .rfl) ?_
  have pu := putLR_s (n := 0) (k := (i : Int)) (v := .int (ys[i] - 1)) (s3 := ⟨[.d (.tuple (ys.map PyData.int)), .d (.int (i : Nat)), .d (.int (j : Nat)), .c 0], [.l (ys.map PyData.int)]⟩) (xs := ys.map PyData.int) rfl (by omega) (by simp; omega)
  have pv := putLR_s (n := 0) (k := (j : Int)) (v := .int (zs[j]'(by omega) + 1)) (s3 := ⟨[.d (.tuple (ys.map PyData.int)), .d (.int (i : Nat)), .d (.int (j : Nat)), .c 0], [.l (zs.map PyData.int)]⟩) (xs := zs.map PyData.int) rfl (by omega) (by simp; omega)
  rw [Int.toNat_natCast, ← List.map_set, ← getD_get hi, hz] at pu
  rw [Int.toNat_natCast, ← List.map_set, ← hm] at pv
  rw [getD_get hi] at pu
  refine st (s1 := ⟨[.d (.tuple (ys.map PyData.int)), .d (.int (i : Nat)), .d (.int (j : Nat)), .c 0], [.l (zs.map PyData.int)]⟩) (by simp [ix, pu]; exact .rfl) ?_
  refine st (s1 := ⟨[.d (.tuple (ys.map PyData.int)), .d (.int (i : Nat)), .d (.int (j : Nat)), .c 0], [.l ((mvL ys i j).map PyData.int)]⟩) (by simp [iz, pv]; exact .rfl) ?_
  exact w_rD (x := .tuple ((sortD (mvL ys i j)).map PyData.int)) [.l ((mvL ys i j).map PyData.int)] ⟨_, by simp; exact .rfl⟩ fun _ => ok_0 ⟨rfl, rfl⟩
def cLawCan : CS :=
 (cSeq (cSetM 1 (cLst cNil))
 (cSeq (cFor (ciR1 (cOp1 opLen (cVar 0))) (tgN 2)
 (cExp (cMut fExt (cVar 1) (cCons (cLc [3] (ciR1 (cOp1 opLen (cVar 0))) (tgN 3) (cB (cOp2 opGt (cOp2 opSub (cOp2 opIx (cVar 0) (cVar 2)) (cOp2 opIx (cVar 0) (cVar 3))) (cC (.int 1)))) (cTup (cCons (cVar 2) (cCons (cVar 3) cNil)))) cNil))))
 (cRet (cVar 1))))
def fLawCan : Fn := runF 4 cLawCan
/-- all pairs of a first one below k are there, where the first holds at least two more -/
def HasN (ys : List Int) (k : Nat) (ps : List (Int × Int)) : Prop := ∀ i j, i < k → j < ys.length → 1 < ys.getD i 0 - ys.getD j 0 → ((i : Int), (j : Int)) ∈ ps
def InN (n : Nat) (ps : List (Int × Int)) : Prop := ∀ q, q ∈ ps → 0 ≤ q.1 ∧ q.1 < n ∧ 0 ≤ q.2 ∧ q.2 < n
theorem lawCan_ok {ys : List Int} (hl : ys.length ≤ 100) : ∃ ps : List (Int × Int), fLawCan [.d (.tuple (ys.map PyData.int))] [] = .ok (.new (.l (ps.map prI))) [] ∧ InN ys.length ps ∧ ps.length ≤ ys.length * ys.length ∧ HasN ys ys.length ps := by
  suffices h : Ok (fLawCan [.d (.tuple (ys.map PyData.int))] []) fun a m => ∃ ps : List (Int × Int), a = .new (.l (ps.map prI)) ∧ m = [] ∧ InN ys.length ps ∧ ps.length ≤ ys.length * ys.length ∧ HasN ys ys.length ps by
    obtain ⟨_, _, e, ps, rfl, rfl, h⟩ := h
    exact ⟨ps, e, h⟩
  unfold fLawCan
  apply run_ok
  unfold cLawCan
  refine st (s1 := ⟨[.d (.tuple (ys.map PyData.int)), .c 0, .u, .u], [.l []]⟩) (by simp; exact .rfl) ?_
  refine w_cut (fun s => ∃ x2 x3 ps, s = ⟨[.d (.tuple (ys.map PyData.int)), .c 0, x2, x3], [.l (ps.map prI)]⟩ ∧ InN ys.length ps ∧ ps.length ≤ ys.length * ys.length ∧ HasN ys ys.length ps) ?_ fun s hs => ?_
  · refine w_for (ds := (List.range ys.length).map fun i : Nat => PyData.int (i : Int)) (fun i s => ∃ x2 x3 ps, s = ⟨[.d (.tuple (ys.map PyData.int)), .c 0, x2, x3], [.l (ps.map prI)]⟩ ∧ InN ys.length ps ∧ ps.length ≤ i * ys.length ∧ HasN ys i ps)
      (ciR1_n (n := ys.length) (s := ⟨[.d (.tuple (ys.map PyData.int)), .c 0, .u, .u], [.l []]⟩) (s1 := ⟨[.d (.tuple (ys.map PyData.int)), .c 0, .u, .u], [.l []]⟩) (by simp) (by omega)) ⟨.u, .u, [], rfl, (fun q hq => nomatch hq), Nat.zero_le _, fun i j hi => nomatch hi⟩ (fun i d s hd hi => ?_) fun s hs => ?_
    · obtain ⟨x2, x3, ps, rfl, hp, hl2, hh⟩ := hi
      obtain ⟨hi, rfl⟩ := rangeN_get hd
      refine ⟨_, rfl, ?_⟩
      have ixi := ixN hi
      have r1 := ciR1_n (c := cOp1 opLen (cVar 0)) (s := ⟨[.d (.tuple (ys.map PyData.int)), .c 0, .d (.int (i : Nat)), x3], [.l (ps.map prI)]⟩) (s1 := ⟨[.d (.tuple (ys.map PyData.int)), .c 0, .d (.int (i : Nat)), x3], [.l (ps.map prI)]⟩) (n := ys.length) (by simp) (by omega)
      have l := lc_some (own := [3]) (ci := ciR1 (cOp1 opLen (cVar 0))) (tg := tgN 3) (tt := (cB (cOp2 opGt (cOp2 opSub (cOp2 opIx (cVar 0) (cVar 2)) (cOp2 opIx (cVar 0) (cVar 3))) (cC (.int 1))))) (el := (cTup (cCons (cVar 2) (cCons (cVar 3) cNil)))) (xs := List.range ys.length) (F := fun i : Nat => PyData.int (i : Int)) (fun j => decide (1 < ys.getD i 0 - ys.getD j 0)) (fun j => prI ((i : Int), (j : Int))) r1 (by simp; omega) fun j hj => by
        have hj := List.mem_range.mp hj
        have ixj := ixN hj
        rw [getD_get hi, getD_get hj]
        exact ⟨_, rfl, [.d (.tuple (ys.map PyData.int)), .c 0, .d (.int (i : Nat)), .d (.int (j : Nat))], by simp [ixi, ixj], fun _ => ⟨[.d (.tuple (ys.map PyData.int)), .c 0, .d (.int (i : Nat)), .d (.int (j : Nat))], by simp; rfl⟩⟩
      obtain ⟨bs, hbs⟩ : ∃ bs, (List.range ys.length).filter (fun j => decide (1 < ys.getD i 0 - ys.getD j 0)) = bs := ⟨_, rfl⟩
      rw [hbs] at l
      have hb : ∀ j, j ∈ bs → j < ys.length := fun j hj => by
        rw [← hbs] at hj
        exact List.mem_range.mp (List.mem_filter.mp hj).1
      have bl : bs.length ≤ ys.length := by
        rw [← hbs]
        have := List.length_filter_le (fun j => decide (1 < ys.getD i 0 - ys.getD j 0)) (List.range ys.length)
        rw [List.length_range] at this
        omega
      have mul1 : i * ys.length ≤ 100 * 100 := Nat.mul_le_mul (by omega) hl
      have fe := fExt_s (xs := ps.map prI) (ys := bs.map fun j : Nat => prI ((i : Int), (j : Int))) (by simp; omega)
      refine st_last (s1 := ⟨[.d (.tuple (ys.map PyData.int)), .c 0, .d (.int (i : Nat)), x3], [.l ((ps ++ bs.map fun j : Nat => ((i : Int), (j : Int))).map prI)]⟩) ?_ ⟨_, _, _, rfl, fun q hq => ?_, ?_, fun a b ha hb2 hab => ?_⟩
      · rw [List.map_append, List.map_map]
        show Is _ (Out.nx ⟨_, [.l (ps.map prI ++ bs.map fun j : Nat => prI ((i : Int), (j : Int)))]⟩)
        simp [l, fe, -List.map_append]
        exact .rfl
      · rcases List.mem_append.mp hq with hq | hq
        · exact hp q hq
        · obtain ⟨j, hj, rfl⟩ := List.mem_map.mp hq
          have := hb j hj
          dsimp only
          omega
      · rw [List.length_append, List.length_map, Nat.succ_mul]
        omega
      · by_cases hai : a = i
        · subst hai
          refine List.mem_append_right _ (List.mem_map.mpr ⟨b, ?_, rfl⟩)
          rw [← hbs]
          exact List.mem_filter.mpr ⟨List.mem_range.mpr hb2, decide_eq_true hab⟩
        · exact List.mem_append_left _ (hh a b (by omega) hb2 hab)
    · obtain ⟨x2, x3, ps, rfl, hp, hl2, hh⟩ := hs
      rw [List.length_map, List.length_range] at hl2 hh
      exact ⟨_, _, _, rfl, hp, hl2, hh⟩
  · obtain ⟨x2, x3, ps, rfl, hp, hl2, hh⟩ := hs
    exact w_ret (x := .ref 0) (s1 := ⟨[.d (.tuple (ys.map PyData.int)), .c 0, x2, x3], [.l (ps.map prI)]⟩) (by simp; exact .rfl) (ok_cell (c := .l (ps.map prI)) (by simp) rfl nofun ⟨ps, rfl, rfl, hp, hl2, hh⟩)
end Vm

namespace Vm
open PySem L2
def cLawOther : CS :=
 (cSeq (cSet 2 (cCall fDrawA (lCons (cVar 0) (lCons (cC (.int 4)) lNil))))
 (cSeq (cSet 3 (cOp1 opList (cVar 1)))
 (cSeq (cFor (ciR1 (cCall fDrawA (lCons (cVar 0) (lCons (cC (.int 6)) lNil)))) (tgN 4)
 (cSeq (cSet 5 (cCallP fLawCan (lCons (cOp1 opTuple (cVar 3)) lNil)))
 (cSeq (cSet 6 (cCall fDrawA (lCons (cVar 0) (lCons (cOp1 opLen (cVar 1)) lNil))))
 (cSeq (cSet 7 (cCall fDrawA (lCons (cVar 0) (lCons (cOp1 opLen (cVar 1)) lNil))))
 (cSeq (cIfS (tAnd' (cB (cOp2 opEq (cVar 2) (cC (.int 0)))) (cB (cOp2 opNe (cVar 5) (cLst cNil))))
 (cAsg (tgTup 2 (tgCons (tgN 6) (tgCons (tgN 7) tgNil))) (cOp2 opIx (cVar 5) (cCall fDrawA (lCons (cVar 0) (lCons (cOp1 opLen (cVar 5)) lNil)))))
 cNx)
 (cSeq (cIfS (cB (cOp2 opEq (cVar 2) (cC (.int 1))))
 (cPar 6 7 (cOp2 opMax2 (cVar 6) (cVar 7)) (cOp2 opMin2 (cVar 6) (cVar 7)))
 cNx)
 (cIfS (cB (cOp2 opGt (cOp2 opIx (cVar 3) (cVar 6)) (cC (.int 0))))
 (cSet 3 (cOp1 opList (cCallP fLawMoved (lCons (cOp1 opTuple (cVar 3)) (lCons (cVar 6) (lCons (cVar 7) lNil))))))
 cNx)))))))
 (cRet (cOp1 opTuple (cOp1 opSortedR (cVar 3)))))))
def fLawOther : Fn := runF 8 cLawOther
theorem opNe_nil {ps : List (Int × Int)} : opNe (.d (.list (ps.map prI))) (.d (.list [])) = some (.d (.bool (!decide (ps = [])))) := opNe_list (F := prI) eqv_prI plain_prI (xs := ps) (ys := [])
theorem lawOther_ok {B : Nat} {p : Cell} (r : List Cell) {xs : List Int} (hp : IsPen B p) (hB : B < 900000) (h0 : 1 ≤ xs.length) (h1 : xs.length ≤ 6) (hx : ∀ x, x ∈ xs → 0 ≤ x) :
    ∃ (zs : List Int) (p' : Cell), fLawOther [.c 0, .d (.tuple (xs.map PyData.int))] (p :: r) = .ok (.d (.tuple (zs.map PyData.int))) (p' :: r) ∧ (zs.length = xs.length ∧ (∀ z, z ∈ zs → 0 ≤ z) ∧ zs.sum = xs.sum ∧ zs.Pairwise (· ≥ ·)) ∧ IsPen (B + 30) p' := by
  suffices h : Ok (fLawOther [.c 0, .d (.tuple (xs.map PyData.int))] (p :: r)) fun a m => ∃ (zs : List Int) (p' : Cell), a = .d (.tuple (zs.map PyData.int)) ∧ m = p' :: r ∧ (zs.length = xs.length ∧ (∀ z, z ∈ zs → 0 ≤ z) ∧ zs.sum = xs.sum ∧ zs.Pairwise (· ≥ ·)) ∧ IsPen (B + 30) p' by
    obtain ⟨_, _, e, zs, p', rfl, rfl, h⟩ := h
    exact ⟨zs, p', e, h⟩
  unfold fLawOther
  apply run_ok
  unfold cLawOther
  obtain ⟨w, p1, e1, w0, w1, hp1⟩ := dA r 4 hp
  obtain ⟨v, p2, e2, v0, v1, hp2⟩ := dA r 6 hp1
  obtain ⟨n, hn⟩ : ∃ n : Nat, (n : Int) = v := ⟨v.toNat, by omega⟩
  subst hn
  let G := fun ys : List Int => ys.length = xs.length ∧ (∀ z, z ∈ ys → 0 ≤ z) ∧ ys.sum = xs.sum
  refine st (s1 := ⟨[.c 0, .d (.tuple (xs.map PyData.int)), .d (.int w), .u, .u, .u, .u, .u], p1 :: r⟩) (by simp [e1]; exact .rfl) ?_
  refine st (s1 := ⟨[.c 0, .d (.tuple (xs.map PyData.int)), .d (.int w), .d (.list (xs.map PyData.int)), .u, .u, .u, .u], p1 :: r⟩) (by simp; exact .rfl) ?_
  refine w_cut (fun s => ∃ (ys : List Int) (x4 x5 x6 x7 : Sl) (p : Cell), s = ⟨[.c 0, .d (.tuple (xs.map PyData.int)), .d (.int w), .d (.list (ys.map PyData.int)), x4, x5, x6, x7], p :: r⟩ ∧ G ys ∧ IsPen (B + 30) p) ?_ fun s hs => ?_
  · refine w_for (ds := (List.range n).map fun i : Nat => PyData.int (i : Int)) (fun i s => ∃ (ys : List Int) (x4 x5 x6 x7 : Sl) (p : Cell), s = ⟨[.c 0, .d (.tuple (xs.map PyData.int)), .d (.int w), .d (.list (ys.map PyData.int)), x4, x5, x6, x7], p :: r⟩ ∧ G ys ∧ IsPen (B + 2 + 4 * i) p)
      (ciR1_n (n := n) (s := ⟨[.c 0, .d (.tuple (xs.map PyData.int)), .d (.int w), .d (.list (xs.map PyData.int)), .u, .u, .u, .u], p1 :: r⟩) (s1 := ⟨[.c 0, .d (.tuple (xs.map PyData.int)), .d (.int w), .d (.list (xs.map PyData.int)), .u, .u, .u, .u], p2 :: r⟩) (by simp [e2]) (by omega)) ⟨xs, .u, .u, .u, .u, p2, rfl, ⟨rfl, hx, rfl⟩, hp2.mono (by omega)⟩ (fun i d s hd hi => ?_) fun s hs => ?_
    · obtain ⟨ys, x4, x5, x6, x7, p, rfl, hg, hp⟩ := hi
      obtain ⟨hi, rfl⟩ := rangeN_get hd
      obtain ⟨g1, g2, g3⟩ := hg
      refine ⟨_, rfl, ?_⟩
      obtain ⟨ps, ec, hin, hpl, _⟩ := lawCan_ok (ys := ys) (by omega)
      have hpl2 : ps.length ≤ 6 * 6 := Nat.le_trans hpl (Nat.mul_le_mul (by omega) (by omega))
      obtain ⟨a, q1, f1, a0, a1, hq1⟩ := dA r (xs.length : Int) hp (by omega) (by omega) (by omega)
      obtain ⟨b, q2, f2, b0, b1, hq2⟩ := dA r (xs.length : Int) hq1 (by omega) (by omega) (by omega)
      refine st (s1 := ⟨[.c 0, .d (.tuple (xs.map PyData.int)), .d (.int w), .d (.list (ys.map PyData.int)), .d (.int (i : Nat)), .d (.list (ps.map prI)), x6, x7], p :: r⟩) (by simp [ec]; exact .rfl) ?_
      refine st (s1 := ⟨[.c 0, .d (.tuple (xs.map PyData.int)), .d (.int w), .d (.list (ys.map PyData.int)), .d (.int (i : Nat)), .d (.list (ps.map prI)), .d (.int a), x7], q1 :: r⟩) (by simp [f1]; exact .rfl) ?_
      refine st (s1 := ⟨[.c 0, .d (.tuple (xs.map PyData.int)), .d (.int w), .d (.list (ys.map PyData.int)), .d (.int (i : Nat)), .d (.list (ps.map prI)), .d (.int a), .d (.int b)], q2 :: r⟩) (by simp [f2]; exact .rfl) ?_
      let N := fun s : S => ∃ a b p, s = ⟨[.c 0, .d (.tuple (xs.map PyData.int)), .d (.int w), .d (.list (ys.map PyData.int)), .d (.int (i : Nat)), .d (.list (ps.map prI)), .d (.int a), .d (.int b)], p :: r⟩ ∧ (0 ≤ a ∧ a < xs.length ∧ 0 ≤ b ∧ b < xs.length) ∧ IsPen (B + 2 + 4 * i + 3) p
      refine w_cut N ?_ fun s hs => ?_
      · by_cases hc : w = 0 ∧ ps ≠ []
        · obtain ⟨rfl, hne⟩ := hc
          have hpos : 0 < ps.length := List.length_pos_iff.mpr hne
          obtain ⟨k, q3, f3, k0, k1, hq3⟩ := dA r (ps.length : Int) hq2 (by omega) (by omega) (by omega)
          obtain ⟨m, hm⟩ : ∃ m : Nat, (m : Int) = k := ⟨k.toNat, by omega⟩
          subst hm
          have hm : m < ps.length := by omega
          have ix := opIx_ln (ds := ps.map prI) (i := m) (by simpa using hm)
          rw [List.getElem_map] at ix
          have hq := hin _ (List.getElem_mem hm)
          have epr : prI ps[m] = .tuple [.int ps[m].1, .int ps[m].2] := rfl
          rw [epr] at ix
          refine w_ifT (s1 := ⟨[.c 0, .d (.tuple (xs.map PyData.int)), .d (.int 0), .d (.list (ys.map PyData.int)), .d (.int (i : Nat)), .d (.list (ps.map prI)), .d (.int a), .d (.int b)], q2 :: r⟩) (by simp [opNe_nil, hne]; exact .rfl) ?_
          exact st_last (s1 := ⟨[.c 0, .d (.tuple (xs.map PyData.int)), .d (.int 0), .d (.list (ys.map PyData.int)), .d (.int (i : Nat)), .d (.list (ps.map prI)), .d (.int ps[m].1), .d (.int ps[m].2)], q3 :: r⟩) (by simp [f3, ix, asg_2]; exact .rfl) ⟨_, _, q3, rfl, by omega, hq3.mono (by omega)⟩
        · refine w_ifF (s1 := ⟨[.c 0, .d (.tuple (xs.map PyData.int)), .d (.int w), .d (.list (ys.map PyData.int)), .d (.int (i : Nat)), .d (.list (ps.map prI)), .d (.int a), .d (.int b)], q2 :: r⟩) ?_ (w_nx ⟨a, b, q2, rfl, by omega, hq2.mono (by omega)⟩)
          by_cases hw : w = 0
          · have hz : ps = [] := Classical.byContradiction fun z => hc ⟨hw, z⟩
            simp [hw, opNe_nil, hz]
            exact .rfl
          · simp [hw]
            exact .rfl
      obtain ⟨a, b, q3, rfl, hab, hq3⟩ := hs
      refine w_cut N ?_ fun s hs => ?_
      · by_cases hw : w = 1
        · subst hw
          refine w_ifT (by simp; exact .rfl) ?_
          exact st_last (s1 := ⟨[.c 0, .d (.tuple (xs.map PyData.int)), .d (.int 1), .d (.list (ys.map PyData.int)), .d (.int (i : Nat)), .d (.list (ps.map prI)), .d (.int (if b > a then b else a)), .d (.int (if b < a then b else a))], q3 :: r⟩) (by simp; exact .rfl) ⟨_, _, q3, rfl, by split <;> split <;> omega, hq3⟩
        · exact w_ifF (by simp [hw]; exact .rfl) (w_nx ⟨a, b, q3, rfl, hab, hq3⟩)
      obtain ⟨a, b, q4, rfl, hab, hq4⟩ := hs
      obtain ⟨a', ha'⟩ : ∃ a' : Nat, (a' : Int) = a := ⟨a.toNat, by omega⟩
      obtain ⟨b', hb'⟩ : ∃ b' : Nat, (b' : Int) = b := ⟨b.toNat, by omega⟩
      subst ha' hb'
      have la : a' < ys.length := by omega
      have lb : b' < ys.length := by omega
      have ixa := ixL la
      have mv := lawMoved_ok la lb
      refine w_if (x := decide (0 < ys[a'])) (s1 := ⟨[.c 0, .d (.tuple (xs.map PyData.int)), .d (.int w), .d (.list (ys.map PyData.int)), .d (.int (i : Nat)), .d (.list (ps.map prI)), .d (.int (a' : Nat)), .d (.int (b' : Nat))], q4 :: r⟩) (by simp [ixa]; exact .rfl) (fun hh => ?_) fun hh => ?_
      · have hh := of_decide_eq_true hh
        refine st_last (s1 := ⟨[.c 0, .d (.tuple (xs.map PyData.int)), .d (.int w), .d (.list ((sortD (mvL ys a' b')).map PyData.int)), .d (.int (i : Nat)), .d (.list (ps.map prI)), .d (.int (a' : Nat)), .d (.int (b' : Nat))], q4 :: r⟩) (by simp [mv]; exact .rfl) ⟨_, _, _, _, _, q4, rfl, ⟨?_, fun z hz => ?_, ?_⟩, hq4.mono (by omega)⟩
        · rw [sortD_len, mvL_len, g1]
        · exact mvL_pos la lb g2 (by rw [getD_get la]; exact hh) z (sortD_mem.mp hz)
        · rw [sortD_sum, mvL_sum la lb, g3]
      · exact w_nx ⟨ys, _, _, _, _, q4, rfl, ⟨g1, g2, g3⟩, hq4.mono (by omega)⟩
    · obtain ⟨ys, x4, x5, x6, x7, p, rfl, hg, hp⟩ := hs
      rw [List.length_map, List.length_range] at hp
      exact ⟨ys, _, _, _, _, p, rfl, hg, hp.mono (by omega)⟩
  · obtain ⟨ys, x4, x5, x6, x7, p, rfl, ⟨g1, g2, g3⟩, hp⟩ := hs
    exact w_rD (x := .tuple ((sortD ys).map PyData.int)) (p :: r) ⟨_, by simp; exact .rfl⟩ fun _ => ok_p ⟨sortD ys, p, rfl, rfl, ⟨by rw [sortD_len, g1], fun z hz => g2 z (sortD_mem.mp hz), by rw [sortD_sum, g3], sortD_pw ys⟩, hp⟩
end Vm

namespace Vm
open PySem L2
/-! ### the order of loads, in plain words -/
def Fall (xs : List Int) : Prop := ∀ a b, a < b → b < xs.length → xs.getD b 0 ≤ xs.getD a 0
theorem fall_iff {xs : List Int} : xs.Pairwise (· ≥ ·) ↔ Fall xs := by
  rw [List.pairwise_iff_getElem]
  constructor
  · intro h a b hab hb
    rw [getD_get hb, getD_get (by omega : a < xs.length)]
    exact h a b (by omega) hb hab
  · intro h a b ha hb hab
    have := h a b hab hb
    rw [getD_get hb, getD_get ha] at this
    exact this
theorem getD_set {xs : List Int} {i a : Nat} {v : Int} (ha : a < xs.length) : (xs.set i v).getD a 0 = if i = a then v else xs.getD a 0 := by
  rw [getD_get (by rw [List.length_set]; exact ha), List.getElem_set]
  split
  · rfl
  · rw [getD_get ha]
theorem mvL_get {ys : List Int} {i j a : Nat} (hi : i < ys.length) (hj : j < ys.length) (hij : i ≠ j) (ha : a < ys.length) : (mvL ys i j).getD a 0 = ys.getD a 0 - (if a = i then 1 else 0) + (if a = j then 1 else 0) := by
  have ha' : a < (ys.set i (ys.getD i 0 - 1)).length := by rw [List.length_set]; exact ha
  unfold mvL
  rw [getD_set ha', getD_set hj, getD_set ha, if_neg hij]
  by_cases h1 : j = a
  · subst h1
    have h3 : ¬ j = i := fun z => hij z.symm
    simp [hij, h3] <;> omega
  · have h4 : ¬ a = j := fun z => h1 z.symm
    by_cases h2 : i = a
    · subst h2
      simp [h1, hij] <;> omega
    · have h3 : ¬ a = i := fun z => h2 z.symm
      simp [h1, h2, h3, h4] <;> omega
theorem sum_takeD {xs : List Int} {i : Nat} (h : i < xs.length) : (xs.take (i + 1)).sum = (xs.take i).sum + xs.getD i 0 := by
  rw [sum_take h, getD_get h]
/-- the first k of a load with one ball moved -/
theorem mvL_take {ys : List Int} {i j : Nat} (hi : i < ys.length) (hj : j < ys.length) (hij : i ≠ j) : ∀ k, k ≤ ys.length → ((mvL ys i j).take k).sum = (ys.take k).sum - (if i < k then 1 else 0) + (if j < k then 1 else 0)
  | 0, _ => by simp
  | k + 1, h => by
    have ih := mvL_take hi hj hij k (by omega)
    rw [sum_takeD (by rw [mvL_len]; omega), ih, sum_takeD (by omega), mvL_get hi hj hij (by omega)]
    split <;> split <;> split <;> split <;> split <;> split <;> omega
theorem take_le {xs ys : List Int} (hl : xs.length = ys.length) : ∀ j, j ≤ xs.length → (∀ i, i < j → ys.getD i 0 ≤ xs.getD i 0) → (ys.take j).sum ≤ (xs.take j).sum
  | 0, _, _ => by simp
  | j + 1, h, q => by
    have ih := take_le hl j (by omega) fun i hi => q i (by omega)
    have := q j (by omega)
    rw [sum_takeD (by omega), sum_takeD (by omega)]
    omega
theorem ge_eq : ∀ {xs ys : List Int}, xs.length = ys.length → xs.sum = ys.sum → (∀ i, i < xs.length → xs.getD i 0 ≤ ys.getD i 0) → xs = ys
  | [], [], _, _, _ => rfl
  | [], _ :: _, h, _, _ => by simp at h
  | _ :: _, [], h, _, _ => by simp at h
  | x :: xs, y :: ys, h, hs, q => by
    have h0 : x ≤ y := q 0 (by simp)
    have ht : ∀ i, i < xs.length → xs.getD i 0 ≤ ys.getD i 0 := fun i hi => q (i + 1) (by simpa using hi)
    have hl : xs.length = ys.length := by simpa using h
    have hsum : xs.sum ≤ ys.sum := by
      have := take_le (xs := ys) (ys := xs) hl.symm xs.length (by omega) ht
      rw [List.take_length, hl, List.take_length] at this
      exact this
    rw [List.sum_cons, List.sum_cons] at hs
    have hx : x = y := by omega
    subst hx
    rw [ge_eq hl (by omega) ht]
theorem last_of {p : Nat → Prop} : ∀ j, (∃ i, i < j ∧ p i) → ∃ i, i < j ∧ p i ∧ ∀ k, i < k → k < j → ¬ p k
  | 0, ⟨i, h, _⟩ => by omega
  | j + 1, h => by
    by_cases hp : p j
    · exact ⟨j, by omega, hp, fun k h1 h2 => by omega⟩
    · obtain ⟨i, hi, q⟩ := h
      have hij : i < j := by
        rcases Nat.lt_succ_iff_lt_or_eq.mp hi with h | h
        · exact h
        · subst h
          exact absurd q hp
      obtain ⟨i', h1, h2, h3⟩ := last_of j ⟨i, hij, q⟩
      exact ⟨i', by omega, h2, fun k a b => by
        by_cases hk : k = j
        · subst hk
          exact hp
        · exact h3 k a (by omega)⟩
theorem first_of {p : Nat → Prop} : ∀ n, (∃ i, i < n ∧ p i) → ∃ i, i < n ∧ p i ∧ ∀ k, k < i → ¬ p k
  | 0, ⟨i, h, _⟩ => by omega
  | n + 1, h => by
    by_cases q : ∃ i, i < n ∧ p i
    · obtain ⟨i, h1, h2, h3⟩ := first_of n q
      exact ⟨i, by omega, h2, h3⟩
    · obtain ⟨i, hi, hp⟩ := h
      have : i = n := by
        rcases Nat.lt_succ_iff_lt_or_eq.mp hi with z | z
        · exact absurd ⟨i, z, hp⟩ q
        · exact z
      subst this
      exact ⟨i, by omega, hp, fun k hk z => q ⟨k, hk, z⟩⟩
/-- ys is no emptier: its first numbers are together no fewer -/
def Maj (xs ys : List Int) : Prop := ∀ k, k ≤ xs.length → (xs.take k).sum ≤ (ys.take k).sum
theorem maj_of {xs ys : List Int} (h : ffN xs ys = none) : Maj xs ys := fun k hk => by
  unfold ffN at h
  rw [List.find?_eq_none] at h
  cases k with
  | zero => simp
  | succ k =>
    have := h k (List.mem_range.mpr (by omega))
    have : ¬ 0 < (xs.take (k + 1)).sum - (ys.take (k + 1)).sum := by simpa using this
    omega
/-- the next move: to the first box that lacks, from the last one ahead that has more -/
structure Nx (xs ys : List Int) (i j : Nat) : Prop where
  ij : i < j
  jn : j < ys.length
  lack : ys.getD j 0 < xs.getD j 0
  fst : ∀ k, k < j → ¬ ys.getD k 0 < xs.getD k 0
  more : xs.getD i 0 < ys.getD i 0
  lst : ∀ k, i < k → k < j → ¬ xs.getD k 0 < ys.getD k 0
theorem nx_has {xs ys : List Int} (hl : xs.length = ys.length) (hs : xs.sum = ys.sum) (hm : Maj xs ys) (hne : ys ≠ xs) : ∃ i j, Nx xs ys i j := by
  have h1 : ∃ j, j < ys.length ∧ ys.getD j 0 < xs.getD j 0 := Classical.byContradiction fun z => hne (ge_eq hl hs fun i hi => by
    have : ¬ ys.getD i 0 < xs.getD i 0 := fun q => z ⟨i, by omega, q⟩
    omega).symm
  obtain ⟨j, hj, hlt, hf⟩ := first_of _ h1
  have h2 : ∃ i, i < j ∧ xs.getD i 0 < ys.getD i 0 := Classical.byContradiction fun z => by
    have h3 := take_le hl j (by omega) fun i hi => by
      have : ¬ xs.getD i 0 < ys.getD i 0 := fun q => z ⟨i, hi, q⟩
      omega
    have h4 := hm (j + 1) (by omega)
    rw [sum_takeD (by omega), sum_takeD (by omega)] at h4
    omega
  obtain ⟨i, hi, hmore, hlast⟩ := last_of j h2
  exact ⟨i, j, hi, hj, hlt, hf, hmore, hlast⟩
section
variable {xs ys : List Int} {i j : Nat}
theorem Nx.two (h : Nx xs ys i j) (hl : xs.length = ys.length) (fx : Fall xs) : ys.getD j 0 + 2 ≤ ys.getD i 0 := by
  have h1 := fx i j h.ij (by have := h.jn; omega)
  have h2 := h.lack
  have h3 := h.more
  omega
theorem Nx.fall (h : Nx xs ys i j) (hl : xs.length = ys.length) (fx : Fall xs) (fy : Fall ys) : Fall (mvL ys i j) := fun a b hab hb => by
  rw [mvL_len] at hb
  have hj := h.jn
  have hij := h.ij
  rw [mvL_get (by omega) hj (by omega) hb, mvL_get (by omega) hj (by omega) (by omega)]
  have e1 := fy a b hab hb
  have e2 := h.lack
  have e3 := h.more
  have e4 := fx i j hij (by omega)
  have e5 : i < b → b < j → ys.getD b 0 ≤ xs.getD b 0 := fun p q => by have := h.lst b p q; omega
  have e6 : i < b → xs.getD b 0 ≤ xs.getD i 0 := fun p => fx i b p (by omega)
  have e7 : j < b → ys.getD b 0 ≤ ys.getD j 0 := fun p => fy j b p hb
  have e8 : a < j → ¬ ys.getD a 0 < xs.getD a 0 := fun p => h.fst a p
  have e9 : a < j → xs.getD j 0 ≤ xs.getD a 0 := fun p => fx a j p (by omega)
  by_cases a1 : a = i
  · subst a1
    rw [if_pos rfl, if_neg (by omega : ¬ a = j), if_neg (by omega : ¬ b = a)]
    by_cases b1 : b = j
    · subst b1
      rw [if_pos rfl]
      omega
    · rw [if_neg b1]
      by_cases b2 : b < j
      · have := e5 hab b2
        have := e6 hab
        omega
      · have := e7 (by omega)
        omega
  · rw [if_neg a1]
    by_cases b1 : b = j
    · subst b1
      have := e8 hab
      have := e9 hab
      rw [if_neg (by omega : ¬ b = i), if_pos rfl, if_neg (by omega : ¬ a = b)]
      omega
    · rw [if_neg b1]
      split <;> split <;> omega
theorem Nx.maj (h : Nx xs ys i j) (hl : xs.length = ys.length) (hm : Maj xs ys) : Maj xs (mvL ys i j) := fun k hk => by
  have hj := h.jn
  have hij := h.ij
  rw [mvL_take (by omega) hj (by omega) k (by omega)]
  have h0 := hm k hk
  by_cases c : i < k ∧ k ≤ j
  · -- between, the first k are more together
    have h1 : (xs.take k).sum + 1 ≤ (ys.take k).sum := by
      have g : ∀ m, i < m → m ≤ k → (xs.take m).sum + 1 ≤ (ys.take m).sum := by
        intro m
        induction m with
        | zero => intro a; omega
        | succ m ih =>
          intro a b
          rw [sum_takeD (by omega), sum_takeD (by omega)]
          by_cases hmi : m = i
          · subst hmi
            have := hm m (by omega)
            have := h.more
            omega
          · have := ih (by omega) (by omega)
            have := h.fst m (by omega)
            omega
      exact g k c.1 (Nat.le_refl _)
    rw [if_pos c.1, if_neg (by omega : ¬ j < k)]
    omega
  · split <;> split <;> omega
end
/-- how far: the first numbers, all together -/
def phi (ys : List Int) : Int := ((List.range (ys.length + 1)).map fun k => (ys.take k).sum).sum
theorem sum_lt {f g : Nat → Int} : ∀ (l : List Nat), (∀ k, k ∈ l → f k ≤ g k) → (l.map f).sum ≤ (l.map g).sum ∧ ((∃ k, k ∈ l ∧ f k < g k) → (l.map f).sum < (l.map g).sum)
  | [], _ => ⟨Int.le_refl _, fun ⟨k, h, _⟩ => nomatch h⟩
  | x :: l, h => by
    obtain ⟨i1, i2⟩ := sum_lt l fun k hk => h k (List.mem_cons_of_mem _ hk)
    have h0 := h x (List.mem_cons_self ..)
    rw [List.map_cons, List.map_cons, List.sum_cons, List.sum_cons]
    refine ⟨by omega, fun ⟨k, hk, hlt⟩ => ?_⟩
    rcases List.mem_cons.mp hk with rfl | hk
    · omega
    · have := i2 ⟨k, hk, hlt⟩
      omega
theorem Nx.phi {xs ys : List Int} {i j : Nat} (h : Nx xs ys i j) : phi (mvL ys i j) < phi ys := by
  have hj := h.jn
  have hij := h.ij
  unfold Vm.phi
  rw [mvL_len]
  refine (sum_lt (List.range (ys.length + 1)) fun k hk => ?_).2 ⟨j, List.mem_range.mpr (by omega), ?_⟩
  · have hk := List.mem_range.mp hk
    rw [mvL_take (by omega) hj (by omega) k (by omega)]
    split <;> split <;> omega
  · rw [mvL_take (by omega) hj (by omega) j (by omega), if_pos hij, if_neg (by omega : ¬ j < j)]
    omega
theorem phi_pos {ys : List Int} (h : ∀ y, y ∈ ys → 0 ≤ y) : 0 ≤ phi ys := by
  unfold phi
  refine sum_nonneg fun x hx => ?_
  obtain ⟨k, _, rfl⟩ := List.mem_map.mp hx
  exact sum_nonneg fun y hy => h y (List.mem_of_mem_take hy)
theorem phi_le {ys : List Int} (h : ∀ y, y ∈ ys → 0 ≤ y) : phi ys ≤ (ys.length + 1) * ys.sum := by
  unfold phi
  have := sum_le_mul (b := ys.sum) (xs := (List.range (ys.length + 1)).map fun k => (ys.take k).sum) fun x hx => by
    obtain ⟨k, _, rfl⟩ := List.mem_map.mp hx
    have e : ys.sum = (ys.take k).sum + (ys.drop k).sum := by rw [← List.sum_append, List.take_append_drop]
    have := sum_nonneg fun y hy => h y (List.mem_of_mem_drop (i := k) hy)
    omega
  rw [List.length_map, List.length_range] at this
  rw [Int.mul_comm]
  simpa using this
/-- a list of moves leads from ys on to xs -/
def Leads : List (Nat × Nat) → List Int → List Int → Prop
  | [], ys, xs => ys = xs
  | q :: qs, ys, xs => q.1 < ys.length ∧ q.2 < ys.length ∧ ys.getD q.2 0 + 2 ≤ ys.getD q.1 0 ∧ Leads qs (sortD (mvL ys q.1 q.2)) xs
theorem Leads.snoc {q : Nat × Nat} : ∀ {qs : List (Nat × Nat)} {ys zs : List Int}, Leads qs ys zs → q.1 < zs.length → q.2 < zs.length → zs.getD q.2 0 + 2 ≤ zs.getD q.1 0 → Leads (qs ++ [q]) ys (sortD (mvL zs q.1 q.2))
  | [], ys, zs, h, a, b, c => by
    have h : ys = zs := h
    subst h
    exact ⟨a, b, c, rfl⟩
  | p :: qs, ys, zs, ⟨h1, h2, h3, h4⟩, a, b, c => ⟨h1, h2, h3, h4.snoc a b c⟩
end Vm

namespace Vm
open PySem L2
def prN (q : Nat × Nat) : D := .tuple [.int (q.1 : Int), .int (q.2 : Int)]
theorem prN_mk {a b : Nat} : PyData.tuple [PyData.int (a : Int), PyData.int (b : Int)] = prN (a, b) := rfl
@[simp] theorem prN_0 {q : Nat × Nat} : opIx (.d (prN q)) (.d (.int 0)) = some (.d (.int (q.1 : Int))) := rfl
@[simp] theorem prN_1 {q : Nat × Nat} : opIx (.d (prN q)) (.d (.int 1)) = some (.d (.int (q.2 : Int))) := rfl
def cIsMove : CS :=
 (cSeq (cIfS (tOr' (tNot' (cTru (cOp1 (opIsi "tuple") (cVar 1)))) (tOr' (cB (cOp2 opNe (cOp1 opLen (cVar 1)) (cC (.int 2)))) (tNot' (cTru (cOp1 opAll (cLc [4] (ciSeq (cVar 1)) (tgN 4) ctYes (cCallP fWhole (lCons (cVar 4) lNil))))))))
 (cRet (cC (.bool false)))
 cNx)
 (cSeq (cAsg (tgTup 2 (tgCons (tgN 2) (tgCons (tgN 3) tgNil))) (cVar 1))
 (cSeq (cIfS (tOr' (tNot' (cB (cChain opLe opLt (cC (.int 0)) (cVar 2) (cOp1 opLen (cVar 0))))) (tNot' (cB (cChain opLe opLt (cC (.int 0)) (cVar 3) (cOp1 opLen (cVar 0))))))
 (cRet (cC (.bool false)))
 cNx)
 (cRet (cOp2 opGe (cOp2 opIx (cVar 0) (cVar 2)) (cOp2 opAdd (cOp2 opIx (cVar 0) (cVar 3)) (cC (.int 2))))))))
def fIsMove : Fn := runF 5 cIsMove
theorem isMove_ok {ys : List Int} {q : Nat × Nat} (h1 : q.1 < ys.length) (h2 : q.2 < ys.length) (h : ys.getD q.2 0 + 2 ≤ ys.getD q.1 0) : fIsMove [.d (.tuple (ys.map PyData.int)), .d (prN q)] [] = .ok (.d (.bool true)) [] := by
  unfold fIsMove
  refine run_eq ?_
  unfold cIsMove
  have l := lc_for (own := [4]) (ci := ciSeq (cVar 1)) (tg := tgN 4) (el := cCallP fWhole (lCons (cVar 4) lNil)) (s := ⟨[.d (.tuple (ys.map PyData.int)), .d (prN q), .u, .u, .u], []⟩) (s1 := ⟨[.d (.tuple (ys.map PyData.int)), .d (prN q), .u, .u, .u], []⟩) (xs := [(q.1 : Int), (q.2 : Int)]) (F := PyData.int) (fun _ => PyData.bool true) (by simp [prN]) (by simp) fun y hy => ⟨_, rfl, _, by simp [whole_ok] <;> rfl⟩
  have ti : isiB "tuple" (tyN (.d (prN q))) = true := rfl
  have ln : opLen (.d (prN q)) = some (.d (.int 2)) := rfl
  have al : opAll (.d (.list [.bool true, .bool true])) = some (.d (.bool true)) := rfl
  have i1 := ixN h1
  have i2 := ixN h2
  rw [getD_get h1, getD_get h2] at h
  refine st (s1 := ⟨[.d (.tuple (ys.map PyData.int)), .d (prN q), .u, .u, .u], []⟩) (by simp at l; simp [ti, ln, l, al]; exact .rfl) ?_
  refine st (s1 := ⟨[.d (.tuple (ys.map PyData.int)), .d (prN q), .d (.int (q.1 : Int)), .d (.int (q.2 : Int)), .u], []⟩) (by simp [prN, asg_2]; exact .rfl) ?_
  have z1 : (q.1 : Int) < (ys.length : Int) := by omega
  have z2 : (q.2 : Int) < (ys.length : Int) := by omega
  refine st (s1 := ⟨[.d (.tuple (ys.map PyData.int)), .d (prN q), .d (.int (q.1 : Int)), .d (.int (q.2 : Int)), .u], []⟩) (by simp [h1, h2, z1, z2]; exact .rfl) ?_
  exact w_rD (x := .bool true) [] ⟨_, by simp [i1, i2, h]; exact .rfl⟩ fun _ => ok_0 ⟨rfl, rfl⟩
def cMoved : CS :=
 (cSeq (cSetM 2 (cOp1 opList (cVar 0)))
 (cSeq (cPutL (cVar 2) (cOp2 opIx (cVar 1) (cC (.int 0))) (cOp2 opSub (cOp2 opIx (cVar 2) (cOp2 opIx (cVar 1) (cC (.int 0)))) (cC (.int 1))))
 (cSeq (cPutL (cVar 2) (cOp2 opIx (cVar 1) (cC (.int 1))) (cOp2 opAdd (cOp2 opIx (cVar 2) (cOp2 opIx (cVar 1) (cC (.int 1)))) (cC (.int 1))))
 (cRet (cCallP fSortedL (lCons (cFz 2) lNil))))))
def fMoved : Fn := runF 3 cMoved
theorem moved_ok {ys : List Int} {q : Nat × Nat} (hi : q.1 < ys.length) (hj : q.2 < ys.length) : fMoved [.d (.tuple (ys.map PyData.int)), .d (prN q)] [] = .ok (.d (.tuple ((sortD (mvL ys q.1 q.2)).map PyData.int))) [] := by
  unfold fMoved
  refine run_eq ?_
  unfold cMoved
  obtain ⟨zs, hz⟩ : ∃ zs, ys.set q.1 (ys.getD q.1 0 - 1) = zs := ⟨_, rfl⟩
  have hzl : zs.length = ys.length := by rw [← hz, List.length_set]
  have ix := ixL hi
  have iz := ixL (xs := zs) (i := q.2) (by omega)
  have hm : mvL ys q.1 q.2 = zs.set q.2 (zs[q.2]'(by omega) + 1) := by
    unfold mvL
    rw [hz, getD_get (by omega : q.2 < zs.length)]
  refine st (s1 := ⟨[.d (.tuple (ys.map PyData.int)), .d (prN q), .c 0], [.l (ys.map PyData.int)]⟩) (by simp; exact .rfl) ?_
  have pu := putLR_s (n := 0) (k := (q.1 : Int)) (v := .int (ys[q.1] - 1)) (s3 := ⟨[.d (.tuple (ys.map PyData.int)), .d (prN q), .c 0], [.l (ys.map PyData.int)]⟩) (xs := ys.map PyData.int) rfl (by omega) (by simp; omega)
  have pv := putLR_s (n := 0) (k := (q.2 : Int)) (v := .int (zs[q.2]'(by omega) + 1)) (s3 := ⟨[.d (.tuple (ys.map PyData.int)), .d (prN q), .c 0], [.l (zs.map PyData.int)]⟩) (xs := zs.map PyData.int) rfl (by omega) (by simp; omega)
  rw [Int.toNat_natCast, ← List.map_set, ← getD_get hi, hz] at pu
  rw [Int.toNat_natCast, ← List.map_set, ← hm] at pv
  rw [getD_get hi] at pu
  refine st (s1 := ⟨[.d (.tuple (ys.map PyData.int)), .d (prN q), .c 0], [.l (zs.map PyData.int)]⟩) (by simp [ix, pu]; exact .rfl) ?_
  refine st (s1 := ⟨[.d (.tuple (ys.map PyData.int)), .d (prN q), .c 0], [.l ((mvL ys q.1 q.2).map PyData.int)]⟩) (by simp [iz, pv]; exact .rfl) ?_
  have fz := cFz_l (i := 2) (n := 0) (s := ⟨[.d (.tuple (ys.map PyData.int)), .d (prN q), .c 0], [.l ((mvL ys q.1 q.2).map PyData.int)]⟩) rfl rfl
  exact w_rD (x := .tuple ((sortD (mvL ys q.1 q.2)).map PyData.int)) [.gone] ⟨_, by simp [fz, sortedL_ok]; exact .rfl⟩ fun _ => ok_0 ⟨rfl, rfl⟩
/-! ### the next move -/
theorem range_first {p : Nat → Bool} {n j : Nat} (hj : j < n) (h : p j = true) (hf : ∀ k, k < j → p k = false) : ∃ r, (List.range n).filter p = j :: r ∧ r.length ≤ n := by
  obtain ⟨m, rfl⟩ : ∃ m, n = j + 1 + m := ⟨n - (j + 1), by omega⟩
  refine ⟨((List.range m).map (j + 1 + ·)).filter p, ?_, ?_⟩
  · rw [List.range_add, List.filter_append, List.range_succ, List.filter_append]
    have e1 : (List.range j).filter p = [] := List.filter_eq_nil_iff.mpr fun k hk => by
      rw [hf k (List.mem_range.mp hk)]
      decide
    rw [e1]
    simp [h]
  · have := List.length_filter_le p ((List.range m).map (j + 1 + ·))
    rw [List.length_map, List.length_range] at this
    omega
theorem range_last {p : Nat → Bool} {n i : Nat} (hi : i < n) (h : p i = true) (hf : ∀ k, i < k → k < n → p k = false) : ∃ l, (List.range n).filter p = l ++ [i] ∧ l.length ≤ n := by
  obtain ⟨m, rfl⟩ : ∃ m, n = i + 1 + m := ⟨n - (i + 1), by omega⟩
  refine ⟨(List.range i).filter p, ?_, ?_⟩
  · rw [List.range_add, List.filter_append, List.range_succ, List.filter_append]
    have e1 : ((List.range m).map (i + 1 + ·)).filter p = [] := List.filter_eq_nil_iff.mpr fun k hk => by
      obtain ⟨a, ha, rfl⟩ := List.mem_map.mp hk
      have := List.mem_range.mp ha
      rw [hf _ (by omega) (by omega)]
      decide
    rw [e1, List.append_nil]
    simp [h]
  · have := List.length_filter_le p (List.range i)
    rw [List.length_range] at this
    omega
def cNextMove : CS :=
 (cSeq (cSet 2 (cOp2 opIx (cLc [4] (ciR1 (cOp1 opLen (cVar 1))) (tgN 4) (cB (cOp2 opLt (cOp2 opIx (cVar 0) (cVar 4)) (cOp2 opIx (cVar 1) (cVar 4)))) (cVar 4)) (cC (.int 0))))
 (cSeq (cSet 3 (cOp2 opIx (cLc [4] (ciR1 (cVar 2)) (tgN 4) (cB (cOp2 opGt (cOp2 opIx (cVar 0) (cVar 4)) (cOp2 opIx (cVar 1) (cVar 4)))) (cVar 4)) (cOp1 opNeg (cC (.int 1)))))
 (cRet (cTup (cCons (cVar 3) (cCons (cVar 2) cNil))))))
def fNextMove : Fn := runF 5 cNextMove
theorem next_ok {xs ys : List Int} {i j : Nat} (h : Nx xs ys i j) (hl : xs.length = ys.length) (h1 : xs.length ≤ 100) : fNextMove [.d (.tuple (ys.map PyData.int)), .d (.tuple (xs.map PyData.int))] [] = .ok (.d (prN (i, j))) [] := by
  unfold fNextMove
  refine run_eq ?_
  unfold cNextMove
  have hj := h.jn
  have hij := h.ij
  have r1 := ciR1_n (c := cOp1 opLen (cVar 1)) (s := ⟨[.d (.tuple (ys.map PyData.int)), .d (.tuple (xs.map PyData.int)), .u, .u, .u], []⟩) (s1 := ⟨[.d (.tuple (ys.map PyData.int)), .d (.tuple (xs.map PyData.int)), .u, .u, .u], []⟩) (n := xs.length) (by simp) (by omega)
  have l1 := lc_some (own := [4]) (ci := ciR1 (cOp1 opLen (cVar 1))) (tg := tgN 4) (tt := (cB (cOp2 opLt (cOp2 opIx (cVar 0) (cVar 4)) (cOp2 opIx (cVar 1) (cVar 4))))) (el := cVar 4) (xs := List.range xs.length) (F := fun i : Nat => PyData.int (i : Int)) (fun k => decide (ys.getD k 0 < xs.getD k 0)) (fun k => PyData.int (k : Int)) r1 (by simp; omega) fun k hk => by
    have hk := List.mem_range.mp hk
    have i1 := ixN hk
    have i2 := ixN (xs := ys) (i := k) (by omega)
    rw [getD_get hk, getD_get (by omega : k < ys.length)]
    exact ⟨_, rfl, [.d (.tuple (ys.map PyData.int)), .d (.tuple (xs.map PyData.int)), .u, .u, .d (.int (k : Nat))], by simp [i1, i2], fun _ => ⟨[.d (.tuple (ys.map PyData.int)), .d (.tuple (xs.map PyData.int)), .u, .u, .d (.int (k : Nat))], by simp⟩⟩
  obtain ⟨rr, er, lr⟩ := range_first (p := fun k => decide (ys.getD k 0 < xs.getD k 0)) (n := xs.length) (j := j) (by omega) (decide_eq_true h.lack) fun k hk => decide_eq_false (h.fst k hk)
  rw [er, List.map_cons] at l1
  have ix0 : opIx (.d (.list (PyData.int (j : Int) :: rr.map fun k : Nat => PyData.int (k : Int)))) (.d (.int 0)) = some (.d (.int (j : Int))) := opIx_ln (i := 0) (by simp)
  refine st (s1 := ⟨[.d (.tuple (ys.map PyData.int)), .d (.tuple (xs.map PyData.int)), .d (.int (j : Nat)), .u, .u], []⟩) (by simp [l1, ix0]; exact .rfl) ?_
  have r2 := ciR1_n (c := cVar 2) (s := ⟨[.d (.tuple (ys.map PyData.int)), .d (.tuple (xs.map PyData.int)), .d (.int (j : Nat)), .u, .u], []⟩) (s1 := ⟨[.d (.tuple (ys.map PyData.int)), .d (.tuple (xs.map PyData.int)), .d (.int (j : Nat)), .u, .u], []⟩) (n := j) (by simp) (by omega)
  have l2 := lc_some (own := [4]) (ci := ciR1 (cVar 2)) (tg := tgN 4) (tt := (cB (cOp2 opGt (cOp2 opIx (cVar 0) (cVar 4)) (cOp2 opIx (cVar 1) (cVar 4))))) (el := cVar 4) (xs := List.range j) (F := fun i : Nat => PyData.int (i : Int)) (fun k => decide (xs.getD k 0 < ys.getD k 0)) (fun k => PyData.int (k : Int)) r2 (by simp; omega) fun k hk => by
    have hk := List.mem_range.mp hk
    have i1 := ixN (xs := xs) (i := k) (by omega)
    have i2 := ixN (xs := ys) (i := k) (by omega)
    rw [getD_get (by omega : k < xs.length), getD_get (by omega : k < ys.length)]
    exact ⟨_, rfl, [.d (.tuple (ys.map PyData.int)), .d (.tuple (xs.map PyData.int)), .d (.int (j : Nat)), .u, .d (.int (k : Nat))], by simp [i1, i2], fun _ => ⟨[.d (.tuple (ys.map PyData.int)), .d (.tuple (xs.map PyData.int)), .d (.int (j : Nat)), .u, .d (.int (k : Nat))], by simp⟩⟩
  obtain ⟨ll, el, lll⟩ := range_last (p := fun k => decide (xs.getD k 0 < ys.getD k 0)) (n := j) (i := i) hij (decide_eq_true h.more) fun k a b => decide_eq_false (h.lst k a b)
  rw [el] at l2
  have ix1 : opIx (.d (.list ((ll ++ [i]).map fun k : Nat => PyData.int (k : Int)))) (.d (.int (-1))) = some (.d (.int (i : Int))) := opIx_l (atI_last (by rw [List.map_append]; simp))
  refine st (s1 := ⟨[.d (.tuple (ys.map PyData.int)), .d (.tuple (xs.map PyData.int)), .d (.int (j : Nat)), .d (.int (i : Nat)), .u], []⟩) (by simp [l2, ix1, -List.map_append]; exact .rfl) ?_
  exact w_rD (x := prN (i, j)) [] ⟨_, by simp [prN_mk]; exact .rfl⟩ fun _ => ok_0 ⟨rfl, rfl⟩
def cMoves : CS :=
 (cSeq (cIfS (cB (cOp2 (opIs true) (cCallP fFirstFuller (lCons (cVar 0) (lCons (cVar 1) lNil))) (cC .none)))
 (cRet (cC .none))
 cNx)
 (cSeq (cSet 2 (cVar 1))
 (cSeq (cSetM 3 (cLst cNil))
 (cSeq (cWh (fun _ => 1000000) (cB (cOp2 opNe (cVar 2) (cVar 0)))
 (cSeq (cExp (cMut fApp (cVar 3) (cCons (cCallP fNextMove (lCons (cVar 2) (lCons (cVar 0) lNil))) cNil)))
 (cSet 2 (cCallP fMoved (lCons (cVar 2) (lCons (cOp2 opIx (cVar 3) (cOp1 opNeg (cC (.int 1)))) lNil))))))
 (cRet (cVar 3))))))
def fMoves : Fn := runF 4 cMoves
theorem moves_not {xs ys : List Int} (h : ¬ (xs.length = ys.length ∧ xs.sum = ys.sum)) : fMoves [.d (.tuple (xs.map PyData.int)), .d (.tuple (ys.map PyData.int))] [] = .ex "Unlike" [] := by
  unfold fMoves
  rw [runF_s]
  simp [cMoves, first_not h]
theorem moves_none {xs ys : List Int} {o : Nat} (h : xs.length = ys.length) (hs : xs.sum = ys.sum) (hl : xs.length ≤ 100) (hf : ffN xs ys = some o) : fMoves [.d (.tuple (xs.map PyData.int)), .d (.tuple (ys.map PyData.int))] [] = .ok (.d .none) [] := by
  have e := first_ok h hs (by omega)
  rw [hf] at e
  unfold fMoves
  rw [runF_s]
  simp [cMoves, e, ffD, isNone]
theorem moves_ok {xs ys : List Int} (h : xs.length = ys.length) (hs : xs.sum = ys.sum) (hl : xs.length ≤ 100) (hf : ffN xs ys = none) (fx : Fall xs) (fy : Fall ys) (py : ∀ y, y ∈ ys → 0 ≤ y) (hb : ys.sum ≤ 1000) :
    ∃ qs : List (Nat × Nat), fMoves [.d (.tuple (xs.map PyData.int)), .d (.tuple (ys.map PyData.int))] [] = .ok (.new (.l (qs.map prN))) [] ∧ Leads qs ys xs ∧ qs.length ≤ 200000 := by
  suffices hh : Ok (fMoves [.d (.tuple (xs.map PyData.int)), .d (.tuple (ys.map PyData.int))] []) fun a m => ∃ qs : List (Nat × Nat), a = .new (.l (qs.map prN)) ∧ m = [] ∧ Leads qs ys xs ∧ qs.length ≤ 200000 by
    obtain ⟨_, _, e, qs, rfl, rfl, hh⟩ := hh
    exact ⟨qs, e, hh⟩
  unfold fMoves
  apply run_ok
  unfold cMoves
  have e := first_ok h hs (by omega)
  rw [hf] at e
  have hb0 : phi ys ≤ 200000 := by
    have h1 := phi_le py
    have h2 : ((ys.length : Int) + 1) * ys.sum ≤ 101 * 1000 := Int.mul_le_mul (by omega) hb (sum_nonneg py) (by omega)
    omega
  refine st (s1 := ⟨[.d (.tuple (xs.map PyData.int)), .d (.tuple (ys.map PyData.int)), .u, .u], []⟩) (by simp [e, ffD, isNone]; exact .rfl) ?_
  refine st (s1 := ⟨[.d (.tuple (xs.map PyData.int)), .d (.tuple (ys.map PyData.int)), .d (.tuple (ys.map PyData.int)), .u], []⟩) (by simp; exact .rfl) ?_
  refine st (s1 := ⟨[.d (.tuple (xs.map PyData.int)), .d (.tuple (ys.map PyData.int)), .d (.tuple (ys.map PyData.int)), .c 0], [.l []]⟩) (by simp; exact .rfl) ?_
  refine w_cut (fun s => ∃ (qs : List (Nat × Nat)) (x2 : Sl), s = ⟨[.d (.tuple (xs.map PyData.int)), .d (.tuple (ys.map PyData.int)), x2, .c 0], [.l (qs.map prN)]⟩ ∧ Leads qs ys xs ∧ qs.length ≤ 200000) ?_ fun s hs => ?_
  · refine w_while (fun k s => ∃ (qs : List (Nat × Nat)) (zs : List Int), s = ⟨[.d (.tuple (xs.map PyData.int)), .d (.tuple (ys.map PyData.int)), .d (.tuple (zs.map PyData.int)), .c 0], [.l (qs.map prN)]⟩ ∧ Leads qs ys zs ∧ zs.length = xs.length ∧ zs.sum = xs.sum ∧ Fall zs ∧ Maj xs zs ∧ (∀ z, z ∈ zs → 0 ≤ z) ∧ phi zs ≤ (k : Int) ∧ qs.length + k ≤ 200000) 200000 (by decide) ⟨[], ys, rfl, rfl, h.symm, hs.symm, fy, maj_of hf, py, hb0, by simp⟩ fun k s hi => ?_
    obtain ⟨qs, zs, rfl, hL, zl, zs', fz, mz, pz, hp, hq⟩ := hi
    refine ⟨!decide (zs = xs), ⟨[.d (.tuple (xs.map PyData.int)), .d (.tuple (ys.map PyData.int)), .d (.tuple (zs.map PyData.int)), .c 0], [.l (qs.map prN)]⟩, by simp [opNe_intsT], fun hx => ?_, fun hx => ?_⟩
    · have hx : zs = xs := by simpa using hx
      subst hx
      exact ⟨qs, _, rfl, hL, by omega⟩
    · have hx : zs ≠ xs := by simpa using hx
      obtain ⟨i, j, hn⟩ := nx_has zl.symm zs'.symm mz hx
      have hj := hn.jn
      have hij := hn.ij
      have en := next_ok hn zl.symm (by omega)
      have em := moved_ok (ys := zs) (q := (i, j)) (by show i < zs.length; omega) hj
      have fm := hn.fall zl.symm fx fz
      have two := hn.two zl.symm fx
      have es : sortD (mvL zs i j) = mvL zs i j := sortD_id (fall_iff.mpr fm)
      have hph := hn.phi
      have hp0 := phi_pos (ys := mvL zs i j) (mvL_pos (by omega) hj pz (by
        have := pz _ (List.getElem_mem hj)
        rw [← getD_get hj] at this
        omega))
      have fa : fApp (qs.map prN) [prN (i, j)] = some (.none, (qs ++ [(i, j)]).map prN) := by
        have z := fApp_s (xs := qs.map prN) (d := prN (i, j)) (by simp; omega)
        rw [z, List.map_append]
        rfl
      have ixl : opIx (.d (.list ((qs ++ [(i, j)]).map prN))) (.d (.int (-1))) = some (.d (prN (i, j))) := opIx_l (atI_last (by rw [List.map_append]; simp))
      refine st (s1 := ⟨[.d (.tuple (xs.map PyData.int)), .d (.tuple (ys.map PyData.int)), .d (.tuple (zs.map PyData.int)), .c 0], [.l ((qs ++ [(i, j)]).map prN)]⟩) (by simp [en, fa, -List.map_append]; exact .rfl) ?_
      refine st_last (s1 := ⟨[.d (.tuple (xs.map PyData.int)), .d (.tuple (ys.map PyData.int)), .d (.tuple ((mvL zs i j).map PyData.int)), .c 0], [.l ((qs ++ [(i, j)]).map prN)]⟩) (by rw [es] at em; simp [ixl, em, -List.map_append]; exact .rfl) ?_
      have hs1 := hL.snoc (q := (i, j)) (by show i < zs.length; omega) hj two
      rw [show sortD (mvL zs ((i, j) : Nat × Nat).1 ((i, j) : Nat × Nat).2) = mvL zs i j from es] at hs1
      exact ⟨k - 1, by omega, qs ++ [(i, j)], mvL zs i j, rfl, hs1, by rw [mvL_len, zl], by rw [mvL_sum (by omega) hj, zs'], fm, hn.maj zl.symm mz, mvL_pos (by omega) hj pz (by
        have := pz _ (List.getElem_mem hj)
        rw [← getD_get hj] at this
        omega), by omega, by rw [List.length_append]; simp; omega⟩
  · obtain ⟨qs, x2, rfl, hL, hq⟩ := hs
    exact w_ret (x := .ref 0) (s1 := ⟨[.d (.tuple (xs.map PyData.int)), .d (.tuple (ys.map PyData.int)), x2, .c 0], [.l (qs.map prN)]⟩) (by simp; exact .rfl) (ok_cell (c := .l (qs.map prN)) (by simp) rfl nofun ⟨qs, rfl, rfl, hL, hq⟩)
end Vm

namespace Vm
open PySem L2 PySem.Spec PyProof.Rows
/-! ### a list lent to a call that tells a plain answer -/
/-- the argument is our list at i, as it stands when the call begins; it stays ours -/
def lLend (i : Nat) (cl : CL) : CL := fun s => match s.v[i]? with
  | some (.c _) => (cl s).bind fun r s2 => match s2.v[i]? with
    | some (.c n) => match s2.m[n]? with
      | some (.l ds) => .ok (.d (.list ds) :: r) s2
      | _ => .bad
    | _ => .bad
  | _ => .bad
def D.imm : D → Bool
  | .none => true
  | .bool _ => true
  | .int _ => true
  | .str _ => true
  | _ => false
def RF.lent (s : S) : RF → R Rv
  | .ok (.d x) _ => if D.imm x = true then .ok (.d x) s else .bad
  | .ex e _ => .ex e s
  | _ => .bad
def cCallV (f : Fn) (cl : CL) : CE := fun s => (cl s).bind fun as s1 => if as.all Sl.isD = true then (f as []).lent s1 else .bad
/-- the ground with what is lent -/
structure Lnt (w : Wd) (G : Hp) : Prop where
  g : Same w.G G
  h : Same G w.H
  t : NoTG G
  r : ∀ b o, G b = some o → w.G b = some o ∨ b ∈ w.r
def rdV (K : Fg) (ec : EC) (W : WX) (c : CL) : TA := fun σ H Q => ∃ w s, w.H = H ∧ Rel ec K w σ s ∧ Res (fun as s' => ∀ vs w' G, Le w w' → Rel ec K w' σ s' → Lnt w' G → ArgsOk ec K ⟨G, w'.r, w'.F, w'.H⟩ vs as → Q vs w'.H) (okE K ec W σ w) (c s)
section
variable {X : Cx} {ec : EC} {W : WX}
theorem v_nil : PA X [] (rdV X.K ec W lNil) := PA.imp pa_nil fun σ H Q h => by
  obtain ⟨w, s, rfl, hr, h⟩ := h
  exact h [] w w.G (Le.refl w) hr ⟨Same.refl _, hr.mem.ext, hr.mem.gt, fun _ _ e => .inl e⟩ .nil
theorem v_cons {e : Expr} {es : List Expr} {c : CE} {cl : CL} (h1 : Ex X ec W e c) (h2 : PA X es (rdV X.K ec W cl)) (hs : starEach (e :: es) X.env = (false, eval e X.env) :: starEach es X.env := by rfl) : PA X (e :: es) (rdV X.K ec W (lCons c cl)) :=
  PA.imp (pa_cons h1 h2 hs) fun σ H Q h => by
    obtain ⟨w, s, rfl, hr, h⟩ := h
    show rd X.K ec W c σ w.H _
    refine run_cv hr h fun x w1 s1 a le1 hr1 ha hn h1 => ?_
    cases a with
    | ref n =>
      simp only [slOf] at h1
      refine ⟨w1, s1, rfl, hr1, ?_⟩
      refine Res.mono h1.bind (fun as s2 h2 vs w2 G le2 hr2 ln rp => ?_) fun _ _ q => okE_le le1 q
      obtain ⟨p, e1, e2⟩ := ha
      exact h2 (x :: vs) w2 G (le1.trans le2) hr2 ln (.cons ⟨p, by rw [e1], le2.cell e2⟩ rp)
    | new c => exact absurd rfl (hn c)
    | d y =>
      simp only [slOf] at h1
      refine ⟨w1, s1, rfl, hr1, ?_⟩
      refine Res.mono h1.bind (fun as s2 h2 vs w2 G le2 hr2 ln rp => ?_) fun _ _ q => okE_le le1 q
      exact h2 (x :: vs) w2 G (le1.trans le2) hr2 ln (.cons ⟨x, rfl, Rp.mono (le2.g.trans ln.g) _ _ ha⟩ rp)
theorem v_lend (i : Nat) {x : Str} {pos : Pos} {es : List Expr} {cl : CL} (h2 : PA X es (rdV X.K ec W cl)) (hN : X.N[i]? = some x := by rfl) (hv : Vis X.env.scope x := by first | exact Or.inl rfl | exact Or.inr (Or.inl rfl) | exact Or.inr (Or.inr rfl)) (hd : (x == ("__debug__" : Str)) = false := by decide)
    (hcd : (x == ("__classdict__" : Str)) = false := by decide) (hs : starEach (.Name x pos :: es) X.env = (false, eval (.Name x pos) X.env) :: starEach es X.env := by rfl) : PA X (.Name x pos :: es) (rdV X.K ec W (lLend i cl)) :=
  PA.imp (pa_cons (pe_var hN hv hd hcd) h2 hs) fun σ H Q h => by
    obtain ⟨w, s, rfl, hr, h⟩ := h
    unfold lLend at h
    split at h
    · rename_i n0 e0
      obtain ⟨p0, e1, e2⟩ := hr.slot i _ e0
      refine ⟨.ref p0, e1, ⟨w, s, rfl, hr, ?_⟩⟩
      refine Res.mono h.bind (fun as s2 h2 vs w2 G le2 hr2 ln rp => ?_) fun _ _ q => q
      split at h2
      · rename_i n e3
        obtain ⟨p, e4, e5⟩ := hr2.slot i _ e3
        have ep : p = p0 := by
          rw [e4] at e1
          cases e1
          rfl
        subst ep
        split at h2
        · rename_i ds e6
          obtain ⟨hg, us, hv, ra⟩ := hr2.mem.cell n p _ e5 e6
          have sg : Same G (upd G p (.lst us)) := fun b o e => by
            by_cases hb : b = p
            · subst hb
              have := ln.h _ _ e
              rw [hv] at this
              cases this
              exact upd_same
            · rw [upd_ne hb]
              exact e
          have ln2 : Lnt w2 (upd G p (.lst us)) := ⟨ln.g.trans sg, fun b o e => by
            by_cases hb : b = p
            · subst hb
              rw [upd_same] at e
              cases e
              exact hv
            · rw [upd_ne hb] at e
              exact ln.h _ _ e, noTG_upd ln.t noTb_l, fun b o e => by
            by_cases hb : b = p
            · subst hb
              exact .inr (List.mem_of_getElem? e5)
            · rw [upd_ne hb] at e
              exact ln.r _ _ e⟩
          refine h2 (.ref p :: vs) w2 _ le2 hr2 ln2 (.cons ⟨.ref p, rfl, .lst (SqL.of upd_same) (ra.mono (ln.g.trans sg))⟩ ?_)
          exact Paired.mapP rp fun v sl q => by
            cases sl with
            | u => trivial
            | d y =>
              obtain ⟨u, a, b⟩ := q
              exact ⟨u, a, b.mono sg⟩
            | c n => exact q
            | x n => exact q
            | f => exact q
        · exact h2.elim
      · exact h2.elim
    · exact h.elim
theorem e_callV {k : Nat} {ps : List Str} {f : Fn} {x : Str} {p pos : Pos} {e : Expr} {es : List Expr} {cl : CL} (C : Cal X.prog X.w X.K X.mg X.base ec x ps f k) (hr : Rg k X.A)
    (tk : Takes X W) (ha : PA X (e :: es) (rdV X.K ec W cl)) (hl : LLen ps.length cl) (hg : Gl X x := by rfl) (hdb : (x == ("__debug__" : Str)) = false := by decide) (he : starEach (e :: es) X.env = (false, eval e X.env) :: starEach es X.env := by rfl)
    (hpl : (backTo pos (starEach es X.env)).any (·.1) = false := by rfl) (hw : ec.w = bot := by assumption) : Ex X ec W (.Call (.Name x p) (e :: es) [] pos) (cCallV f cl) := by
  obtain ⟨fa, fd, oc, od, osl, lk, F, hm, hk, hb⟩ := C
  exact (pe_callG F hr hg hm hk hb (fun σ => passAt tk σ) ha hdb he hpl).imp fun σ H Q h => by
    obtain ⟨w, s, rfl, hr, h⟩ := h
    refine ⟨w, s, rfl, hr, ?_⟩
    unfold cCallV at h
    cases e1 : cl s with
    | bad => rw [e1] at h; exact h
    | ex n s' => rw [e1] at h; exact h
    | ok as s1 =>
      rw [e1] at h
      intro vs w1 G le1 r1 ln ao
      have h1 : Res (okV ec X.K w σ Q) (okE X.K ec W σ w) (if as.all Sl.isD = true then (f as []).lent s1 else .bad) := h
      by_cases hd : as.all Sl.isD = true
      · rw [if_pos hd] at h1
        have gn : ∀ p, w1.F p → G p = none := fun p hp => by
          obtain ⟨a, b, _⟩ := r1.mem.fo p hp
          cases e : G p with
          | none => rfl
          | some o =>
            rcases ln.r p o e with z | z
            · rw [a] at z
              cases z
            · exact absurd z b
        have out : ∀ {w2 : Wd} {m' : List Cell}, Le ⟨G, [], fun p => w1.F p ∨ (p ∈ w1.r ∧ G p = none), w1.H⟩ w2 → Mem ec X.K w2 m' → Rel ec X.K ⟨w1.G, w1.r, w1.F, w2.H⟩ σ s1 ∧ Le w1 ⟨w1.G, w1.r, w1.F, w2.H⟩ := fun {w2 m'} le mm => by
          have kp : ∀ a o, w1.H a = some o → ∃ o', w2.H a = some o' ∧ (NoTb o → o' = o) := fun a o e => le.k a o e (by simp)
          have kn : ∀ a o, w1.H a = some o → NoTb o → w2.H a = some o := fun a o e n => by
            obtain ⟨o', e1, q⟩ := kp a o e
            rw [e1, q n]
          have le' : Le w1 ⟨w1.G, w1.r, w1.F, w2.H⟩ := ⟨Same.refl _, fun a o e _ => kp a o e, List.prefix_refl _, fun _ h => .inl h, rfl⟩
          refine ⟨⟨⟨fun b o e => kn b o (r1.mem.ext b o e) (r1.mem.gt b o e), r1.mem.len, r1.mem.nd, fun n q c h1 h2 => ?_, fun q hq => ?_, r1.mem.tab.back mm.tab, r1.mem.inv.trans (le'.ch _), r1.mem.gt, nv_back kp r1.mem.nv fun p hp => mm.nv.2 p (by rw [le.s]; exact .inl hp)⟩, r1.len, fun i sl e => slOk_mono le' (r1.slot i sl e)⟩, le'⟩
          · have c0 := r1.mem.cell n q c h1 h2
            cases c with
            | l ds =>
              obtain ⟨g0, us, hv, ra⟩ := c0
              exact ⟨g0, us, kn _ _ hv noTb_l, ra⟩
            | k ds =>
              obtain ⟨g0, us, hv, ra⟩ := c0
              exact ⟨g0, us, kn _ _ hv noTb_k, ra⟩
            | t ds =>
              obtain ⟨g0, us, hv, ra⟩ := c0
              exact ⟨g0, us, kn _ _ hv noTb_t, ra⟩
            | r ds =>
              obtain ⟨g0, us, hv, ra⟩ := c0
              exact ⟨g0, us, kn _ _ hv noTb_t, ra⟩
            | i n' j' ds =>
              obtain ⟨g0, us, hv, ra⟩ := c0
              exact ⟨g0, us, kn _ _ hv noTb_l, ra⟩
            | gone => exact c0
          · obtain ⟨z1, z2, o, z3⟩ := r1.mem.fo q hq
            obtain ⟨o', z4, _⟩ := kp q o z3
            exact ⟨z1, z2, o', z4⟩
        refine ⟨by rw [paired_len ao]; exact hl _ _ _ e1, ⟨G, [], fun p => w1.F p ∨ (p ∈ w1.r ∧ G p = none), w1.H⟩, [], as, rfl, ⟨ln.h, rfl, List.nodup_nil, fun n p c h _ => by simp at h, fun p hp => ?_, r1.mem.tab.f fun _ h => .inl h, by rw [hw]; exact Le.bot _, ln.t, ⟨fun t q n j ds e1 => by simp at e1, fun p hp => hp.elim (fun hp => r1.mem.nv.2 p hp) fun hp => .inr (by obtain ⟨n, e⟩ := List.getElem?_of_mem hp.1; exact r1.liveT e (by cases e2 : w1.G p with | none => rfl | some o => have := ln.g _ _ e2; rw [hp.2] at this; cases this))⟩⟩, args_data (w := ⟨G, w1.r, w1.F, w1.H⟩) (w' := ⟨G, [], fun p => w1.F p ∨ (p ∈ w1.r ∧ G p = none), w1.H⟩) rfl ao hd, ?_⟩
        · rcases hp with hp | hp
          · obtain ⟨a, b, c⟩ := r1.mem.fo p hp
            exact ⟨gn p hp, by simp, c⟩
          · exact ⟨hp.2, by simp, r1.live hp.1⟩
        · cases e2 : f as [] with
          | bad => rw [e2] at h1; exact h1
          | ex n m' =>
            rw [e2] at h1
            intro w2 le2 m2
            obtain ⟨r3, le3⟩ := out le2 m2
            exact h1 ⟨w1.G, w1.r, w1.F, w2.H⟩ (le1.trans le3) r3
          | ok a m' =>
            rw [e2] at h1
            intro x w2 le2 m2 o fr
            obtain ⟨r3, le3⟩ := out le2 m2
            cases a with
            | ref n => exact h1.elim
            | new c => exact h1.elim
            | d y =>
              by_cases hi : D.imm y = true
              · have h2 : okV ec X.K w σ Q (.d y) s1 := by
                  have h1 : Res (okV ec X.K w σ Q) (okE X.K ec W σ w) (if D.imm y = true then .ok (.d y) s1 else .bad) := h1
                  rw [if_pos hi] at h1
                  exact h1
                have ry : Rp X.K w1.G x y := by
                  have o : Rp X.K w2.G x y := o
                  cases o with
                  | non => exact .non
                  | bl b => exact .bl b
                  | int i => exact .int i
                  | str z => exact .str z
                  | _ => cases hi
                exact h2 x ⟨w1.G, w1.r, w1.F, w2.H⟩ (le1.trans le3) r3 ry .d
              · have h1 : Res (okV ec X.K w σ Q) (okE X.K ec W σ w) (if D.imm y = true then .ok (.d y) s1 else .bad) := h1
                rw [if_neg hi] at h1
                exact h1.elim
      · rw [if_neg hd] at h1
        exact h1.elim
theorem ll_lend {n i : Nat} {cl : CL} (h : LLen n cl) : LLen (n + 1) (lLend i cl) := fun s as s' e => by
  unfold lLend at e
  split at e
  · cases e1 : cl s with
    | bad => rw [e1] at e; cases e
    | ex n s' => rw [e1] at e; cases e
    | ok r s2 =>
      rw [e1] at e
      simp only [R.bind] at e
      split at e
      · split at e
        · cases e
          rw [List.length_cons, h _ _ _ e1]
        · cases e
      · cases e
  · cases e
end
theorem lLend_s {i n : Nat} {cl : CL} {s s2 : S} {n0 : Nat} {ds : List D} {as : List Sl} (h0 : s.v[i]? = some (.c n0)) (h : cl s = .ok as s2) (h1 : s2.v[i]? = some (.c n)) (h2 : s2.m[n]? = some (.l ds)) : lLend i cl s = .ok (.d (.list ds) :: as) s2 := by
  unfold lLend
  rw [h0]
  dsimp only
  rw [h]
  simp only [R.bind]
  rw [h1]
  dsimp only
  rw [h2]
end Vm

namespace Vm
open PySem L2
theorem cCallV_s {f : Fn} {cl : CL} {s s1 : S} {as : List Sl} {x : D} {m' : List Cell} (h : cl s = .ok as s1) (ha : as.all Sl.isD = true) (e : f as [] = .ok (.d x) m') (hi : D.imm x = true) : cCallV f cl s = .ok (.d x) s1 := by
  unfold cCallV
  rw [h]
  simp only [R.bind, ha, e, RF.lent, hi, if_true]
def cLetsMoves : CS :=
 (cSeq (cExp (cCallP fNeedAlike (lCons (cVar 0) (lCons (cVar 1) lNil))))
 (cSeq (cIfS (tNot' (cTru (cOp1 (opIsi "list") (cVar 2))))
 (cRet (cC (.bool false)))
 cNx)
 (cSeq (cSet 3 (cVar 1))
 (cSeq (cFor (ciSeq (cVar 2)) (tgN 4)
 (cSeq (cIfS (tNot' (cTru (cCallP fIsMove (lCons (cVar 3) (lCons (cVar 4) lNil)))))
 (cRet (cC (.bool false)))
 cNx)
 (cSet 3 (cCallP fMoved (lCons (cVar 3) (lCons (cVar 4) lNil))))))
 (cRet (cOp2 opEq (cVar 3) (cVar 0)))))))
def fLetsMoves : Fn := runF 5 cLetsMoves
theorem lets_not {xs ys : List Int} {d : D} (h : ¬ (xs.length = ys.length ∧ xs.sum = ys.sum)) : fLetsMoves [.d (.tuple (xs.map PyData.int)), .d (.tuple (ys.map PyData.int)), .d d] [] = .ex "Unlike" [] := by
  unfold fLetsMoves
  rw [runF_s]
  simp [cLetsMoves, need_not h]
theorem lets_ok {xs ys : List Int} {qs : List (Nat × Nat)} (h : xs.length = ys.length) (hs : xs.sum = ys.sum) (hL : Leads qs ys xs) : fLetsMoves [.d (.tuple (xs.map PyData.int)), .d (.tuple (ys.map PyData.int)), .d (.list (qs.map prN))] [] = .ok (.d (.bool true)) [] := by
  unfold fLetsMoves
  refine run_eq ?_
  unfold cLetsMoves
  have e := need_ok h hs
  have ti : isiB "list" (tyN (.d (.list (qs.map prN)))) = true := rfl
  refine st (s1 := ⟨[.d (.tuple (xs.map PyData.int)), .d (.tuple (ys.map PyData.int)), .d (.list (qs.map prN)), .u, .u], []⟩) (by simp [e]; exact .rfl) ?_
  refine st (s1 := ⟨[.d (.tuple (xs.map PyData.int)), .d (.tuple (ys.map PyData.int)), .d (.list (qs.map prN)), .u, .u], []⟩) (by simp [ti]; exact .rfl) ?_
  refine st (s1 := ⟨[.d (.tuple (xs.map PyData.int)), .d (.tuple (ys.map PyData.int)), .d (.list (qs.map prN)), .d (.tuple (ys.map PyData.int)), .u], []⟩) (by simp; exact .rfl) ?_
  refine w_cut (fun s => ∃ x4, s = ⟨[.d (.tuple (xs.map PyData.int)), .d (.tuple (ys.map PyData.int)), .d (.list (qs.map prN)), .d (.tuple (xs.map PyData.int)), x4], []⟩) ?_ fun s hs => ?_
  · refine w_for (ds := qs.map prN) (fun i s => ∃ (zs : List Int) (x4 : Sl), s = ⟨[.d (.tuple (xs.map PyData.int)), .d (.tuple (ys.map PyData.int)), .d (.list (qs.map prN)), .d (.tuple (zs.map PyData.int)), x4], []⟩ ∧ Leads (qs.drop i) zs xs) (s1 := ⟨[.d (.tuple (xs.map PyData.int)), .d (.tuple (ys.map PyData.int)), .d (.list (qs.map prN)), .d (.tuple (ys.map PyData.int)), .u], []⟩) (by simp; exact .rfl) ⟨ys, .u, rfl, hL⟩ (fun i d s hd hi => ?_) fun s hs => ?_
    · obtain ⟨zs, x4, rfl, hz⟩ := hi
      rw [List.getElem?_map] at hd
      cases hq : qs[i]? with
      | none => rw [hq] at hd; cases hd
      | some q =>
        rw [hq] at hd
        cases hd
        have hil := (List.getElem?_eq_some_iff.mp hq).1
        rw [List.drop_eq_getElem_cons hil, (List.getElem?_eq_some_iff.mp hq).2] at hz
        obtain ⟨h1, h2, h3, h4⟩ := hz
        refine ⟨_, rfl, ?_⟩
        have em := isMove_ok h1 h2 h3
        have ev := moved_ok h1 h2
        refine st (s1 := ⟨[.d (.tuple (xs.map PyData.int)), .d (.tuple (ys.map PyData.int)), .d (.list (qs.map prN)), .d (.tuple (zs.map PyData.int)), .d (prN q)], []⟩) (by simp [em]; exact .rfl) ?_
        exact st_last (s1 := ⟨[.d (.tuple (xs.map PyData.int)), .d (.tuple (ys.map PyData.int)), .d (.list (qs.map prN)), .d (.tuple ((sortD (mvL zs q.1 q.2)).map PyData.int)), .d (prN q)], []⟩) (by simp [ev]; exact .rfl) ⟨_, _, rfl, h4⟩
    · obtain ⟨zs, x4, rfl, hz⟩ := hs
      rw [List.length_map, List.drop_length] at hz
      have hz : zs = xs := hz
      subst hz
      exact ⟨x4, rfl⟩
  · obtain ⟨x4, rfl⟩ := hs
    exact w_rD (x := .bool true) [] ⟨_, by simp [opEq_intsT]; exact .rfl⟩ fun _ => ok_0 ⟨rfl, rfl⟩
def cLawLeads : CS :=
 (cSeq (cIfS (tNot' (cTru (cOp1 (opIsi "list") (cVar 2))))
 (cRet (cC (.bool false)))
 cNx)
 (cSeq (cSet 3 (cVar 1))
 (cSeq (cFor (ciSeq (cVar 2)) (tgN 4)
 (cSeq (cIfS (tOr' (tNot' (cTru (cOp1 (opIsi "tuple") (cVar 4)))) (tOr' (cB (cOp2 opNe (cOp1 opLen (cVar 4)) (cC (.int 2)))) (tNot' (cTru (cOp1 opAll (cLc [5] (ciSeq (cVar 4)) (tgN 5) ctYes (cCallP fWhole (lCons (cVar 5) lNil))))))))
 (cRet (cC (.bool false)))
 cNx)
 (cSeq (cIfS (cB (cOp2 opNin (cVar 4) (cCallP fLawCan (lCons (cVar 3) lNil))))
 (cRet (cC (.bool false)))
 cNx)
 (cSet 3 (cCallP fLawMoved (lCons (cVar 3) (lCons (cOp2 opIx (cVar 4) (cC (.int 0))) (lCons (cOp2 opIx (cVar 4) (cC (.int 1))) lNil))))))))
 (cRet (cOp2 opEq (cVar 3) (cVar 0))))))
def fLawLeads : Fn := runF 6 cLawLeads
theorem nin_ok {ps : List (Int × Int)} {q : Nat × Nat} (h : ((q.1 : Int), (q.2 : Int)) ∈ ps) : opNin (.d (prN q)) (.d (.list (ps.map prI))) = some (.d (.bool false)) := by
  have k : okd (.list (ps.map prI)) = true := (okd_seq fun d hd => by
    obtain ⟨z, _, rfl⟩ := List.mem_map.mp hd
    exact plain_prI z).1
  have k2 : okd (prN q) = true := by
    obtain ⟨a, b⟩ := plain_prI ((q.1 : Int), (q.2 : Int))
    exact okd_iff.mpr ⟨a, Nat.le_trans b (by decide)⟩
  have an : (ps.map prI).any (fun y => PyData.eqv y (prN q)) = true := by
    rw [List.any_eq_true]
    refine ⟨prN q, List.mem_map.mpr ⟨_, h, rfl⟩, ?_⟩
    have := eqv_prI ((q.1 : Int), (q.2 : Int)) ((q.1 : Int), (q.2 : Int))
    rw [show prN q = prI ((q.1 : Int), (q.2 : Int)) from rfl, this]
    simp
  unfold opNin inB
  dsimp only
  rw [if_pos ⟨k2, k⟩, an]
  rfl
theorem leads_ok {xs ys : List Int} {qs : List (Nat × Nat)} (hl : ys.length ≤ 100) (hL : Leads qs ys xs) : fLawLeads [.d (.tuple (xs.map PyData.int)), .d (.tuple (ys.map PyData.int)), .d (.list (qs.map prN))] [] = .ok (.d (.bool true)) [] := by
  unfold fLawLeads
  refine run_eq ?_
  unfold cLawLeads
  have ti : isiB "list" (tyN (.d (.list (qs.map prN)))) = true := rfl
  refine st (s1 := ⟨[.d (.tuple (xs.map PyData.int)), .d (.tuple (ys.map PyData.int)), .d (.list (qs.map prN)), .u, .u, .u], []⟩) (by simp [ti]; exact .rfl) ?_
  refine st (s1 := ⟨[.d (.tuple (xs.map PyData.int)), .d (.tuple (ys.map PyData.int)), .d (.list (qs.map prN)), .d (.tuple (ys.map PyData.int)), .u, .u], []⟩) (by simp; exact .rfl) ?_
  refine w_cut (fun s => ∃ x4 x5, s = ⟨[.d (.tuple (xs.map PyData.int)), .d (.tuple (ys.map PyData.int)), .d (.list (qs.map prN)), .d (.tuple (xs.map PyData.int)), x4, x5], []⟩) ?_ fun s hs => ?_
  · refine w_for (ds := qs.map prN) (fun i s => ∃ (zs : List Int) (x4 x5 : Sl), s = ⟨[.d (.tuple (xs.map PyData.int)), .d (.tuple (ys.map PyData.int)), .d (.list (qs.map prN)), .d (.tuple (zs.map PyData.int)), x4, x5], []⟩ ∧ zs.length ≤ 100 ∧ Leads (qs.drop i) zs xs) (s1 := ⟨[.d (.tuple (xs.map PyData.int)), .d (.tuple (ys.map PyData.int)), .d (.list (qs.map prN)), .d (.tuple (ys.map PyData.int)), .u, .u], []⟩) (by simp; exact .rfl) ⟨ys, .u, .u, rfl, hl, hL⟩ (fun i d s hd hi => ?_) fun s hs => ?_
    · obtain ⟨zs, x4, x5, rfl, zl, hz⟩ := hi
      rw [List.getElem?_map] at hd
      cases hq : qs[i]? with
      | none => rw [hq] at hd; cases hd
      | some q =>
        rw [hq] at hd
        cases hd
        have hil := (List.getElem?_eq_some_iff.mp hq).1
        rw [List.drop_eq_getElem_cons hil, (List.getElem?_eq_some_iff.mp hq).2] at hz
        obtain ⟨h1, h2, h3, h4⟩ := hz
        refine ⟨_, rfl, ?_⟩
        obtain ⟨ps, ec, _, _, hh⟩ := lawCan_ok zl
        have nn := nin_ok (hh q.1 q.2 h1 h2 (by omega))
        have ev := lawMoved_ok h1 h2
        have ti2 : isiB "tuple" (tyN (.d (prN q))) = true := rfl
        have ln : opLen (.d (prN q)) = some (.d (.int 2)) := rfl
        have al : opAll (.d (.list [.bool true, .bool true])) = some (.d (.bool true)) := rfl
        have l := lc_for (own := [5]) (ci := ciSeq (cVar 4)) (tg := tgN 5) (el := cCallP fWhole (lCons (cVar 5) lNil)) (s := ⟨[.d (.tuple (xs.map PyData.int)), .d (.tuple (ys.map PyData.int)), .d (.list (qs.map prN)), .d (.tuple (zs.map PyData.int)), .d (prN q), x5], []⟩) (s1 := ⟨[.d (.tuple (xs.map PyData.int)), .d (.tuple (ys.map PyData.int)), .d (.list (qs.map prN)), .d (.tuple (zs.map PyData.int)), .d (prN q), x5], []⟩) (xs := [(q.1 : Int), (q.2 : Int)]) (F := PyData.int) (fun _ => PyData.bool true) (by simp [prN]) (by simp) fun y hy => ⟨_, rfl, _, by simp [whole_ok] <;> rfl⟩
        refine st (s1 := ⟨[.d (.tuple (xs.map PyData.int)), .d (.tuple (ys.map PyData.int)), .d (.list (qs.map prN)), .d (.tuple (zs.map PyData.int)), .d (prN q), x5], []⟩) (by simp at l; simp [ti2, ln, l, al]; exact .rfl) ?_
        refine st (s1 := ⟨[.d (.tuple (xs.map PyData.int)), .d (.tuple (ys.map PyData.int)), .d (.list (qs.map prN)), .d (.tuple (zs.map PyData.int)), .d (prN q), x5], []⟩) (by simp [ec, nn]; exact .rfl) ?_
        exact st_last (s1 := ⟨[.d (.tuple (xs.map PyData.int)), .d (.tuple (ys.map PyData.int)), .d (.list (qs.map prN)), .d (.tuple ((sortD (mvL zs q.1 q.2)).map PyData.int)), .d (prN q), x5], []⟩) (by simp [ev]; exact .rfl) ⟨_, _, _, rfl, by rw [sortD_len, mvL_len]; exact zl, h4⟩
    · obtain ⟨zs, x4, x5, rfl, _, hz⟩ := hs
      rw [List.length_map, List.drop_length] at hz
      have hz : zs = xs := hz
      subst hz
      exact ⟨x4, x5, rfl⟩
  · obtain ⟨x4, x5, rfl⟩ := hs
    exact w_rD (x := .bool true) [] ⟨_, by simp [opEq_intsT]; exact .rfl⟩ fun _ => ok_0 ⟨rfl, rfl⟩
end Vm

namespace Vm
open PySem L2
def c_measure : CS :=
 (cSeq (cWh (fun _ => 1000000) (cB (cOp2 opGt (cVar 1) (cC (.int 0))))
 (cPar 0 1 (cVar 1) (cOp2 opMod (cVar 0) (cVar 1))))
 (cRet (cVar 0)))
abbrev f_measure : Fn := fMeasure

def c_share : CS :=
 (cSeq (cIfS (cB (cOp2 opEq (cVar 1) (cC (.int 0))))
 (cRaise "NoShare")
 cNx)
 (cSeq (cSet 2 (cCallP f_measure (lCons (cOp1 opAbs (cVar 0)) (lCons (cOp1 opAbs (cVar 1)) lNil))))
 (cSeq (cIfS (cB (cOp2 opLt (cVar 1) (cC (.int 0))))
 (cSet 2 (cOp2 opSub (cC (.int 0)) (cVar 2)))
 cNx)
 (cRet (cTup (cCons (cOp2 opDiv (cVar 0) (cVar 2)) (cCons (cOp2 opDiv (cVar 1) (cVar 2)) cNil)))))))
abbrev f_share : Fn := fShare

def c_times : CS :=
 (cRet (cCallP f_share (lCons (cOp2 opMulV (cOp2 opIx (cVar 0) (cC (.int 0))) (cOp2 opIx (cVar 1) (cC (.int 0)))) (lCons (cOp2 opMulV (cOp2 opIx (cVar 0) (cC (.int 1))) (cOp2 opIx (cVar 1) (cC (.int 1)))) lNil))))
abbrev f_times : Fn := fTimes

def c_over : CS :=
 (cRet (cCallP f_share (lCons (cOp2 opMulV (cOp2 opIx (cVar 0) (cC (.int 0))) (cOp2 opIx (cVar 1) (cC (.int 1)))) (lCons (cOp2 opMulV (cOp2 opIx (cVar 0) (cC (.int 1))) (cOp2 opIx (cVar 1) (cC (.int 0)))) lNil))))
abbrev f_over : Fn := fOver

def c__law_pen : CS :=
 (cRet (cDisp [(.inr "cells"), (.inr "at"), (.inr "left")] (cCons (cSl (cVar 0) (cPt none) (cPt (some (cC (.int 63))))) (cCons (cC (.int 0)) (cCons (cC (.int 0)) cNil)))))
abbrev f__law_pen : Fn := fPen

def c__law_draw : CS :=
 (cSeq (cIfS (cB (cOp2 opGt (cOp2 opItem (cVar 0) (cC (.str "left"))) (cC (.int 0))))
 (cSeq (cSet 2 (cOp2 opMod (cOp2 opItem (cVar 0) (cC (.str "left"))) (cVar 1)))
 (cSeq (cPut (cVar 0) (cC (.str "left")) (cOp2 opDiv (cOp2 opItem (cVar 0) (cC (.str "left"))) (cVar 1)))
 (cRet (cVar 2))))
 cNx)
 (cSeq (cSet 3 (cOp2 opItem (cVar 0) (cC (.str "at"))))
 (cSeq (cPut (cVar 0) (cC (.str "at")) (cOp2 opAdd (cVar 3) (cC (.int 1))))
 (cSeq (cSet 4 (cOp2 opAdd (cOp2 opMulV (cC (.int 23)) (cVar 3)) (cC (.int 5))))
 (cSeq (cIfS (cB (cOp2 opGt (cOp1 opLen (cOp2 opItem (cVar 0) (cC (.str "cells")))) (cC (.int 0))))
 (cSet 4 (cOp2 opIx (cOp2 opItem (cVar 0) (cC (.str "cells"))) (cOp2 opMod (cVar 3) (cOp1 opLen (cOp2 opItem (cVar 0) (cC (.str "cells")))))))
 cNx)
 (cSeq (cIfS (tAnd' (cB (cOp2 opLt (cVar 3) (cOp1 opLen (cOp2 opItem (cVar 0) (cC (.str "cells")))))) (cB (cOp2 opGe (cOp1 opAbs (cVar 4)) (cOp2 opPow (cC (.int 10)) (cC (.int 18))))))
 (cSeq (cPut (cVar 0) (cC (.str "left")) (cOp2 opDiv (cOp1 opAbs (cVar 4)) (cVar 1)))
 (cRet (cOp2 opMod (cOp1 opAbs (cVar 4)) (cVar 1))))
 cNx)
 (cSeq (cSet 5 (cOp2 opIx (cTup (cCons (cC (.int 2147483647)) (cCons (cC (.int 2147483629)) (cCons (cC (.int 2147483587)) (cCons (cC (.int 2147483579)) (cCons (cC (.int 2147483563)) (cCons (cC (.int 2147483549)) (cCons (cC (.int 2147483543)) cNil)))))))) (cOp2 opMod (cVar 3) (cC (.int 7)))))
 (cSeq (cSet 6 (cOp2 opMod (cOp2 opPow (cOp2 opAdd (cOp2 opAdd (cOp2 opAdd (cOp2 opMod (cVar 4) (cC (.int 2147483497))) (cOp2 opMulV (cOp2 opMulV (cC (.int 75329)) (cVar 3)) (cVar 3))) (cOp2 opMulV (cC (.int 30011)) (cVar 3))) (cC (.int 271))) (cC (.int 3))) (cVar 5)))
 (cSeq (cSet 6 (cOp2 opMod (cOp2 opPow (cOp2 opAdd (cOp2 opAdd (cVar 6) (cOp2 opMulV (cC (.int 11)) (cVar 3))) (cC (.int 5))) (cC (.int 2))) (cC (.int 2147483489))))
 (cRet (cOp2 opMod (cOp2 opDiv (cOp2 opMod (cOp2 opMulV (cVar 6) (cC (.int 69621))) (cC (.int 2147483477))) (cC (.int 1013))) (cVar 1))))))))))))
abbrev f__law_draw : Fn := fDrawA

def c__law_is_whole : CS :=
 (cRet (cAnd (cOp1 (opIsi "int") (cVar 0)) (cNot (cOp1 (opIsi "bool") (cVar 0)))))
abbrev f__law_is_whole : Fn := fWhole

def c__law_measure : CS :=
 (cSeq (cWh (fun _ => 1000000) (cB (cOp2 opGt (cVar 1) (cC (.int 0))))
 (cPar 0 1 (cVar 1) (cOp2 opMod (cVar 0) (cVar 1))))
 (cRet (cVar 0)))
abbrev f__law_measure : Fn := fMeasure

def c__law_number : CS :=
 (cSeq (cSet 1 (cCall f__law_draw (lCons (cVar 0) (lCons (cC (.int 5)) lNil))))
 (cSeq (cSet 2 (cOp2 opSub (cC (.int 1)) (cOp2 opMulV (cC (.int 2)) (cCall f__law_draw (lCons (cVar 0) (lCons (cC (.int 2)) lNil))))))
 (cSeq (cIfS (cB (cOp2 opEq (cVar 1) (cC (.int 0))))
 (cRet (cC (.int 0)))
 cNx)
 (cSeq (cIfS (cB (cOp2 opEq (cVar 1) (cC (.int 1))))
 (cRet (cOp2 opMulV (cVar 2) (cOp2 opAdd (cC (.int 1)) (cCall f__law_draw (lCons (cVar 0) (lCons (cC (.int 12)) lNil))))))
 cNx)
 (cSeq (cIfS (cB (cOp2 opEq (cVar 1) (cC (.int 2))))
 (cRet (cOp2 opMulV (cVar 2) (cOp2 opSub (cOp2 opSub (cOp2 opPow (cC (.int 10)) (cC (.int 12))) (cC (.int 1))) (cCall f__law_draw (lCons (cVar 0) (lCons (cC (.int 5)) lNil))))))
 cNx)
 (cRet (cOp2 opMulV (cVar 2) (cOp2 opAdd (cOp2 opMulV (cCall f__law_draw (lCons (cVar 0) (lCons (cOp2 opPow (cC (.int 10)) (cC (.int 6))) lNil))) (cOp2 opIx (cLst (cCons (cC (.int 1)) (cCons (cOp2 opPow (cC (.int 10)) (cC (.int 6))) cNil))) (cOp2 opSub (cVar 1) (cC (.int 3))))) (cCall f__law_draw (lCons (cVar 0) (lCons (cOp2 opPow (cC (.int 10)) (cC (.int 6))) lNil)))))))))))
abbrev f__law_number : Fn := fNumber

def c__law_reduced : CS :=
 (cSeq (cSet 2 (cCallP f__law_measure (lCons (cOp1 opAbs (cVar 0)) (lCons (cVar 1) lNil))))
 (cRet (cTup (cCons (cOp2 opDiv (cVar 0) (cVar 2)) (cCons (cOp2 opDiv (cVar 1) (cVar 2)) cNil)))))
abbrev f__law_reduced : Fn := fReduced

def c__law_share : CS :=
 (cSeq (cSet 1 (cCall f__law_draw (lCons (cVar 0) (lCons (cC (.int 5)) lNil))))
 (cSeq (cSet 2 (cCall f__law_number (lCons (cVar 0) lNil)))
 (cSeq (cSet 3 (cOp2 opAdd (cC (.int 1)) (cCall f__law_draw (lCons (cVar 0) (lCons (cC (.int 12)) lNil)))))
 (cSeq (cIfS (cB (cOp2 opEq (cVar 1) (cC (.int 0))))
 (cRet (cTup (cCons (cOp2 opSub (cOp2 opMod (cVar 2) (cC (.int 4))) (cC (.int 1))) (cCons (cC (.int 1)) cNil))))
 cNx)
 (cSeq (cIfS (cB (cOp2 opEq (cVar 1) (cC (.int 1))))
 (cRet (cCallP f__law_reduced (lCons (cOp2 opSub (cOp2 opMod (cVar 2) (cC (.int 60))) (cC (.int 30))) (lCons (cVar 3) lNil))))
 cNx)
 (cSeq (cIfS (cB (cOp2 opEq (cVar 1) (cC (.int 2))))
 (cRet (cCallP f__law_reduced (lCons (cOp2 opSub (cOp2 opMod (cVar 2) (cC (.int 720))) (cC (.int 300))) (lCons (cOp2 opMulV (cC (.int 60)) (cVar 3)) lNil))))
 cNx)
 (cSeq (cIfS (cB (cOp2 opEq (cVar 1) (cC (.int 3))))
 (cRet (cCallP f__law_reduced (lCons (cVar 2) (lCons (cOp2 opSub (cOp2 opPow (cC (.int 10)) (cC (.int 12))) (cVar 3)) lNil))))
 cNx)
 (cRet (cCallP f__law_reduced (lCons (cVar 2) (lCons (cOp2 opAdd (cOp2 opAdd (cC (.int 1)) (cOp2 opMulV (cCall f__law_draw (lCons (cVar 0) (lCons (cOp2 opPow (cC (.int 10)) (cC (.int 6))) lNil))) (cOp2 opPow (cC (.int 10)) (cC (.int 5))))) (cVar 3)) lNil)))))))))))
abbrev f__law_share : Fn := fShareA

def c__law_heard (ask : List Cell → RF) : CS :=
 (cSeq (cSet 1 (cC .none))
 (cSeq (cSet 2 (cC .none))
 (cSeq (cTry ["NoShare"] 3 1
 (cSet 2 (cAsk ask)))
 (cSeq (cIfS (cB (cIsN 1))
 (cRet (cLst (cCons (cVar 2) cNil)))
 cNx)
 (cSeq (cSet 4 (cLst (cCons (cIsX 1 "NoShare") (cCons (cIsX 1 "NoBall") (cCons (cIsX 1 "Unlike") cNil)))))
 (cSeq (cSet 4 (cOp2 opAdd (cVar 4) (cLst (cCons (cIsX 1 "Fuller") (cCons (cIsX 1 "TooMany") (cCons (cIsX 1 "NoBack") cNil))))))
 (cSeq (cSet 4 (cOp2 opAdd (cVar 4) (cLst (cCons (cIsX 1 "NoName") (cCons (cIsX 1 "NoText") (cCons (cIsX 1 "NoRow") cNil))))))
 (cSeq (cIfS (tOr' (cB (cOp2 opNe (cMt1 "list" opCount (cVar 4) (cC (.bool true))) (cC (.int 1)))) (tNot' (cTru (cIsX 1 "ValueError"))))
 (cRet (cC (.str "odd")))
 cNx)
 (cRet (cOp2 opIx (cLst (cCons (cC (.str "share")) (cCons (cC (.str "ball")) (cCons (cC (.str "unlike")) (cCons (cC (.str "fuller")) (cCons (cC (.str "many")) (cCons (cC (.str "back")) (cCons (cC (.str "name")) (cCons (cC (.str "text")) (cCons (cC (.str "row")) cNil)))))))))) (cMt1 "list" opIndex (cVar 4) (cC (.bool true)))))))))))))
def f__law_heard : Hn := runH 5 c__law_heard

def c__law_is : CS :=
 (cSeq (cIfS (tOr' (tNot' (cTru (cOp1 (opIsi "tuple") (cVar 0)))) (tOr' (cB (cOp2 opNe (cOp1 opLen (cVar 0)) (cC (.int 2)))) (tNot' (cTru (cOp1 opAll (cLc [3] (ciSeq (cVar 0)) (tgN 3) ctYes (cCallP f__law_is_whole (lCons (cVar 3) lNil))))))))
 (cRet (cC (.bool false)))
 cNx)
 (cSeq (cIfS (tOr' (cB (cOp2 opLt (cOp2 opIx (cVar 0) (cC (.int 1))) (cC (.int 1)))) (cB (cOp2 opNe (cCallP f__law_measure (lCons (cOp1 opAbs (cOp2 opIx (cVar 0) (cC (.int 0)))) (lCons (cOp2 opIx (cVar 0) (cC (.int 1))) lNil))) (cC (.int 1)))))
 (cRet (cC (.bool false)))
 cNx)
 (cRet (cOp2 opEq (cOp2 opMulV (cOp2 opIx (cVar 0) (cC (.int 0))) (cVar 2)) (cOp2 opMulV (cVar 1) (cOp2 opIx (cVar 0) (cC (.int 1))))))))
abbrev f__law_is : Fn := fLawIs

def c__law_right : CS :=
 (cSeq (cIfS (tOr' (tNot' (cTru (cCallP f__law_is (lCons (cCallP f_times (lCons (cVar 0) (lCons (cVar 1) lNil))) (lCons (cOp2 opMulV (cOp2 opIx (cVar 0) (cC (.int 0))) (cOp2 opIx (cVar 1) (cC (.int 0)))) (lCons (cOp2 opMulV (cOp2 opIx (cVar 0) (cC (.int 1))) (cOp2 opIx (cVar 1) (cC (.int 1)))) lNil)))))) (cB (cOp2 opNe (cCallP f_times (lCons (cVar 1) (lCons (cVar 0) lNil))) (cCallP f_times (lCons (cVar 0) (lCons (cVar 1) lNil))))))
 (cRet (cC (.bool false)))
 cNx)
 (cSeq (cSet 2 (cHeard f__law_heard (cCallP f_over (lCons (cVar 0) (lCons (cVar 1) lNil)))))
 (cSeq (cIfS (cB (cOp2 opEq (cOp2 opIx (cVar 1) (cC (.int 0))) (cC (.int 0))))
 (cRet (cOp2 opEq (cVar 2) (cC (.str "share"))))
 cNx)
 (cSeq (cSet 3 (cOp2 opIx (cLst (cCons (cC (.int 1)) (cCons (cOp1 opNeg (cC (.int 1))) cNil))) (cOp1 opInt (cOp2 opLt (cOp2 opIx (cVar 1) (cC (.int 0))) (cC (.int 0))))))
 (cRet (cAnd (cOp1 (opIsi "list") (cVar 2)) (cCallP f__law_is (lCons (cOp2 opIx (cVar 2) (cC (.int 0))) (lCons (cOp2 opMulV (cOp2 opMulV (cVar 3) (cOp2 opIx (cVar 0) (cC (.int 0)))) (cOp2 opIx (cVar 1) (cC (.int 1)))) (lCons (cOp2 opMulV (cOp2 opMulV (cVar 3) (cOp2 opIx (cVar 0) (cC (.int 1)))) (cOp2 opIx (cVar 1) (cC (.int 0)))) lNil))))))))))
def f__law_right : Fn := runF 4 c__law_right

def c__law_great : CS :=
 (cSeq (cSet 1 (cOp2 opSub (cC (.int 1)) (cOp2 opMulV (cC (.int 2)) (cCall f__law_draw (lCons (cVar 0) (lCons (cC (.int 2)) lNil))))))
 (cSeq (cSet 2 (cOp2 opAdd (cOp2 opAdd (cOp2 opPow (cC (.int 10)) (cC (.int 24))) (cOp2 opMulV (cC (.int 30)) (cCall f__law_draw (lCons (cVar 0) (lCons (cOp2 opPow (cC (.int 10)) (cC (.int 6))) lNil))))) (cC (.int 1))))
 (cSeq (cSet 3 (cCallP f__law_reduced (lCons (cOp2 opMulV (cVar 1) (cVar 2)) (lCons (cOp2 opAdd (cOp2 opAdd (cOp2 opPow (cC (.int 10)) (cC (.int 25))) (cOp2 opMulV (cC (.int 90)) (cCall f__law_draw (lCons (cVar 0) (lCons (cOp2 opPow (cC (.int 10)) (cC (.int 6))) lNil))))) (cC (.int 7))) lNil))))
 (cSeq (cFor (ciR1 (cC (.int 5))) (tgN 4)
 (cSet 3 (cCallP f_times (lCons (cVar 3) (lCons (cVar 3) lNil)))))
 (cRet (cVar 3))))))
def f__law_great : Fn := runF 5 c__law_great

def c_law : CS :=
 (cSeq (cSetM 1 (cCallP f__law_pen (lCons (cVar 0) lNil)))
 (cSeq (cSet 2 (cCall f__law_great (lCons (cVar 1) lNil)))
 (cSeq (cFor (ciSeq (cLst (cCons (cCall f__law_share (lCons (cVar 1) lNil)) (cCons (cVar 2) (cCons (cCall f__law_great (lCons (cVar 1) lNil)) cNil))))) (tgN 3)
 (cIfS (tOr' (tNot' (cTru (cCallP f__law_right (lCons (cVar 2) (lCons (cVar 3) lNil))))) (tNot' (cTru (cCallP f__law_right (lCons (cVar 3) (lCons (cVar 2) lNil))))))
 (cRet (cC (.bool false)))
 cNx))
 (cSeq (cSet 4 (cTup (cCons (cC (.int 1)) (cCons (cC (.int 1)) cNil))))
 (cSeq (cFor (ciR1 (cC (.int 14))) (tgN 5)
 (cSeq (cSet 6 (cCall f__law_draw (lCons (cVar 1) (lCons (cC (.int 4)) lNil))))
 (cSeq (cSet 7 (cCall f__law_share (lCons (cVar 1) lNil)))
 (cSeq (cSet 8 (cCall f__law_share (lCons (cVar 1) lNil)))
 (cSeq (cIfS (cB (cOp2 opEq (cVar 6) (cC (.int 0))))
 (cSet 8 (cVar 7))
 cNx)
 (cSeq (cIfS (tAnd' (cB (cOp2 opEq (cVar 6) (cC (.int 1)))) (cB (cOp2 opGt (cOp2 opIx (cVar 7) (cC (.int 0))) (cC (.int 0)))))
 (cSet 8 (cTup (cCons (cOp2 opIx (cVar 7) (cC (.int 1))) (cCons (cOp2 opIx (cVar 7) (cC (.int 0))) cNil))))
 cNx)
 (cSeq (cIfS (tOr' (tNot' (cTru (cCallP f__law_right (lCons (cVar 7) (lCons (cVar 8) lNil))))) (tOr' (tNot' (cTru (cCallP f__law_right (lCons (cVar 8) (lCons (cVar 7) lNil))))) (tOr' (tNot' (cTru (cCallP f__law_right (lCons (cVar 4) (lCons (cVar 7) lNil))))) (tNot' (cTru (cCallP f__law_right (lCons (cVar 7) (lCons (cTup (cCons (cC (.int 0)) (cCons (cC (.int 1)) cNil))) lNil))))))))
 (cRet (cC (.bool false)))
 cNx)
 (cIfS (cB (cOp2 opNe (cOp2 opIx (cVar 8) (cC (.int 0))) (cC (.int 0))))
 (cSet 4 (cOp2 opIx (cLst (cCons (cCallP f_times (lCons (cVar 4) (lCons (cVar 8) lNil))) (cCons (cCallP f_over (lCons (cVar 4) (lCons (cVar 8) lNil))) cNil))) (cOp2 opMod (cVar 6) (cC (.int 2)))))
 cNx))))))))
 (cRet (cC (.bool true))))))))
def f_law : Fn := runF 9 c_law
end Vm

namespace Vm
open PySem L2
theorem heard_eq : f__law_heard = fHeardA ["NoShare"] := rfl
theorem right_ok {j k : Nat} {p1 q1 p2 q2 : Int} (a : Sh j p1 q1) (b : Sh k p2 q2) (hk : j + k ≤ 8000) : f__law_right [.d (shD p1 q1), .d (shD p2 q2)] [] = .ok (.d (.bool true)) [] := by
  obtain ⟨p, q, e1, s1, r1⟩ := times_ok a b hk
  obtain ⟨p', q', e2, s2, r2⟩ := times_ok b a (by omega)
  have m1 := opMul_i (a.bp.mulOk b.bp (by omega))
  have m2 := opMul_i (a.bq.mulOk b.bq (by omega))
  have l1 := law_is s1 (a.bp.mul b.bp) (a.bq.mul b.bq) (by omega) (by omega) (by omega) r1
  obtain ⟨rfl, rfl⟩ := low_one s2.pos s1.pos s2.cop s1.cop (by
    have h1 := a.pos
    have h2 := b.pos
    have hn : q1 * q2 ≠ 0 := Int.mul_ne_zero (by omega) (by omega)
    apply Int.eq_of_mul_eq_mul_right hn
    grind)
  have n1 := sh_ne (p := p') (q := q') (p' := p') (q' := q')
  rw [show (!decide (p' = p' ∧ q' = q')) = false by simp] at n1
  unfold f__law_right
  refine run_eq ?_
  unfold c__law_right
  refine st (s1 := ⟨[.d (shD p1 q1), .d (shD p2 q2), .u, .u], []⟩) (by simp [e1, e2, m1, m2, l1, n1]; exact .rfl) ?_
  by_cases h0 : p2 = 0
  · subst h0
    have e := over_none a b hk
    have hs := cHeard_s (heardA_ex (L := ["NoShare"]) (w := "share") (ask_x (f := fOver) (cl := (lCons (cVar 0) (lCons (cVar 1) lNil))) (v := [.d (shD p1 q1), .d (shD 0 q2), .u, .u]) (m := []) (as := [.d (shD p1 q1), .d (shD 0 q2)]) (by simp) rfl e) rfl rfl)
    rw [← heard_eq] at hs
    refine st (s1 := ⟨[.d (shD p1 q1), .d (shD 0 q2), .d (.str "share"), .u], []⟩) (by simp [hs]; exact .rfl) ?_
    refine w_sif (x := true) (s1 := ⟨[.d (shD p1 q1), .d (shD 0 q2), .d (.str "share"), .u], []⟩) (by simp; exact .rfl) (fun _ => ?_) fun z => nomatch z
    have es : opEq (.d (.str (Str.ofString "share"))) (.d (.str (Str.ofString "share"))) = some (.d (.bool true)) := by kernel_rfl
    exact w_retS (x := .d (.bool true)) (s1 := ⟨[.d (shD p1 q1), .d (shD 0 q2), .d (.str "share"), .u], []⟩) (by simp [es]; exact .rfl) (ok_0 ⟨rfl, rfl⟩)
  · obtain ⟨u, w, e, s, r⟩ := over_ok a b hk h0
    have hs := cHeard_s (heardA_d (L := ["NoShare"]) (ask_d (f := fOver) (cl := (lCons (cVar 0) (lCons (cVar 1) lNil))) (v := [.d (shD p1 q1), .d (shD p2 q2), .u, .u]) (m := []) (as := [.d (shD p1 q1), .d (shD p2 q2)]) (by simp) rfl e))
    rw [← heard_eq] at hs
    refine st (s1 := ⟨[.d (shD p1 q1), .d (shD p2 q2), .d (.list [shD u w]), .u], []⟩) (by simp [hs]; exact .rfl) ?_
    refine w_sif (x := false) (s1 := ⟨[.d (shD p1 q1), .d (shD p2 q2), .d (.list [shD u w]), .u], []⟩) (by simp [h0]; exact .rfl) (fun z => nomatch z) fun _ => w_nxS ?_
    have sg : ∃ g : Int, (g = 1 ∨ g = -1) ∧ opIx (.d (.list [.int 1, .int (-1)])) (.d (.int (if p2 < 0 then 1 else 0))) = some (.d (.int g)) := by
      by_cases h : p2 < 0
      · exact ⟨-1, .inr rfl, by simp [h]; rfl⟩
      · exact ⟨1, .inl rfl, by simp [h]; rfl⟩
    obtain ⟨g, g1, ix⟩ := sg
    refine st (s1 := ⟨[.d (shD p1 q1), .d (shD p2 q2), .d (.list [shD u w]), .d (.int g)], []⟩) ?_ ?_
    · by_cases h : p2 < 0
      · simp [h] at ix ⊢
        simp [ix]
        exact .rfl
      · simp [h] at ix ⊢
        simp [ix]
        exact .rfl
    have gg : Bs 1 g := by
      rcases g1 with rfl | rfl
      · exact (by decide : (1 : Int).natAbs < 2 ^ 1)
      · exact (by decide : (-1 : Int).natAbs < 2 ^ 1)
    have t1 := opMul_i (gg.mulOk a.bp (by omega))
    have t2 := opMul_i ((gg.mul a.bp).mulOk b.bq (by omega))
    have t3 := opMul_i (gg.mulOk a.bq (by omega))
    have t4 := opMul_i ((gg.mul a.bq).mulOk b.bp (by omega))
    have l := law_is s ((gg.mul a.bp).mul b.bq) ((gg.mul a.bq).mul b.bp) (by omega) (by omega) (by omega) (by
      rcases g1 with rfl | rfl
      · grind
      · grind)
    have ix0 : opIx (.d (.list [shD u w])) (.d (.int 0)) = some (.d (shD u w)) := rfl
    exact w_ret (x := .d (.bool true)) (s1 := ⟨[.d (shD p1 q1), .d (shD p2 q2), .d (.list [shD u w]), .d (.int g)], []⟩) (by simp [ix0, t1, t2, t3, t4, l]; exact .rfl) (ok_0 ⟨rfl, rfl⟩)
theorem Sh.swap {k : Nat} {p q : Int} (h : Sh k p q) (hp : 0 < p) : Sh k q p := ⟨by omega, by rw [Int.gcd_comm]; exact h.cop, h.bq, h.bp⟩
theorem sh_z : Sh 1 0 1 := ⟨by decide, by decide, show (0 : Int).natAbs < 2 ^ 1 by decide, show (1 : Int).natAbs < 2 ^ 1 by decide⟩
theorem sh_1' : Sh 1 1 1 := ⟨by decide, by decide, show (1 : Int).natAbs < 2 ^ 1 by decide, show (1 : Int).natAbs < 2 ^ 1 by decide⟩
theorem great_ok {B : Nat} {p : Cell} {r : List Cell} (hp : IsPen B p) (hB : B < 90000) : ∃ a b p', f__law_great [.c 0] (p :: r) = .ok (.d (shD a b)) (p' :: r) ∧ Sh 2688 a b ∧ IsPen (B + 3) p' := by
  obtain ⟨s, p1, e1, s0, s1, hp1⟩ := drawA B p r 2 hp (by omega) (by decide) (by decide)
  obtain ⟨a, p2, e2, a0, a1, hp2⟩ := drawA _ p1 r 1000000 hp1 (by omega) (by decide) (by decide)
  obtain ⟨b, p3, e3, b0, b1, hp3⟩ := drawA _ p2 r 1000000 hp2 (by omega) (by decide) (by decide)
  have sg : ∃ g : Int, 1 - 2 * s = g ∧ (g = 1 ∨ g = -1) := ⟨_, rfl, by omega⟩
  obtain ⟨g, hg, hg1⟩ := sg
  have m1 : opMulV (.d (.int 2)) (.d (.int s)) = some (.d (.int (2 * s))) := opMul_i (mulOk_small (by omega) (by omega))
  have m2 : opMulV (.d (.int 30)) (.d (.int a)) = some (.d (.int (30 * a))) := opMul_i (mulOk_small (by omega) (by omega))
  have m3 : opMulV (.d (.int 90)) (.d (.int b)) = some (.d (.int (90 * b))) := opMul_i (mulOk_small (by omega) (by omega))
  have m4 : opMulV (.d (.int g)) (.d (.int (1000000000000000000000000 + 30 * a + 1))) = some (.d (.int (g * (1000000000000000000000000 + 30 * a + 1)))) := opMul_i (mulOk_small (by omega) (by omega))
  have t24 : opPow (.d (.int 10)) (.d (.int 24)) = some (.d (.int 1000000000000000000000000)) := rfl
  have t25 : opPow (.d (.int 10)) (.d (.int 25)) = some (.d (.int 10000000000000000000000000)) := rfl
  obtain ⟨x, y, e4, h4, _⟩ := reduced_ok (top := g * (1000000000000000000000000 + 30 * a + 1)) (bot := 10000000000000000000000000 + 90 * b + 7) (j := 84) (k := 84) (by omega) (show (g * (1000000000000000000000000 + 30 * a + 1)).natAbs < 2 ^ 84 by rcases hg1 with h | h <;> rw [h] <;> omega) (show (10000000000000000000000000 + 90 * b + 7 : Int).natAbs < 2 ^ 84 by omega) (by decide)
  obtain ⟨s', e5, x4, u, w, rfl, hu⟩ := forL_inv (tg := tgN 4) (body := cSet 3 (cCallP f_times (lCons (cVar 3) (lCons (cVar 3) lNil)))) (ds := rangeD 0 5) (fun i s => ∃ x4 u w, s = ⟨[.c 0, .d (.int g), .d (.int (1000000000000000000000000 + 30 * a + 1)), .d (shD u w), x4], p3 :: r⟩ ∧ Sh (84 * 2 ^ i) u w) (s := ⟨[.c 0, .d (.int g), .d (.int (1000000000000000000000000 + 30 * a + 1)), .d (shD x y), .u], p3 :: r⟩) ⟨_, x, y, rfl, h4⟩ fun i s d hd hi => by
    obtain ⟨x4, u, w, rfl, hu⟩ := hi
    have hi5 := (rangeD_lt hd).1
    have hpw : 2 ^ i ≤ 2 ^ 4 := Nat.pow_le_pow_right (by decide) (by omega)
    obtain ⟨u', w', e, h, _⟩ := times_ok hu hu (by omega)
    refine ⟨_, ⟨[.c 0, .d (.int g), .d (.int (1000000000000000000000000 + 30 * a + 1)), .d (shD u' w'), .d d], p3 :: r⟩, rfl, .inl ?_, _, u', w', rfl, h.mono (by rw [Nat.pow_succ]; omega)⟩
    simp [e]
  refine ⟨u, w, p3, ?_, hu, hp3⟩
  have r5 : ∀ s, ciR1 (cC (.int 5)) s = .ok (rangeD 0 5) s := fun s => ciR1_c (by decide) (by decide)
  unfold f__law_great
  rw [runF_s]
  simp [c__law_great, e1, e2, e3, m1, m2, m3, m4, hg, t24, t25, ten6, e4, r5, e5]
theorem law_true (ns : List Int) (hl : ns.length ≤ 63) : f_law [.d (.list (ns.map PyData.int))] [] = .ok (.d (.bool true)) [] := by
  unfold f_law
  refine run_eq ?_
  unfold c_law
  have e0 := pen_new hl
  obtain ⟨a, b, p1, e1, h1, hp1⟩ := great_ok (r := []) (pen_is hl) (by decide)
  obtain ⟨c, d, p2, e2, h2, hp2⟩ := shareA_ok (r := []) hp1 (by decide)
  obtain ⟨g, h, p3, e4, h4, hp3⟩ := great_ok (r := []) hp2 (by decide)
  have z0 : PyData.tuple [PyData.int 0, PyData.int 1] = shD 0 1 := rfl
  have z1 : PyData.tuple [PyData.int 1, PyData.int 1] = shD 1 1 := rfl
  refine st (by simp [e0]; exact .rfl) (st (s1 := ⟨[.d (.list (ns.map PyData.int)), .c 0, .d (shD a b), .u, .u, .u, .u, .u, .u], [p1]⟩) (by simp [e1]; exact .rfl) ?_)
  refine w_cut (fun s => ∃ x3, s = ⟨[.d (.list (ns.map PyData.int)), .c 0, .d (shD a b), x3, .u, .u, .u, .u, .u], [p3]⟩) ?_ fun s hs => ?_
  · refine w_for (ds := [shD c d, shD a b, shD g h]) (fun i s => ∃ x3, s = ⟨[.d (.list (ns.map PyData.int)), .c 0, .d (shD a b), x3, .u, .u, .u, .u, .u], [p3]⟩) (by simp [e2, e4]; exact .rfl) ⟨_, rfl⟩ (fun i d' s hd hi => ?_) fun s hs => hs
    obtain ⟨x3, rfl⟩ := hi
    refine ⟨_, rfl, ?_⟩
    have hm := List.mem_of_getElem? hd
    have rr : f__law_right [.d (shD a b), .d d'] [] = .ok (.d (.bool true)) [] ∧ f__law_right [.d d', .d (shD a b)] [] = .ok (.d (.bool true)) [] := by
      simp at hm
      rcases hm with rfl | rfl | rfl
      · exact ⟨right_ok h1 h2 (by decide), right_ok h2 h1 (by decide)⟩
      · exact ⟨right_ok h1 h1 (by decide), right_ok h1 h1 (by decide)⟩
      · exact ⟨right_ok h1 h4 (by decide), right_ok h4 h1 (by decide)⟩
    exact st_last (s1 := ⟨[.d (.list (ns.map PyData.int)), .c 0, .d (shD a b), .d d', .u, .u, .u, .u, .u], [p3]⟩) (by simp [rr.1, rr.2]; exact .rfl) ⟨_, rfl⟩
  obtain ⟨x3, rfl⟩ := hs
  refine st (s1 := ⟨[.d (.list (ns.map PyData.int)), .c 0, .d (shD a b), x3, .d (shD 1 1), .u, .u, .u, .u], [p3]⟩) (by simp [z1]; exact .rfl) ?_
  refine w_cut (fun s => ∃ x5 x6 x7 x8 u w p, s = ⟨[.d (.list (ns.map PyData.int)), .c 0, .d (shD a b), x3, .d (shD u w), x5, x6, x7, x8], [p]⟩) ?_ fun s hs => ?_
  · refine w_for (ds := rangeD 0 14) (fun i s => ∃ x5 x6 x7 x8 u w p, s = ⟨[.d (.list (ns.map PyData.int)), .c 0, .d (shD a b), x3, .d (shD u w), x5, x6, x7, x8], [p]⟩ ∧ Sh (1 + 40 * i) u w ∧ IsPen (100 + 17 * i) p) (ciR1_c (by decide) (by decide)) ⟨_, _, _, _, 1, 1, p3, rfl, sh_1', hp3.mono (by omega)⟩ (fun i d' s hd hi => ?_) fun s hs => ?_
    · obtain ⟨x5, x6, x7, x8, u, w, p, rfl, hu, hp⟩ := hi
      have hi := (rangeD_lt hd).1
      refine ⟨_, rfl, ?_⟩
      obtain ⟨v, q1, f1, v0, v1, hq1⟩ := drawA _ p [] 4 hp (by omega) (by decide) (by decide)
      obtain ⟨x, y, q2, f2, hx, hq2⟩ := shareA_ok (r := []) hq1 (by omega)
      obtain ⟨x', y', q3, f3, hx', hq3⟩ := shareA_ok (r := []) hq2 (by omega)
      refine st (by simp [f1]; exact .rfl) (st (by simp [f2]; exact .rfl) (st (by simp [f3]; exact .rfl) ?_))
      refine w_cut (fun s => ∃ s' t', s = ⟨[.d (.list (ns.map PyData.int)), .c 0, .d (shD a b), x3, .d (shD u w), .d d', .d (.int v), .d (shD x y), .d (shD s' t')], [q3]⟩ ∧ Sh 40 s' t') (if h0 : v = 0 then st_last (by simp [h0]; exact .rfl) ⟨x, y, rfl, hx⟩ else st_last (by simp [h0]; exact .rfl) ⟨x', y', rfl, hx'⟩) fun s hs => ?_
      obtain ⟨s', t', rfl, hst⟩ := hs
      refine w_cut (fun s => ∃ s' t', s = ⟨[.d (.list (ns.map PyData.int)), .c 0, .d (shD a b), x3, .d (shD u w), .d d', .d (.int v), .d (shD x y), .d (shD s' t')], [q3]⟩ ∧ Sh 40 s' t') (if h0 : v = 1 ∧ 0 < x then st_last (by simp [h0.1, h0.2, sh_mk]; exact .rfl) ⟨y, x, rfl, hx.swap h0.2⟩ else st_last (by
        by_cases h1 : v = 1
        · have h2 : ¬ 0 < x := fun z => h0 ⟨h1, z⟩
          simp [h1, h2]
          exact .rfl
        · simp [h1]
          exact .rfl) ⟨s', t', rfl, hst⟩) fun s hs => ?_
      obtain ⟨s', t', rfl, hst⟩ := hs
      have g1 := right_ok hx hst (by decide)
      have g2 := right_ok hst hx (by decide)
      have g3 := right_ok hu hx (by omega)
      have g4 := right_ok hx sh_z (by decide)
      refine st (s1 := ⟨[.d (.list (ns.map PyData.int)), .c 0, .d (shD a b), x3, .d (shD u w), .d d', .d (.int v), .d (shD x y), .d (shD s' t')], [q3]⟩) (by simp [z0, g1, g2, g3, g4]; exact .rfl) ?_
      by_cases h0 : s' = 0
      · exact st_last (s1 := ⟨[.d (.list (ns.map PyData.int)), .c 0, .d (shD a b), x3, .d (shD u w), .d d', .d (.int v), .d (shD x y), .d (shD s' t')], [q3]⟩) (by simp [h0]; exact .rfl) ⟨_, _, _, _, u, w, q3, rfl, hu.mono (by omega), hq3.mono (by omega)⟩
      · obtain ⟨p5, q5, e5, s5, _⟩ := times_ok hu hst (by omega)
        obtain ⟨p6, q6, e6, s6, _⟩ := over_ok hu hst (by omega) h0
        have hv : v % 2 = 0 ∨ v % 2 = 1 := by omega
        rcases hv with hv | hv
        · have ix : opIx (.d (.list [shD p5 q5, shD p6 q6])) (.d (.int 0)) = some (.d (shD p5 q5)) := rfl
          exact st_last (s1 := ⟨[.d (.list (ns.map PyData.int)), .c 0, .d (shD a b), x3, .d (shD p5 q5), .d d', .d (.int v), .d (shD x y), .d (shD s' t')], [q3]⟩) (by simp [h0, e5, e6, opMod_i, hv, ix]; exact .rfl) ⟨_, _, _, _, p5, q5, q3, rfl, s5.mono (by omega), hq3.mono (by omega)⟩
        · have ix : opIx (.d (.list [shD p5 q5, shD p6 q6])) (.d (.int 1)) = some (.d (shD p6 q6)) := rfl
          exact st_last (s1 := ⟨[.d (.list (ns.map PyData.int)), .c 0, .d (shD a b), x3, .d (shD p6 q6), .d d', .d (.int v), .d (shD x y), .d (shD s' t')], [q3]⟩) (by simp [h0, e5, e6, opMod_i, hv, ix]; exact .rfl) ⟨_, _, _, _, p6, q6, q3, rfl, s6.mono (by omega), hq3.mono (by omega)⟩
    · obtain ⟨x5, x6, x7, x8, u, w, p, rfl, _, _⟩ := hs
      exact ⟨_, _, _, _, _, _, _, rfl⟩
  · obtain ⟨x5, x6, x7, x8, u, w, p, rfl⟩ := hs
    exact w_rD (x := .bool true) [p] ⟨_, by simp; exact .rfl⟩ fun _ => ok_0 ⟨rfl, rfl⟩
end Vm

namespace Vm
open PySem L2 PySem.Spec PyProof.Rows
def topS (i : Nat) : Stmt := PySem.Challenge.pw_emptierbox_k04_products_and_what_is_over.main.body.getD i (.Pass ⟨0, 0, 0, 0⟩)
abbrev s_measure : Stmt := topS 12
abbrev N_measure : List Str := ["a", "b"]
theorem sc_measure : FnScope N_measure ["a", "b"] (defScope s_measure) := ⟨rfl, rfl, rfl, by decide +kernel, rfl, by decide +kernel, by decide +kernel⟩
abbrev s_share : Stmt := topS 13
abbrev N_share : List Str := ["top", "bottom", "common"]
theorem sc_share : FnScope N_share ["top", "bottom"] (defScope s_share) := ⟨rfl, rfl, rfl, by decide +kernel, rfl, by decide +kernel, by decide +kernel⟩
abbrev s_times : Stmt := topS 14
abbrev N_times : List Str := ["a", "b"]
theorem sc_times : FnScope N_times ["a", "b"] (defScope s_times) := ⟨rfl, rfl, rfl, by decide +kernel, rfl, by decide +kernel, by decide +kernel⟩
abbrev s_over : Stmt := topS 15
abbrev N_over : List Str := ["a", "b"]
theorem sc_over : FnScope N_over ["a", "b"] (defScope s_over) := ⟨rfl, rfl, rfl, by decide +kernel, rfl, by decide +kernel, by decide +kernel⟩
abbrev s__law_pen : Stmt := topS 17
abbrev N__law_pen : List Str := ["_law_script"]
theorem sc__law_pen : FnScope N__law_pen ["_law_script"] (defScope s__law_pen) := ⟨rfl, rfl, rfl, by decide +kernel, rfl, by decide +kernel, by decide +kernel⟩
abbrev s__law_draw : Stmt := topS 18
abbrev N__law_draw : List Str := ["_law_pen_here", "_law_many", "_law_found", "_law_at", "_law_cell", "_law_prime", "_law_number_here"]
theorem sc__law_draw : FnScope N__law_draw ["_law_pen_here", "_law_many"] (defScope s__law_draw) := ⟨rfl, rfl, rfl, by decide +kernel, rfl, by decide +kernel, by decide +kernel⟩
abbrev s__law_is_whole : Stmt := topS 19
abbrev N__law_is_whole : List Str := ["_law_thing"]
theorem sc__law_is_whole : FnScope N__law_is_whole ["_law_thing"] (defScope s__law_is_whole) := ⟨rfl, rfl, rfl, by decide +kernel, rfl, by decide +kernel, by decide +kernel⟩
abbrev s__law_measure : Stmt := topS 20
abbrev N__law_measure : List Str := ["_law_a", "_law_b"]
theorem sc__law_measure : FnScope N__law_measure ["_law_a", "_law_b"] (defScope s__law_measure) := ⟨rfl, rfl, rfl, by decide +kernel, rfl, by decide +kernel, by decide +kernel⟩
abbrev s__law_number : Stmt := topS 21
abbrev N__law_number : List Str := ["_law_pen_here", "_law_way", "_law_sign"]
theorem sc__law_number : FnScope N__law_number ["_law_pen_here"] (defScope s__law_number) := ⟨rfl, rfl, rfl, by decide +kernel, rfl, by decide +kernel, by decide +kernel⟩
abbrev s__law_reduced : Stmt := topS 22
abbrev N__law_reduced : List Str := ["_law_top", "_law_bottom", "_law_common"]
theorem sc__law_reduced : FnScope N__law_reduced ["_law_top", "_law_bottom"] (defScope s__law_reduced) := ⟨rfl, rfl, rfl, by decide +kernel, rfl, by decide +kernel, by decide +kernel⟩
abbrev s__law_share : Stmt := topS 23
abbrev N__law_share : List Str := ["_law_pen_here", "_law_way", "_law_top", "_law_bottom"]
theorem sc__law_share : FnScope N__law_share ["_law_pen_here"] (defScope s__law_share) := ⟨rfl, rfl, rfl, by decide +kernel, rfl, by decide +kernel, by decide +kernel⟩
abbrev s__law_heard : Stmt := topS 24
abbrev N__law_heard : List Str := ["_law_asked", "_law_caught", "_law_found", "e", "_law_marks"]
theorem sc__law_heard : FnScope N__law_heard ["_law_asked"] (defScope s__law_heard) := ⟨rfl, rfl, rfl, by decide +kernel, rfl, by decide +kernel, by decide +kernel⟩
abbrev s__law_is : Stmt := topS 25
abbrev N__law_is : List Str := ["_law_found", "_law_top", "_law_bottom", "_law_one"]
theorem sc__law_is : FnScope N__law_is ["_law_found", "_law_top", "_law_bottom"] (defScope s__law_is) := ⟨rfl, rfl, rfl, by decide +kernel, rfl, by decide +kernel, by decide +kernel⟩
abbrev s__law_right : Stmt := topS 26
abbrev N__law_right : List Str := ["_law_a", "_law_b", "_law_found", "_law_sign"]
theorem sc__law_right : FnScope N__law_right ["_law_a", "_law_b"] (defScope s__law_right) := ⟨rfl, rfl, rfl, by decide +kernel, rfl, by decide +kernel, by decide +kernel⟩
abbrev s__law_great : Stmt := topS 27
abbrev N__law_great : List Str := ["_law_pen_here", "_law_sign", "_law_top", "_law_found", "_law_k"]
theorem sc__law_great : FnScope N__law_great ["_law_pen_here"] (defScope s__law_great) := ⟨rfl, rfl, rfl, by decide +kernel, rfl, by decide +kernel, by decide +kernel⟩
abbrev s_law : Stmt := topS 28
abbrev N_law : List Str := ["_law_script", "_law_pen_here", "_law_great_here", "_law_other", "_law_so_far", "_law_k", "_law_way", "_law_a", "_law_b"]
theorem sc_law : FnScope N_law ["_law_script"] (defScope s_law) := ⟨rfl, rfl, rfl, by decide +kernel, rfl, by decide +kernel, by decide +kernel⟩
/-- what the top leaves beside the defs -/
structure Txt (K : Fg) (mg : Str → Option Value) (ec : EC) : Prop where
  z_abs : mg "abs" = none
  z_all : mg "all" = none
  z_bool : mg "bool" = none
  z_int : mg "int" = none
  z_isinstance : mg "isinstance" = none
  z_len : mg "len" = none
  z_list : mg "list" = none
  z_range : mg "range" = none
  z_tuple : mg "tuple" = none
  x_NoShare : ExcF K mg ec "NoShare" "NoShare"
  w : ec.w = bot
  exc : ∀ m, m ∈ ec.X → ExcC K (ec.f m)
  i_Fuller : IsF K mg ec "Fuller" "Fuller"
  i_NoBack : IsF K mg ec "NoBack" "NoBack"
  i_NoBall : IsF K mg ec "NoBall" "NoBall"
  i_NoName : IsF K mg ec "NoName" "NoName"
  i_NoRow : IsF K mg ec "NoRow" "NoRow"
  i_NoShare : IsF K mg ec "NoShare" "NoShare"
  i_NoText : IsF K mg ec "NoText" "NoText"
  i_TooMany : IsF K mg ec "TooMany" "TooMany"
  i_Unlike : IsF K mg ec "Unlike" "Unlike"
  i_ValueError : IsF K mg ec "ValueError" "ValueError"
  c_BallError : CatF K mg ec "BallError" ["NoShare"]
section
variable {P : Program} {wo : World} {K : Fg} {mg : Str → Option Value} {base : Heap} {ec : EC}
theorem ok_measure (T : Txt K mg ec) (Df : DefF K mg "measure" s_measure ["a", "b"])   : Cal P wo K mg base ec "measure" ["a", "b"] f_measure 1 :=
  Df.cal fun F => fn_ok (k := 0) F sc_measure c_measure fun cdv A outer s H E hr tk hp => by
    have nd := sc_measure.nd
    have hu := hr.units
    have hu1 := hu_of hr
    have hw := T.w
    exact (b_cons (s_while (fun _ => 1000000) hp (t_cmp (OpR.or op_gt (op_gtV hu)) s_ord (e_var 1) e_int)
 (b_one (s_par 0 1 nd (e_var 1) (e_bin op_modN s_mod (e_var 0) (e_var 1)) (by decide))))
 (b_one (s_ret (e_var 0))))
theorem ok_share (T : Txt K mg ec) (Df : DefF K mg "share" s_share ["top", "bottom"])  (C_measure : Cal P wo K mg base ec "measure" ["a", "b"] f_measure 1) : Cal P wo K mg base ec "share" ["top", "bottom"] f_share 2 :=
  Df.cal fun F => fn_ok (k := 1) F sc_share c_share fun cdv A outer s H E hr tk hp => by
    have nd := sc_share.nd
    have hu := hr.units
    have hu1 := hu_of hr
    have hw := T.w
    exact (b_cons (s_if (t_cmp (op_eqV hu) s_eq (e_var 1) e_int)
 (b_one (s_raise T.x_NoShare tk))
 b_nil)
 (b_cons (s_set 2 nd (e_callP C_measure (hr.mono (by decide)) tk (l_cons (e_call1 call_abs s_abs T.z_abs PyProof.Rows.boot_abs (e_var 0)) (l_cons (e_call1 call_abs s_abs T.z_abs PyProof.Rows.boot_abs (e_var 1)) l_nil)) (ll_cons (ll_cons ll_nil))))
 (b_cons (s_if (t_cmp (OpR.or op_lt (op_ltV hu)) s_ord (e_var 1) e_int)
 (b_one (s_set 2 nd (e_bin op_sub s_sub e_int (e_var 2))))
 b_nil)
 (b_one (s_ret (e_tup (a_cons (e_bin op_fdivV s_div (e_var 0) (e_var 2)) (a_cons (e_bin op_fdivV s_div (e_var 1) (e_var 2)) a_nil)) (CLen.le (cl_cons (cl_cons cl_nil)) (by decide))))))))
theorem ok_times (T : Txt K mg ec) (Df : DefF K mg "times" s_times ["a", "b"])  (C_share : Cal P wo K mg base ec "share" ["top", "bottom"] f_share 2) : Cal P wo K mg base ec "times" ["a", "b"] f_times 3 :=
  Df.cal fun F => fn_ok (k := 2) F sc_times c_times fun cdv A outer s H E hr tk hp => by
    have nd := sc_times.nd
    have hu := hr.units
    have hu1 := hu_of hr
    have hw := T.w
    exact (b_one (s_ret (e_callP C_share (hr.mono (by decide)) tk (l_cons (e_bin or_mul s_mulV (e_ixR ixr_V s_ix (e_var 0) e_int) (e_ixR ixr_V s_ix (e_var 1) e_int)) (l_cons (e_bin or_mul s_mulV (e_ixR ixr_V s_ix (e_var 0) e_int) (e_ixR ixr_V s_ix (e_var 1) e_int)) l_nil)) (ll_cons (ll_cons ll_nil)))))
theorem ok_over (T : Txt K mg ec) (Df : DefF K mg "over" s_over ["a", "b"])  (C_share : Cal P wo K mg base ec "share" ["top", "bottom"] f_share 2) : Cal P wo K mg base ec "over" ["a", "b"] f_over 3 :=
  Df.cal fun F => fn_ok (k := 2) F sc_over c_over fun cdv A outer s H E hr tk hp => by
    have nd := sc_over.nd
    have hu := hr.units
    have hu1 := hu_of hr
    have hw := T.w
    exact (b_one (s_ret (e_callP C_share (hr.mono (by decide)) tk (l_cons (e_bin or_mul s_mulV (e_ixR ixr_V s_ix (e_var 0) e_int) (e_ixR ixr_V s_ix (e_var 1) e_int)) (l_cons (e_bin or_mul s_mulV (e_ixR ixr_V s_ix (e_var 0) e_int) (e_ixR ixr_V s_ix (e_var 1) e_int)) l_nil)) (ll_cons (ll_cons ll_nil)))))
theorem ok__law_pen (T : Txt K mg ec) (Df : DefF K mg "_law_pen" s__law_pen ["_law_script"])   : Cal P wo K mg base ec "_law_pen" ["_law_script"] f__law_pen 1 :=
  Df.cal fun F => fn_ok (k := 0) F sc__law_pen c__law_pen fun cdv A outer s H E hr tk hp => by
    have nd := sc__law_pen.nd
    have hu := hr.units
    have hu1 := hu_of hr
    have hw := T.w
    exact (b_one (s_ret (e_disp (dp_cons (key := (.inr "cells")) pe_str (e_sl (e_var 0) o_none (o_some e_int)) (dp_cons (key := (.inr "at")) pe_str e_int (dp_cons (key := (.inr "left")) pe_str e_int dp_nil cl_nil rfl) (cl_cons cl_nil) rfl) (cl_cons (cl_cons cl_nil)) rfl) (cl_cons (cl_cons (cl_cons cl_nil))) (by decide))))
theorem ok__law_draw (T : Txt K mg ec) (Df : DefF K mg "_law_draw" s__law_draw ["_law_pen_here", "_law_many"])   : Cal P wo K mg base ec "_law_draw" ["_law_pen_here", "_law_many"] f__law_draw 1 :=
  Df.cal fun F => fn_ok (k := 0) F sc__law_draw c__law_draw fun cdv A outer s H E hr tk hp => by
    have nd := sc__law_draw.nd
    have hu := hr.units
    have hu1 := hu_of hr
    have hw := T.w
    exact (b_cons (s_if (t_cmp (OpR.or op_gt (op_gtV hu)) s_ord (e_item hu1 (e_var 0) e_str) e_int)
 (b_cons (s_set 2 nd (e_bin op_modN s_mod (e_item hu1 (e_var 0) e_str) (e_var 1)))
 (b_cons (s_dput hu1 (e_var 0) e_str (e_bin op_fdivV s_div (e_item hu1 (e_var 0) e_str) (e_var 1)))
 (b_one (s_ret (e_var 2)))))
 b_nil)
 (b_cons (s_set 3 nd (e_item hu1 (e_var 0) e_str))
 (b_cons (s_dput hu1 (e_var 0) e_str (e_bin or_add s_add (e_var 3) e_int))
 (b_cons (s_set 4 nd (e_bin or_add s_add (e_bin or_mul s_mulV e_int (e_var 3)) e_int))
 (b_cons (s_if (t_cmp (OpR.or op_gt (op_gtV hu)) s_ord (e_call1 call_lenV s_len T.z_len PySem.boot_len (e_item hu1 (e_var 0) e_str)) e_int)
 (b_one (s_set 4 nd (e_ixR ixr_V s_ix (e_item hu1 (e_var 0) e_str) (e_bin op_modN s_mod (e_var 3) (e_call1 call_lenV s_len T.z_len PySem.boot_len (e_item hu1 (e_var 0) e_str))))))
 b_nil)
 (b_cons (s_if (t_bop (p_and (t_cmp (OpR.or op_lt (op_ltV hu)) s_ord (e_var 3) (e_call1 call_lenV s_len T.z_len PySem.boot_len (e_item hu1 (e_var 0) e_str))) (p_and1 (t_cmp (OpR.or op_ge (op_geV hu)) s_ord (e_call1 call_abs s_abs T.z_abs PyProof.Rows.boot_abs (e_var 4)) (e_bin op_pow s_pow e_int e_int)))))
 (b_cons (s_dput hu1 (e_var 0) e_str (e_bin op_fdivV s_div (e_call1 call_abs s_abs T.z_abs PyProof.Rows.boot_abs (e_var 4)) (e_var 1)))
 (b_one (s_ret (e_bin op_modN s_mod (e_call1 call_abs s_abs T.z_abs PyProof.Rows.boot_abs (e_var 4)) (e_var 1)))))
 b_nil)
 (b_cons (s_set 5 nd (e_ixR ixr_V s_ix (e_tup (a_cons e_int (a_cons e_int (a_cons e_int (a_cons e_int (a_cons e_int (a_cons e_int (a_cons e_int a_nil))))))) (CLen.le (cl_cons (cl_cons (cl_cons (cl_cons (cl_cons (cl_cons (cl_cons cl_nil))))))) (by decide))) (e_bin op_modN s_mod (e_var 3) e_int)))
 (b_cons (s_set 6 nd (e_bin op_modN s_mod (e_bin op_pow s_pow (e_bin or_add s_add (e_bin or_add s_add (e_bin or_add s_add (e_bin op_modN s_mod (e_var 4) e_int) (e_bin or_mul s_mulV (e_bin or_mul s_mulV e_int (e_var 3)) (e_var 3))) (e_bin or_mul s_mulV e_int (e_var 3))) e_int) e_int) (e_var 5)))
 (b_cons (s_set 6 nd (e_bin op_modN s_mod (e_bin op_pow s_pow (e_bin or_add s_add (e_bin or_add s_add (e_var 6) (e_bin or_mul s_mulV e_int (e_var 3))) e_int) e_int) e_int))
 (b_one (s_ret (e_bin op_modN s_mod (e_bin op_fdivV s_div (e_bin op_modN s_mod (e_bin or_mul s_mulV (e_var 6) e_int) e_int) e_int) (e_var 1)))))))))))))
theorem ok__law_is_whole (T : Txt K mg ec) (Df : DefF K mg "_law_is_whole" s__law_is_whole ["_law_thing"])   : Cal P wo K mg base ec "_law_is_whole" ["_law_thing"] f__law_is_whole 1 :=
  Df.cal fun F => fn_ok (k := 0) F sc__law_is_whole c__law_is_whole fun cdv A outer s H E hr tk hp => by
    have nd := sc__law_is_whole.nd
    have hu := hr.units
    have hu1 := hu_of hr
    have hw := T.w
    exact (b_one (s_ret (e_and (e_isi (T := "int") T.z_isinstance T.z_int PyProof.Rows.boot_int (by decide +kernel) (e_var 0)) (e_one (e_not (e_isi (T := "bool") T.z_isinstance T.z_bool PyProof.Rows.boot_bool (by decide +kernel) (e_var 0)))))))
theorem ok__law_measure (T : Txt K mg ec) (Df : DefF K mg "_law_measure" s__law_measure ["_law_a", "_law_b"])   : Cal P wo K mg base ec "_law_measure" ["_law_a", "_law_b"] f__law_measure 1 :=
  Df.cal fun F => fn_ok (k := 0) F sc__law_measure c__law_measure fun cdv A outer s H E hr tk hp => by
    have nd := sc__law_measure.nd
    have hu := hr.units
    have hu1 := hu_of hr
    have hw := T.w
    exact (b_cons (s_while (fun _ => 1000000) hp (t_cmp (OpR.or op_gt (op_gtV hu)) s_ord (e_var 1) e_int)
 (b_one (s_par 0 1 nd (e_var 1) (e_bin op_modN s_mod (e_var 0) (e_var 1)) (by decide))))
 (b_one (s_ret (e_var 0))))
theorem ok__law_number (T : Txt K mg ec) (Df : DefF K mg "_law_number" s__law_number ["_law_pen_here"])  (C__law_draw : Cal P wo K mg base ec "_law_draw" ["_law_pen_here", "_law_many"] f__law_draw 1) : Cal P wo K mg base ec "_law_number" ["_law_pen_here"] f__law_number 2 :=
  Df.cal fun F => fn_ok (k := 1) F sc__law_number c__law_number fun cdv A outer s H E hr tk hp => by
    have nd := sc__law_number.nd
    have hu := hr.units
    have hu1 := hu_of hr
    have hw := T.w
    exact (b_cons (s_set 1 nd (e_callC C__law_draw (hr.mono (by decide)) tk (l_cons (e_var 0) (l_cons e_int l_nil)) (ll_cons (ll_cons ll_nil))))
 (b_cons (s_set 2 nd (e_bin op_sub s_sub e_int (e_bin or_mul s_mulV e_int (e_callC C__law_draw (hr.mono (by decide)) tk (l_cons (e_var 0) (l_cons e_int l_nil)) (ll_cons (ll_cons ll_nil))))))
 (b_cons (s_if (t_cmp (op_eqV hu) s_eq (e_var 1) e_int)
 (b_one (s_ret e_int))
 b_nil)
 (b_cons (s_if (t_cmp (op_eqV hu) s_eq (e_var 1) e_int)
 (b_one (s_ret (e_bin or_mul s_mulV (e_var 2) (e_bin or_add s_add e_int (e_callC C__law_draw (hr.mono (by decide)) tk (l_cons (e_var 0) (l_cons e_int l_nil)) (ll_cons (ll_cons ll_nil)))))))
 b_nil)
 (b_cons (s_if (t_cmp (op_eqV hu) s_eq (e_var 1) e_int)
 (b_one (s_ret (e_bin or_mul s_mulV (e_var 2) (e_bin op_sub s_sub (e_bin op_sub s_sub (e_bin op_pow s_pow e_int e_int) e_int) (e_callC C__law_draw (hr.mono (by decide)) tk (l_cons (e_var 0) (l_cons e_int l_nil)) (ll_cons (ll_cons ll_nil)))))))
 b_nil)
 (b_one (s_ret (e_bin or_mul s_mulV (e_var 2) (e_bin or_add s_add (e_bin or_mul s_mulV (e_callC C__law_draw (hr.mono (by decide)) tk (l_cons (e_var 0) (l_cons (e_bin op_pow s_pow e_int e_int) l_nil)) (ll_cons (ll_cons ll_nil))) (e_ixR ixr_V s_ix (e_lst (a_cons e_int (a_cons (e_bin op_pow s_pow e_int e_int) a_nil)) (CLen.le (cl_cons (cl_cons cl_nil)) (by decide))) (e_bin op_sub s_sub (e_var 1) e_int))) (e_callC C__law_draw (hr.mono (by decide)) tk (l_cons (e_var 0) (l_cons (e_bin op_pow s_pow e_int e_int) l_nil)) (ll_cons (ll_cons ll_nil))))))))))))
theorem ok__law_reduced (T : Txt K mg ec) (Df : DefF K mg "_law_reduced" s__law_reduced ["_law_top", "_law_bottom"])  (C__law_measure : Cal P wo K mg base ec "_law_measure" ["_law_a", "_law_b"] f__law_measure 1) : Cal P wo K mg base ec "_law_reduced" ["_law_top", "_law_bottom"] f__law_reduced 2 :=
  Df.cal fun F => fn_ok (k := 1) F sc__law_reduced c__law_reduced fun cdv A outer s H E hr tk hp => by
    have nd := sc__law_reduced.nd
    have hu := hr.units
    have hu1 := hu_of hr
    have hw := T.w
    exact (b_cons (s_set 2 nd (e_callP C__law_measure (hr.mono (by decide)) tk (l_cons (e_call1 call_abs s_abs T.z_abs PyProof.Rows.boot_abs (e_var 0)) (l_cons (e_var 1) l_nil)) (ll_cons (ll_cons ll_nil))))
 (b_one (s_ret (e_tup (a_cons (e_bin op_fdivV s_div (e_var 0) (e_var 2)) (a_cons (e_bin op_fdivV s_div (e_var 1) (e_var 2)) a_nil)) (CLen.le (cl_cons (cl_cons cl_nil)) (by decide))))))
theorem ok__law_share (T : Txt K mg ec) (Df : DefF K mg "_law_share" s__law_share ["_law_pen_here"])  (C__law_draw : Cal P wo K mg base ec "_law_draw" ["_law_pen_here", "_law_many"] f__law_draw 1) (C__law_number : Cal P wo K mg base ec "_law_number" ["_law_pen_here"] f__law_number 2) (C__law_reduced : Cal P wo K mg base ec "_law_reduced" ["_law_top", "_law_bottom"] f__law_reduced 2) : Cal P wo K mg base ec "_law_share" ["_law_pen_here"] f__law_share 3 :=
  Df.cal fun F => fn_ok (k := 2) F sc__law_share c__law_share fun cdv A outer s H E hr tk hp => by
    have nd := sc__law_share.nd
    have hu := hr.units
    have hu1 := hu_of hr
    have hw := T.w
    exact (b_cons (s_set 1 nd (e_callC C__law_draw (hr.mono (by decide)) tk (l_cons (e_var 0) (l_cons e_int l_nil)) (ll_cons (ll_cons ll_nil))))
 (b_cons (s_set 2 nd (e_callC C__law_number (hr.mono (by decide)) tk (l_cons (e_var 0) l_nil) (ll_cons ll_nil)))
 (b_cons (s_set 3 nd (e_bin or_add s_add e_int (e_callC C__law_draw (hr.mono (by decide)) tk (l_cons (e_var 0) (l_cons e_int l_nil)) (ll_cons (ll_cons ll_nil)))))
 (b_cons (s_if (t_cmp (op_eqV hu) s_eq (e_var 1) e_int)
 (b_one (s_ret (e_tup (a_cons (e_bin op_sub s_sub (e_bin op_modN s_mod (e_var 2) e_int) e_int) (a_cons e_int a_nil)) (CLen.le (cl_cons (cl_cons cl_nil)) (by decide)))))
 b_nil)
 (b_cons (s_if (t_cmp (op_eqV hu) s_eq (e_var 1) e_int)
 (b_one (s_ret (e_callP C__law_reduced (hr.mono (by decide)) tk (l_cons (e_bin op_sub s_sub (e_bin op_modN s_mod (e_var 2) e_int) e_int) (l_cons (e_var 3) l_nil)) (ll_cons (ll_cons ll_nil)))))
 b_nil)
 (b_cons (s_if (t_cmp (op_eqV hu) s_eq (e_var 1) e_int)
 (b_one (s_ret (e_callP C__law_reduced (hr.mono (by decide)) tk (l_cons (e_bin op_sub s_sub (e_bin op_modN s_mod (e_var 2) e_int) e_int) (l_cons (e_bin or_mul s_mulV e_int (e_var 3)) l_nil)) (ll_cons (ll_cons ll_nil)))))
 b_nil)
 (b_cons (s_if (t_cmp (op_eqV hu) s_eq (e_var 1) e_int)
 (b_one (s_ret (e_callP C__law_reduced (hr.mono (by decide)) tk (l_cons (e_var 2) (l_cons (e_bin op_sub s_sub (e_bin op_pow s_pow e_int e_int) (e_var 3)) l_nil)) (ll_cons (ll_cons ll_nil)))))
 b_nil)
 (b_one (s_ret (e_callP C__law_reduced (hr.mono (by decide)) tk (l_cons (e_var 2) (l_cons (e_bin or_add s_add (e_bin or_add s_add e_int (e_bin or_mul s_mulV (e_callC C__law_draw (hr.mono (by decide)) tk (l_cons (e_var 0) (l_cons (e_bin op_pow s_pow e_int e_int) l_nil)) (ll_cons (ll_cons ll_nil))) (e_bin op_pow s_pow e_int e_int))) (e_var 3)) l_nil)) (ll_cons (ll_cons ll_nil))))))))))))
theorem ok__law_heard (T : Txt K mg ec) (k : Nat) : HeardOk P wo K mg base ec "_law_heard" "_law_asked" N__law_heard s__law_heard c__law_heard (k + 1) := fun g cdv A outer s H w0 lf ask hr act => by
    have nd := sc__law_heard.nd
    have hu := hr.units
    have hu1 := hu_of hr
    exact (b_cons (s_set 1 nd e_none)
 (b_cons (s_set 2 nd e_none)
 (b_cons (s_try ["NoShare"] 3 1 rfl rfl nd takesN T.c_BallError.at (fun W pn xe tk hp =>
 (b_one (s_set 2 nd (act tk)))))
 (b_cons (s_if (t_isN 1)
 (b_one (s_ret (e_lst (a_cons (e_var 2) a_nil) (CLen.le (cl_cons cl_nil) (by decide)))))
 b_nil)
 (b_cons (s_set 4 nd (e_lst (a_cons (e_isX 1 T.z_isinstance T.i_NoShare.at T.exc) (a_cons (e_isX 1 T.z_isinstance T.i_NoBall.at T.exc) (a_cons (e_isX 1 T.z_isinstance T.i_Unlike.at T.exc) a_nil))) (CLen.le (cl_cons (cl_cons (cl_cons cl_nil))) (by decide))))
 (b_cons (s_set 4 nd (e_bin or_add s_add (e_var 4) (e_lst (a_cons (e_isX 1 T.z_isinstance T.i_Fuller.at T.exc) (a_cons (e_isX 1 T.z_isinstance T.i_TooMany.at T.exc) (a_cons (e_isX 1 T.z_isinstance T.i_NoBack.at T.exc) a_nil))) (CLen.le (cl_cons (cl_cons (cl_cons cl_nil))) (by decide)))))
 (b_cons (s_set 4 nd (e_bin or_add s_add (e_var 4) (e_lst (a_cons (e_isX 1 T.z_isinstance T.i_NoName.at T.exc) (a_cons (e_isX 1 T.z_isinstance T.i_NoText.at T.exc) (a_cons (e_isX 1 T.z_isinstance T.i_NoRow.at T.exc) a_nil))) (CLen.le (cl_cons (cl_cons (cl_cons cl_nil))) (by decide)))))
 (b_cons (s_if (t_bop (p_or (t_cmp (op_neV hu) s_ne (e_count hr (e_var 4) e_bool) e_int) (p_or1 (t_not (t_of (e_isX 1 T.z_isinstance T.i_ValueError.at T.exc))))))
 (b_one (s_ret e_str))
 b_nil)
 (b_one (s_ret (e_ixR ixr_V s_ix (e_lst (a_cons e_str (a_cons e_str (a_cons e_str (a_cons e_str (a_cons e_str (a_cons e_str (a_cons e_str (a_cons e_str (a_cons e_str a_nil))))))))) (CLen.le (cl_cons (cl_cons (cl_cons (cl_cons (cl_cons (cl_cons (cl_cons (cl_cons (cl_cons cl_nil))))))))) (by decide))) (e_index (e_var 4) e_bool))))))))))))
theorem ok__law_is (T : Txt K mg ec) (Df : DefF K mg "_law_is" s__law_is ["_law_found", "_law_top", "_law_bottom"])  (C__law_is_whole : Cal P wo K mg base ec "_law_is_whole" ["_law_thing"] f__law_is_whole 1) (C__law_measure : Cal P wo K mg base ec "_law_measure" ["_law_a", "_law_b"] f__law_measure 1) : Cal P wo K mg base ec "_law_is" ["_law_found", "_law_top", "_law_bottom"] f__law_is 2 :=
  Df.cal fun F => fn_ok (k := 1) F sc__law_is c__law_is fun cdv A outer s H E hr tk hp => by
    have nd := sc__law_is.nd
    have hu := hr.units
    have hu1 := hu_of hr
    have hw := T.w
    exact (b_cons (s_if (t_bop (p_or (t_not (t_of (e_isi (T := "tuple") T.z_isinstance T.z_tuple PyProof.Rows.boot_tuple (by decide +kernel) (e_var 0)))) (p_or (t_cmp (op_neV hu) s_ne (e_call1 call_lenV s_len T.z_len PySem.boot_len (e_var 0)) e_int) (p_or1 (t_not (t_of (e_call1 (cr_all rfl) s_all T.z_all (by decide +kernel) (e_lc (own := [("_law_one", 3)]) nd (blkOk_by (own := [("_law_one", 3)]) (N := N__law_is) (sc := defScope s__law_is) (by decide +kernel)) (i_seq (e_var 0)) (fun _ _ _ _ _ => (g_name 3 nd (by decide))) (fun _ _ _ _ _ => ts_nil) (fun _ _ _ _ _ => (e_callP C__law_is_whole (hr.mono (by decide)) takes0 (l_cons (e_var 3) l_nil) (ll_cons ll_nil)))))))))))
 (b_one (s_ret e_bool))
 b_nil)
 (b_cons (s_if (t_bop (p_or (t_cmp (OpR.or op_lt (op_ltV hu)) s_ord (e_ixR ixr_V s_ix (e_var 0) e_int) e_int) (p_or1 (t_cmp (op_neV hu) s_ne (e_callP C__law_measure (hr.mono (by decide)) tk (l_cons (e_call1 call_abs s_abs T.z_abs PyProof.Rows.boot_abs (e_ixR ixr_V s_ix (e_var 0) e_int)) (l_cons (e_ixR ixr_V s_ix (e_var 0) e_int) l_nil)) (ll_cons (ll_cons ll_nil))) e_int))))
 (b_one (s_ret e_bool))
 b_nil)
 (b_one (s_ret (e_cmp (op_eqV hu) s_eq (e_bin or_mul s_mulV (e_ixR ixr_V s_ix (e_var 0) e_int) (e_var 2)) (e_bin or_mul s_mulV (e_var 1) (e_ixR ixr_V s_ix (e_var 0) e_int)))))))
theorem ok__law_right (T : Txt K mg ec) (Df : DefF K mg "_law_right" s__law_right ["_law_a", "_law_b"]) (LF : LamF K mg base ec "_law_right" (("_law_right" : Str) ++ ".<locals>." ++ "<lambda>")) (D__law_heard : DefF K mg "_law_heard" s__law_heard ["_law_asked"]) (H__law_heard : ∀ k : Nat, HeardOk P wo K mg base ec "_law_heard" "_law_asked" N__law_heard s__law_heard c__law_heard (k + 1)) (C_times : Cal P wo K mg base ec "times" ["a", "b"] f_times 3) (C_over : Cal P wo K mg base ec "over" ["a", "b"] f_over 3) (C__law_is : Cal P wo K mg base ec "_law_is" ["_law_found", "_law_top", "_law_bottom"] f__law_is 2) : Cal P wo K mg base ec "_law_right" ["_law_a", "_law_b"] f__law_right 6 := by
  obtain ⟨lc, lP, TB, mT, one, hcode⟩ := LF.ex
  exact Df.calL fun F hm lk => fn_okL (k := 5) F sc__law_right c__law_right (hcode _ _ _ _ _ hm lk) fun A outer s H E hr tk hp => by
    have nd := sc__law_right.nd
    have hu := hr.units
    have hu1 := hu_of hr
    have hw := T.w
    exact (b_cons (s_if (t_bop (p_or (t_not (t_of (e_callP C__law_is (hr.mono (by decide)) tk (l_cons (e_callP C_times (hr.mono (by decide)) tk (l_cons (e_var 0) (l_cons (e_var 1) l_nil)) (ll_cons (ll_cons ll_nil))) (l_cons (e_bin or_mul s_mulV (e_ixR ixr_V s_ix (e_var 0) e_int) (e_ixR ixr_V s_ix (e_var 1) e_int)) (l_cons (e_bin or_mul s_mulV (e_ixR ixr_V s_ix (e_var 0) e_int) (e_ixR ixr_V s_ix (e_var 1) e_int)) l_nil))) (ll_cons (ll_cons (ll_cons ll_nil)))))) (p_or1 (t_cmp (op_neV hu) s_ne (e_callP C_times (hr.mono (by decide)) tk (l_cons (e_var 1) (l_cons (e_var 0) l_nil)) (ll_cons (ll_cons ll_nil))) (e_callP C_times (hr.mono (by decide)) tk (l_cons (e_var 0) (l_cons (e_var 1) l_nil)) (ll_cons (ll_cons ll_nil)))))))
 (b_one (s_ret e_bool))
 b_nil)
 (b_cons (s_set 2 nd (e_heard (k := 3) D__law_heard sc__law_heard (H__law_heard 3) (hr.mono (by decide)) TB rfl mT one (LamX.lamS_by (sc := defScope s__law_right) (by decide +kernel)) (fun A outer t G E f c' hr => have hu := hr.units; have hu1 := hu_of hr; (e_callP C_over (hr.mono (by decide)) takesL (l_cons (e_var 0) (l_cons (e_var 1) l_nil)) (ll_cons (ll_cons ll_nil))))))
 (b_cons (s_if (t_cmp (op_eqV hu) s_eq (e_ixR ixr_V s_ix (e_var 1) e_int) e_int)
 (b_one (s_ret (e_cmp (op_eqV hu) s_eq (e_var 2) e_str)))
 b_nil)
 (b_cons (s_set 3 nd (e_ixR ixr_V s_ix (e_lst (a_cons e_int (a_cons (e_un un_neg s_neg e_int) a_nil)) (CLen.le (cl_cons (cl_cons cl_nil)) (by decide))) (e_callT1 call_int1 s_int T.z_int (by decide +kernel) (e_cmp (OpR.or op_lt (op_ltV hu)) s_ord (e_ixR ixr_V s_ix (e_var 1) e_int) e_int))))
 (b_one (s_ret (e_and (e_isi (T := "list") T.z_isinstance T.z_list PyProof.Rows.boot_list (by decide +kernel) (e_var 2)) (e_one (e_callP C__law_is (hr.mono (by decide)) tk (l_cons (e_ixR ixr_V s_ix (e_var 2) e_int) (l_cons (e_bin or_mul s_mulV (e_bin or_mul s_mulV (e_var 3) (e_ixR ixr_V s_ix (e_var 0) e_int)) (e_ixR ixr_V s_ix (e_var 1) e_int)) (l_cons (e_bin or_mul s_mulV (e_bin or_mul s_mulV (e_var 3) (e_ixR ixr_V s_ix (e_var 0) e_int)) (e_ixR ixr_V s_ix (e_var 1) e_int)) l_nil))) (ll_cons (ll_cons (ll_cons ll_nil))))))))))))
theorem ok__law_great (T : Txt K mg ec) (Df : DefF K mg "_law_great" s__law_great ["_law_pen_here"])  (C_times : Cal P wo K mg base ec "times" ["a", "b"] f_times 3) (C__law_draw : Cal P wo K mg base ec "_law_draw" ["_law_pen_here", "_law_many"] f__law_draw 1) (C__law_reduced : Cal P wo K mg base ec "_law_reduced" ["_law_top", "_law_bottom"] f__law_reduced 2) : Cal P wo K mg base ec "_law_great" ["_law_pen_here"] f__law_great 4 :=
  Df.cal fun F => fn_ok (k := 3) F sc__law_great c__law_great fun cdv A outer s H E hr tk hp => by
    have nd := sc__law_great.nd
    have hu := hr.units
    have hu1 := hu_of hr
    have hw := T.w
    exact (b_cons (s_set 1 nd (e_bin op_sub s_sub e_int (e_bin or_mul s_mulV e_int (e_callC C__law_draw (hr.mono (by decide)) tk (l_cons (e_var 0) (l_cons e_int l_nil)) (ll_cons (ll_cons ll_nil))))))
 (b_cons (s_set 2 nd (e_bin or_add s_add (e_bin or_add s_add (e_bin op_pow s_pow e_int e_int) (e_bin or_mul s_mulV e_int (e_callC C__law_draw (hr.mono (by decide)) tk (l_cons (e_var 0) (l_cons (e_bin op_pow s_pow e_int e_int) l_nil)) (ll_cons (ll_cons ll_nil))))) e_int))
 (b_cons (s_set 3 nd (e_callP C__law_reduced (hr.mono (by decide)) tk (l_cons (e_bin or_mul s_mulV (e_var 1) (e_var 2)) (l_cons (e_bin or_add s_add (e_bin or_add s_add (e_bin op_pow s_pow e_int e_int) (e_bin or_mul s_mulV e_int (e_callC C__law_draw (hr.mono (by decide)) tk (l_cons (e_var 0) (l_cons (e_bin op_pow s_pow e_int e_int) l_nil)) (ll_cons (ll_cons ll_nil))))) e_int) l_nil)) (ll_cons (ll_cons ll_nil))))
 (b_cons (s_for (own := [4]) hp (i_range1 e_int T.z_range) (g_name 4 nd (by decide))
 (b_one (s_set 3 nd (e_callP C_times (hr.mono (by decide)) tk (l_cons (e_var 3) (l_cons (e_var 3) l_nil)) (ll_cons (ll_cons ll_nil))))))
 (b_one (s_ret (e_var 3)))))))
theorem ok_law (T : Txt K mg ec) (Df : DefF K mg "law" s_law ["_law_script"])  (C_times : Cal P wo K mg base ec "times" ["a", "b"] f_times 3) (C_over : Cal P wo K mg base ec "over" ["a", "b"] f_over 3) (C__law_pen : Cal P wo K mg base ec "_law_pen" ["_law_script"] f__law_pen 1) (C__law_draw : Cal P wo K mg base ec "_law_draw" ["_law_pen_here", "_law_many"] f__law_draw 1) (C__law_share : Cal P wo K mg base ec "_law_share" ["_law_pen_here"] f__law_share 3) (C__law_right : Cal P wo K mg base ec "_law_right" ["_law_a", "_law_b"] f__law_right 6) (C__law_great : Cal P wo K mg base ec "_law_great" ["_law_pen_here"] f__law_great 4) : Cal P wo K mg base ec "law" ["_law_script"] f_law 7 :=
  Df.cal fun F => fn_ok (k := 6) F sc_law c_law fun cdv A outer s H E hr tk hp => by
    have nd := sc_law.nd
    have hu := hr.units
    have hu1 := hu_of hr
    have hw := T.w
    exact (b_cons (s_setM 1 nd (e_callP C__law_pen (hr.mono (by decide)) tk (l_cons (e_var 0) l_nil) (ll_cons ll_nil)))
 (b_cons (s_set 2 nd (e_callC C__law_great (hr.mono (by decide)) tk (l_cons (e_var 1) l_nil) (ll_cons ll_nil)))
 (b_cons (s_for (own := [3]) hp (i_seq (e_lst (a_cons (e_callC C__law_share (hr.mono (by decide)) tk (l_cons (e_var 1) l_nil) (ll_cons ll_nil)) (a_cons (e_var 2) (a_cons (e_callC C__law_great (hr.mono (by decide)) tk (l_cons (e_var 1) l_nil) (ll_cons ll_nil)) a_nil))) (CLen.le (cl_cons (cl_cons (cl_cons cl_nil))) (by decide)))) (g_name 3 nd (by decide))
 (b_one (s_if (t_bop (p_or (t_not (t_of (e_callP C__law_right (hr.mono (by decide)) tk (l_cons (e_var 2) (l_cons (e_var 3) l_nil)) (ll_cons (ll_cons ll_nil))))) (p_or1 (t_not (t_of (e_callP C__law_right (hr.mono (by decide)) tk (l_cons (e_var 3) (l_cons (e_var 2) l_nil)) (ll_cons (ll_cons ll_nil))))))))
 (b_one (s_ret e_bool))
 b_nil)))
 (b_cons (s_set 4 nd (e_tup (a_cons e_int (a_cons e_int a_nil)) (CLen.le (cl_cons (cl_cons cl_nil)) (by decide))))
 (b_cons (s_for (own := [5]) hp (i_range1 e_int T.z_range) (g_name 5 nd (by decide))
 (b_cons (s_set 6 nd (e_callC C__law_draw (hr.mono (by decide)) tk (l_cons (e_var 1) (l_cons e_int l_nil)) (ll_cons (ll_cons ll_nil))))
 (b_cons (s_set 7 nd (e_callC C__law_share (hr.mono (by decide)) tk (l_cons (e_var 1) l_nil) (ll_cons ll_nil)))
 (b_cons (s_set 8 nd (e_callC C__law_share (hr.mono (by decide)) tk (l_cons (e_var 1) l_nil) (ll_cons ll_nil)))
 (b_cons (s_if (t_cmp (op_eqV hu) s_eq (e_var 6) e_int)
 (b_one (s_set 8 nd (e_var 7)))
 b_nil)
 (b_cons (s_if (t_bop (p_and (t_cmp (op_eqV hu) s_eq (e_var 6) e_int) (p_and1 (t_cmp (OpR.or op_gt (op_gtV hu)) s_ord (e_ixR ixr_V s_ix (e_var 7) e_int) e_int))))
 (b_one (s_set 8 nd (e_tup (a_cons (e_ixR ixr_V s_ix (e_var 7) e_int) (a_cons (e_ixR ixr_V s_ix (e_var 7) e_int) a_nil)) (CLen.le (cl_cons (cl_cons cl_nil)) (by decide)))))
 b_nil)
 (b_cons (s_if (t_bop (p_or (t_not (t_of (e_callP C__law_right (hr.mono (by decide)) tk (l_cons (e_var 7) (l_cons (e_var 8) l_nil)) (ll_cons (ll_cons ll_nil))))) (p_or (t_not (t_of (e_callP C__law_right (hr.mono (by decide)) tk (l_cons (e_var 8) (l_cons (e_var 7) l_nil)) (ll_cons (ll_cons ll_nil))))) (p_or (t_not (t_of (e_callP C__law_right (hr.mono (by decide)) tk (l_cons (e_var 4) (l_cons (e_var 7) l_nil)) (ll_cons (ll_cons ll_nil))))) (p_or1 (t_not (t_of (e_callP C__law_right (hr.mono (by decide)) tk (l_cons (e_var 7) (l_cons (e_tup (a_cons e_int (a_cons e_int a_nil)) (CLen.le (cl_cons (cl_cons cl_nil)) (by decide))) l_nil)) (ll_cons (ll_cons ll_nil))))))))))
 (b_one (s_ret e_bool))
 b_nil)
 (b_one (s_if (t_cmp (op_neV hu) s_ne (e_ixR ixr_V s_ix (e_var 8) e_int) e_int)
 (b_one (s_set 4 nd (e_ixR ixr_V s_ix (e_lst (a_cons (e_callP C_times (hr.mono (by decide)) tk (l_cons (e_var 4) (l_cons (e_var 8) l_nil)) (ll_cons (ll_cons ll_nil))) (a_cons (e_callP C_over (hr.mono (by decide)) tk (l_cons (e_var 4) (l_cons (e_var 8) l_nil)) (ll_cons (ll_cons ll_nil))) a_nil)) (CLen.le (cl_cons (cl_cons cl_nil)) (by decide))) (e_bin op_modN s_mod (e_var 6) e_int))))
 b_nil)))))))))
 (b_one (s_ret e_bool)))))))
end
theorem all_mk {l : PySem.W.OpenLaw} {w : World} {K : Fg} {h : Heap} {mg : Str → Option Value} {fa : Addr} (X : K.In h) (G : h.Ns mainGlobals mg) (hfa : mg "law" = some (.ref fa))
    {a0 a1 a2 a3 a4 a5 a6 a7 a8 a9 a10 a11 a12 a13 a14 a15 : Addr} {od0 an0 od1 an1 od2 an2 od3 an3 od4 an4 od5 an5 od6 an6 od7 an7 od8 an8 od9 an9 od10 an10 od11 an11 od12 an12 od13 an13 od14 an14 od15 an15 : Option Addr} {sl0 sl1 sl2 sl3 sl4 sl5 sl6 sl7 sl8 sl9 sl10 sl11 sl12 sl13 sl14 sl15 : Array (Option Value)} {oc0 kV0 dc0 pm0 cd0 ct0 oc1 kV1 dc1 pm1 cd1 ct1 oc2 kV2 dc2 pm2 cd2 ct2 oc3 kV3 dc3 pm3 cd3 ct3 oc4 kV4 dc4 pm4 cd4 ct4 oc5 kV5 dc5 pm5 cd5 ct5 oc6 kV6 dc6 pm6 cd6 ct6 oc7 kV7 dc7 pm7 cd7 ct7 oc8 kV8 dc8 pm8 cd8 ct8 oc9 kV9 dc9 pm9 cd9 ct9 oc10 kV10 dc10 pm10 cd10 ct10 oc11 kV11 dc11 pm11 cd11 ct11 oc12 kV12 dc12 pm12 cd12 ct12 oc13 kV13 dc13 pm13 cd13 ct13 oc14 kV14 dc14 pm14 cd14 ct14 oc15 kV15 dc15 pm15 cd15 ct15 : Value} {xNoShare : Addr}
    {d_BallError d_Fuller d_NoBack d_NoBall d_NoName d_NoRow d_NoShare d_NoText d_TooMany d_Unlike : Addr}
    {k13 P13 : Addr} {ko13 : Value} {kd13 : Option Addr} {kv13 : Array Value} {ks13 : Array (Option Value)} {ts : List Addr} (hts : ∀ P ∈ ts, h.get? P = some (PySem.W.tabObj #[]))
    (a_0 : PySem.W.nsIn K mainGlobals "measure" = some (some (.ref a0))) (l_0 : K.lookup a0 = some ⟨oc0, od0, .func (PySem.W.fnOf "measure" "measure" (defArgs s_measure) (defBody s_measure) (defScope s_measure) .none kV0 dc0 pm0 an0 cd0 ct0), sl0⟩) (c_0 : PySem.W.codeIn K cd0 "measure" = true) (k_0 : PySem.W.keepIn K (.ref a0) = true)
    (a_1 : PySem.W.nsIn K mainGlobals "share" = some (some (.ref a1))) (l_1 : K.lookup a1 = some ⟨oc1, od1, .func (PySem.W.fnOf "share" "share" (defArgs s_share) (defBody s_share) (defScope s_share) .none kV1 dc1 pm1 an1 cd1 ct1), sl1⟩) (c_1 : PySem.W.codeIn K cd1 "share" = true) (k_1 : PySem.W.keepIn K (.ref a1) = true)
    (a_2 : PySem.W.nsIn K mainGlobals "times" = some (some (.ref a2))) (l_2 : K.lookup a2 = some ⟨oc2, od2, .func (PySem.W.fnOf "times" "times" (defArgs s_times) (defBody s_times) (defScope s_times) .none kV2 dc2 pm2 an2 cd2 ct2), sl2⟩) (c_2 : PySem.W.codeIn K cd2 "times" = true) (k_2 : PySem.W.keepIn K (.ref a2) = true)
    (a_3 : PySem.W.nsIn K mainGlobals "over" = some (some (.ref a3))) (l_3 : K.lookup a3 = some ⟨oc3, od3, .func (PySem.W.fnOf "over" "over" (defArgs s_over) (defBody s_over) (defScope s_over) .none kV3 dc3 pm3 an3 cd3 ct3), sl3⟩) (c_3 : PySem.W.codeIn K cd3 "over" = true) (k_3 : PySem.W.keepIn K (.ref a3) = true)
    (a_4 : PySem.W.nsIn K mainGlobals "_law_pen" = some (some (.ref a4))) (l_4 : K.lookup a4 = some ⟨oc4, od4, .func (PySem.W.fnOf "_law_pen" "_law_pen" (defArgs s__law_pen) (defBody s__law_pen) (defScope s__law_pen) .none kV4 dc4 pm4 an4 cd4 ct4), sl4⟩) (c_4 : PySem.W.codeIn K cd4 "_law_pen" = true) (k_4 : PySem.W.keepIn K (.ref a4) = true)
    (a_5 : PySem.W.nsIn K mainGlobals "_law_draw" = some (some (.ref a5))) (l_5 : K.lookup a5 = some ⟨oc5, od5, .func (PySem.W.fnOf "_law_draw" "_law_draw" (defArgs s__law_draw) (defBody s__law_draw) (defScope s__law_draw) .none kV5 dc5 pm5 an5 cd5 ct5), sl5⟩) (c_5 : PySem.W.codeIn K cd5 "_law_draw" = true) (k_5 : PySem.W.keepIn K (.ref a5) = true)
    (a_6 : PySem.W.nsIn K mainGlobals "_law_is_whole" = some (some (.ref a6))) (l_6 : K.lookup a6 = some ⟨oc6, od6, .func (PySem.W.fnOf "_law_is_whole" "_law_is_whole" (defArgs s__law_is_whole) (defBody s__law_is_whole) (defScope s__law_is_whole) .none kV6 dc6 pm6 an6 cd6 ct6), sl6⟩) (c_6 : PySem.W.codeIn K cd6 "_law_is_whole" = true) (k_6 : PySem.W.keepIn K (.ref a6) = true)
    (a_7 : PySem.W.nsIn K mainGlobals "_law_measure" = some (some (.ref a7))) (l_7 : K.lookup a7 = some ⟨oc7, od7, .func (PySem.W.fnOf "_law_measure" "_law_measure" (defArgs s__law_measure) (defBody s__law_measure) (defScope s__law_measure) .none kV7 dc7 pm7 an7 cd7 ct7), sl7⟩) (c_7 : PySem.W.codeIn K cd7 "_law_measure" = true) (k_7 : PySem.W.keepIn K (.ref a7) = true)
    (a_8 : PySem.W.nsIn K mainGlobals "_law_number" = some (some (.ref a8))) (l_8 : K.lookup a8 = some ⟨oc8, od8, .func (PySem.W.fnOf "_law_number" "_law_number" (defArgs s__law_number) (defBody s__law_number) (defScope s__law_number) .none kV8 dc8 pm8 an8 cd8 ct8), sl8⟩) (c_8 : PySem.W.codeIn K cd8 "_law_number" = true) (k_8 : PySem.W.keepIn K (.ref a8) = true)
    (a_9 : PySem.W.nsIn K mainGlobals "_law_reduced" = some (some (.ref a9))) (l_9 : K.lookup a9 = some ⟨oc9, od9, .func (PySem.W.fnOf "_law_reduced" "_law_reduced" (defArgs s__law_reduced) (defBody s__law_reduced) (defScope s__law_reduced) .none kV9 dc9 pm9 an9 cd9 ct9), sl9⟩) (c_9 : PySem.W.codeIn K cd9 "_law_reduced" = true) (k_9 : PySem.W.keepIn K (.ref a9) = true)
    (a_10 : PySem.W.nsIn K mainGlobals "_law_share" = some (some (.ref a10))) (l_10 : K.lookup a10 = some ⟨oc10, od10, .func (PySem.W.fnOf "_law_share" "_law_share" (defArgs s__law_share) (defBody s__law_share) (defScope s__law_share) .none kV10 dc10 pm10 an10 cd10 ct10), sl10⟩) (c_10 : PySem.W.codeIn K cd10 "_law_share" = true) (k_10 : PySem.W.keepIn K (.ref a10) = true)
    (a_11 : PySem.W.nsIn K mainGlobals "_law_heard" = some (some (.ref a11))) (l_11 : K.lookup a11 = some ⟨oc11, od11, .func (PySem.W.fnOf "_law_heard" "_law_heard" (defArgs s__law_heard) (defBody s__law_heard) (defScope s__law_heard) .none kV11 dc11 pm11 an11 cd11 ct11), sl11⟩) (c_11 : PySem.W.codeIn K cd11 "_law_heard" = true) (k_11 : PySem.W.keepIn K (.ref a11) = true)
    (a_12 : PySem.W.nsIn K mainGlobals "_law_is" = some (some (.ref a12))) (l_12 : K.lookup a12 = some ⟨oc12, od12, .func (PySem.W.fnOf "_law_is" "_law_is" (defArgs s__law_is) (defBody s__law_is) (defScope s__law_is) .none kV12 dc12 pm12 an12 cd12 ct12), sl12⟩) (c_12 : PySem.W.codeIn K cd12 "_law_is" = true) (k_12 : PySem.W.keepIn K (.ref a12) = true)
    (a_13 : PySem.W.nsIn K mainGlobals "_law_right" = some (some (.ref a13))) (l_13 : K.lookup a13 = some ⟨oc13, od13, .func (PySem.W.fnOf "_law_right" "_law_right" (defArgs s__law_right) (defBody s__law_right) (defScope s__law_right) .none kV13 dc13 pm13 an13 cd13 ct13), sl13⟩) (c_13 : PySem.W.codeIn K cd13 "_law_right" = true) (k_13 : PySem.W.keepIn K (.ref a13) = true)
    (a_14 : PySem.W.nsIn K mainGlobals "_law_great" = some (some (.ref a14))) (l_14 : K.lookup a14 = some ⟨oc14, od14, .func (PySem.W.fnOf "_law_great" "_law_great" (defArgs s__law_great) (defBody s__law_great) (defScope s__law_great) .none kV14 dc14 pm14 an14 cd14 ct14), sl14⟩) (c_14 : PySem.W.codeIn K cd14 "_law_great" = true) (k_14 : PySem.W.keepIn K (.ref a14) = true)
    (a_15 : PySem.W.nsIn K mainGlobals "law" = some (some (.ref a15))) (l_15 : K.lookup a15 = some ⟨oc15, od15, .func (PySem.W.fnOf "law" "law" (defArgs s_law) (defBody s_law) (defScope s_law) .none kV15 dc15 pm15 an15 cd15 ct15), sl15⟩) (c_15 : PySem.W.codeIn K cd15 "law" = true) (k_15 : PySem.W.keepIn K (.ref a15) = true)
    (z_abs : PySem.W.nsIn K mainGlobals "abs" = some none)
    (z_all : PySem.W.nsIn K mainGlobals "all" = some none)
    (z_bool : PySem.W.nsIn K mainGlobals "bool" = some none)
    (z_int : PySem.W.nsIn K mainGlobals "int" = some none)
    (z_isinstance : PySem.W.nsIn K mainGlobals "isinstance" = some none)
    (z_len : PySem.W.nsIn K mainGlobals "len" = some none)
    (z_list : PySem.W.nsIn K mainGlobals "list" = some none)
    (z_range : PySem.W.nsIn K mainGlobals "range" = some none)
    (z_tuple : PySem.W.nsIn K mainGlobals "tuple" = some none)
    (xa_NoShare : PySem.W.nsIn K mainGlobals "NoShare" = some (some (.ref xNoShare))) (xx_NoShare : PySem.W.excIn K xNoShare [.type "ValueError", .type "Exception", .type "BaseException", .type "object"] "ValueError.__new__" = true) (xk_NoShare : PySem.W.keepIn K (.ref xNoShare) = true) (xb_NoShare : PySem.W.subIn K (.ref xNoShare) (.type "BaseException") = some true) (xt_NoShare : PySem.W.typeIn K (.ref xNoShare) = some (.type "type"))
    (en : PySem.W.specialIn K (.builtin "object.__class__") "__get__" = some (some (.builtin "getset_descriptor.__get__")))
    (et : PySem.W.takesIn K (.builtin "object.__class__") = some true)
    (eg_NoShare : PySem.W.findIn K (.ref xNoShare) "__getattribute__" = some (some (.builtin "BaseException.__getattribute__")))
    (eh_NoShare : PySem.W.findIn K (.ref xNoShare) "__getattr__" = some none)
    (ed_NoShare : PySem.W.hasDictIn K xNoShare = true)
    (ea_NoShare : PySem.W.findIn K (.ref xNoShare) "__class__" = some (some (.builtin "object.__class__")))
    (em_NoShare : PySem.W.mroIn K xNoShare (.type "object") = some true)
    (na_BallError : PySem.W.nsIn K mainGlobals "BallError" = some (some (.ref d_BallError)))
    (na_Fuller : PySem.W.nsIn K mainGlobals "Fuller" = some (some (.ref d_Fuller)))
    (na_NoBack : PySem.W.nsIn K mainGlobals "NoBack" = some (some (.ref d_NoBack)))
    (na_NoBall : PySem.W.nsIn K mainGlobals "NoBall" = some (some (.ref d_NoBall)))
    (na_NoName : PySem.W.nsIn K mainGlobals "NoName" = some (some (.ref d_NoName)))
    (na_NoRow : PySem.W.nsIn K mainGlobals "NoRow" = some (some (.ref d_NoRow)))
    (na_NoShare : PySem.W.nsIn K mainGlobals "NoShare" = some (some (.ref d_NoShare)))
    (na_NoText : PySem.W.nsIn K mainGlobals "NoText" = some (some (.ref d_NoText)))
    (na_TooMany : PySem.W.nsIn K mainGlobals "TooMany" = some (some (.ref d_TooMany)))
    (na_Unlike : PySem.W.nsIn K mainGlobals "Unlike" = some (some (.ref d_Unlike)))
    (ki_NoShare_Fuller : PySem.W.kitOne K (.ref xNoShare) (.ref d_Fuller) = some false)
    (ki_NoShare_NoBack : PySem.W.kitOne K (.ref xNoShare) (.ref d_NoBack) = some false)
    (ki_NoShare_NoBall : PySem.W.kitOne K (.ref xNoShare) (.ref d_NoBall) = some false)
    (ki_NoShare_NoName : PySem.W.kitOne K (.ref xNoShare) (.ref d_NoName) = some false)
    (ki_NoShare_NoRow : PySem.W.kitOne K (.ref xNoShare) (.ref d_NoRow) = some false)
    (ki_NoShare_NoShare : PySem.W.kitOne K (.ref xNoShare) (.ref d_NoShare) = some true)
    (ki_NoShare_NoText : PySem.W.kitOne K (.ref xNoShare) (.ref d_NoText) = some false)
    (ki_NoShare_TooMany : PySem.W.kitOne K (.ref xNoShare) (.ref d_TooMany) = some false)
    (ki_NoShare_Unlike : PySem.W.kitOne K (.ref xNoShare) (.ref d_Unlike) = some false)
    (z_ValueError : PySem.W.nsIn K mainGlobals "ValueError" = some none)
    (ki_NoShare_ValueError : PySem.W.kitOne K (.ref xNoShare) (.type "ValueError") = some true)
    (kx_NoShare_BallError : PySem.W.exmOne K (.ref xNoShare) (.ref d_BallError) = some true)
    (kc_13 : cd13 = .ref k13)
    (kl_13 : K.lookup k13 = some ⟨ko13, kd13, .fields kv13, ks13⟩)
    (kp_13 : kv13[11]? = some (.ref P13))
    (kh_13 : PySem.W.codeHdIn K k13 P13 = true)
    (kn_13 : K.lookup P13 = none)
    (km_13 : P13 ∈ ts)
    : ∃ (fd : FuncData) (cs : List (Addr × Addr)) (T : List (Addr × Str)), (∀ p ∈ cs, h.get? p.2 = some { cls := .none, data := .fields #[] }) ∧ (∀ p ∈ cs, K.lookup p.2 = none) ∧ (∀ p ∈ cs, PySem.W.CodeHd h p.1 p.2) ∧ (∀ t ∈ T, ∃ p ∈ cs, p.2 = t.1) ∧ (∀ (s : Shared) (u : Value), BindsTo s fd ⟨[u], []⟩ [("_law_script", u)]) ∧ ∀ base : Heap, K.In base → base.Ns mainGlobals mg → (∀ p ∈ cs, LamX.TabB base mg p.1 p.2) → FnG l.prog w K mg base 7 fa fd ["_law_script"] (spLaw K f_law T) := by
  have e := hfa.symm.trans (PySem.W.mg_of X G a_15)
  have T : Txt K mg (ecOf mg [(P13, (("_law_right" : Str) ++ ".<locals>." ++ "<lambda>"))] ["NoShare"]) := ⟨PySem.W.mg_none_of X G z_abs, PySem.W.mg_none_of X G z_all, PySem.W.mg_none_of X G z_bool, PySem.W.mg_none_of X G z_int, PySem.W.mg_none_of X G z_isinstance, PySem.W.mg_none_of X G z_len, PySem.W.mg_none_of X G z_list, PySem.W.mg_none_of X G z_range, PySem.W.mg_none_of X G z_tuple, ⟨exc_g (PySem.W.mg_of X G xa_NoShare), exc_e (P := fun a => PySem.W.excIn K a [.type "ValueError", .type "Exception", .type "BaseException", .type "object"] "ValueError.__new__" = true) (PySem.W.mg_of X G xa_NoShare) xx_NoShare, exc_e (P := fun a => PySem.W.keepIn K (.ref a) = true) (PySem.W.mg_of X G xa_NoShare) xk_NoShare, exc_e (P := fun a => PySem.W.subIn K (.ref a) (.type "BaseException") = some true) (PySem.W.mg_of X G xa_NoShare) xb_NoShare, exc_e (P := fun a => PySem.W.typeIn K (.ref a) = some (.type "type")) (PySem.W.mg_of X G xa_NoShare) xt_NoShare⟩, rfl, (show ∀ m, m ∈ ["NoShare"] → ExcC K ((ecOf mg [(P13, (("_law_right" : Str) ++ ".<locals>." ++ "<lambda>"))] ["NoShare"]).f m) from List.forall_mem_cons.mpr ⟨⟨exc_e (P := fun a => PySem.W.findIn K (.ref a) "__getattribute__" = some (some (.builtin "BaseException.__getattribute__"))) (PySem.W.mg_of X G xa_NoShare) eg_NoShare, exc_e (P := fun a => PySem.W.findIn K (.ref a) "__getattr__" = some none) (PySem.W.mg_of X G xa_NoShare) eh_NoShare, exc_e (P := fun a => PySem.W.subIn K (.ref a) (.type "BaseException") = some true) (PySem.W.mg_of X G xa_NoShare) xb_NoShare, exc_e (P := fun a => PySem.W.hasDictIn K a = true) (PySem.W.mg_of X G xa_NoShare) ed_NoShare, exc_e (P := fun a => PySem.W.findIn K (.ref a) "__class__" = some (some (.builtin "object.__class__"))) (PySem.W.mg_of X G xa_NoShare) ea_NoShare, en, et, exc_e (P := fun a => PySem.W.mroIn K a (.type "object") = some true) (PySem.W.mg_of X G xa_NoShare) em_NoShare⟩, fun _ h => nomatch h⟩), isF_own (PySem.W.mg_of X G na_Fuller) (show ∀ m, m ∈ ["NoShare"] → PySem.W.kitOne K (.ref ((ecOf mg [(P13, (("_law_right" : Str) ++ ".<locals>." ++ "<lambda>"))] ["NoShare"]).f m)) (.ref d_Fuller) = some (isSub m "Fuller") from List.forall_mem_cons.mpr ⟨exc_e (P := fun a => PySem.W.kitOne K (.ref a) (.ref d_Fuller) = some (isSub "NoShare" "Fuller")) (PySem.W.mg_of X G xa_NoShare) ki_NoShare_Fuller, fun _ h => nomatch h⟩), isF_own (PySem.W.mg_of X G na_NoBack) (show ∀ m, m ∈ ["NoShare"] → PySem.W.kitOne K (.ref ((ecOf mg [(P13, (("_law_right" : Str) ++ ".<locals>." ++ "<lambda>"))] ["NoShare"]).f m)) (.ref d_NoBack) = some (isSub m "NoBack") from List.forall_mem_cons.mpr ⟨exc_e (P := fun a => PySem.W.kitOne K (.ref a) (.ref d_NoBack) = some (isSub "NoShare" "NoBack")) (PySem.W.mg_of X G xa_NoShare) ki_NoShare_NoBack, fun _ h => nomatch h⟩), isF_own (PySem.W.mg_of X G na_NoBall) (show ∀ m, m ∈ ["NoShare"] → PySem.W.kitOne K (.ref ((ecOf mg [(P13, (("_law_right" : Str) ++ ".<locals>." ++ "<lambda>"))] ["NoShare"]).f m)) (.ref d_NoBall) = some (isSub m "NoBall") from List.forall_mem_cons.mpr ⟨exc_e (P := fun a => PySem.W.kitOne K (.ref a) (.ref d_NoBall) = some (isSub "NoShare" "NoBall")) (PySem.W.mg_of X G xa_NoShare) ki_NoShare_NoBall, fun _ h => nomatch h⟩), isF_own (PySem.W.mg_of X G na_NoName) (show ∀ m, m ∈ ["NoShare"] → PySem.W.kitOne K (.ref ((ecOf mg [(P13, (("_law_right" : Str) ++ ".<locals>." ++ "<lambda>"))] ["NoShare"]).f m)) (.ref d_NoName) = some (isSub m "NoName") from List.forall_mem_cons.mpr ⟨exc_e (P := fun a => PySem.W.kitOne K (.ref a) (.ref d_NoName) = some (isSub "NoShare" "NoName")) (PySem.W.mg_of X G xa_NoShare) ki_NoShare_NoName, fun _ h => nomatch h⟩), isF_own (PySem.W.mg_of X G na_NoRow) (show ∀ m, m ∈ ["NoShare"] → PySem.W.kitOne K (.ref ((ecOf mg [(P13, (("_law_right" : Str) ++ ".<locals>." ++ "<lambda>"))] ["NoShare"]).f m)) (.ref d_NoRow) = some (isSub m "NoRow") from List.forall_mem_cons.mpr ⟨exc_e (P := fun a => PySem.W.kitOne K (.ref a) (.ref d_NoRow) = some (isSub "NoShare" "NoRow")) (PySem.W.mg_of X G xa_NoShare) ki_NoShare_NoRow, fun _ h => nomatch h⟩), isF_own (PySem.W.mg_of X G na_NoShare) (show ∀ m, m ∈ ["NoShare"] → PySem.W.kitOne K (.ref ((ecOf mg [(P13, (("_law_right" : Str) ++ ".<locals>." ++ "<lambda>"))] ["NoShare"]).f m)) (.ref d_NoShare) = some (isSub m "NoShare") from List.forall_mem_cons.mpr ⟨exc_e (P := fun a => PySem.W.kitOne K (.ref a) (.ref d_NoShare) = some (isSub "NoShare" "NoShare")) (PySem.W.mg_of X G xa_NoShare) ki_NoShare_NoShare, fun _ h => nomatch h⟩), isF_own (PySem.W.mg_of X G na_NoText) (show ∀ m, m ∈ ["NoShare"] → PySem.W.kitOne K (.ref ((ecOf mg [(P13, (("_law_right" : Str) ++ ".<locals>." ++ "<lambda>"))] ["NoShare"]).f m)) (.ref d_NoText) = some (isSub m "NoText") from List.forall_mem_cons.mpr ⟨exc_e (P := fun a => PySem.W.kitOne K (.ref a) (.ref d_NoText) = some (isSub "NoShare" "NoText")) (PySem.W.mg_of X G xa_NoShare) ki_NoShare_NoText, fun _ h => nomatch h⟩), isF_own (PySem.W.mg_of X G na_TooMany) (show ∀ m, m ∈ ["NoShare"] → PySem.W.kitOne K (.ref ((ecOf mg [(P13, (("_law_right" : Str) ++ ".<locals>." ++ "<lambda>"))] ["NoShare"]).f m)) (.ref d_TooMany) = some (isSub m "TooMany") from List.forall_mem_cons.mpr ⟨exc_e (P := fun a => PySem.W.kitOne K (.ref a) (.ref d_TooMany) = some (isSub "NoShare" "TooMany")) (PySem.W.mg_of X G xa_NoShare) ki_NoShare_TooMany, fun _ h => nomatch h⟩), isF_own (PySem.W.mg_of X G na_Unlike) (show ∀ m, m ∈ ["NoShare"] → PySem.W.kitOne K (.ref ((ecOf mg [(P13, (("_law_right" : Str) ++ ".<locals>." ++ "<lambda>"))] ["NoShare"]).f m)) (.ref d_Unlike) = some (isSub m "Unlike") from List.forall_mem_cons.mpr ⟨exc_e (P := fun a => PySem.W.kitOne K (.ref a) (.ref d_Unlike) = some (isSub "NoShare" "Unlike")) (PySem.W.mg_of X G xa_NoShare) ki_NoShare_Unlike, fun _ h => nomatch h⟩), isF_ty (PySem.W.mg_none_of X G z_ValueError) rfl (by decide) (show ∀ m, m ∈ ["NoShare"] → PySem.W.kitOne K (.ref ((ecOf mg [(P13, (("_law_right" : Str) ++ ".<locals>." ++ "<lambda>"))] ["NoShare"]).f m)) (.type "ValueError") = some (isSub m "ValueError") from List.forall_mem_cons.mpr ⟨exc_e (P := fun a => PySem.W.kitOne K (.ref a) (.type "ValueError") = some (isSub "NoShare" "ValueError")) (PySem.W.mg_of X G xa_NoShare) ki_NoShare_ValueError, fun _ h => nomatch h⟩), ⟨_, .inl (PySem.W.mg_of X G na_BallError), (show ∀ m, m ∈ ["NoShare"] → m ∈ (ecOf mg [(P13, (("_law_right" : Str) ++ ".<locals>." ++ "<lambda>"))] ["NoShare"]).X ∧ PySem.W.exmOne K (.ref ((ecOf mg [(P13, (("_law_right" : Str) ++ ".<locals>." ++ "<lambda>"))] ["NoShare"]).f m)) (.ref d_BallError) = some true from List.forall_mem_cons.mpr ⟨⟨(show "NoShare" ∈ ["NoShare"] from by decide), exc_e (P := fun a => PySem.W.exmOne K (.ref a) (.ref d_BallError) = some true) (PySem.W.mg_of X G xa_NoShare) kx_NoShare_BallError⟩, fun _ h => nomatch h⟩)⟩⟩
  have D0 : DefF K mg "measure" s_measure ["a", "b"] := defF_mk (st := s_measure) (PySem.W.mg_of X G a_0) l_0 c_0 k_0 fun _ _ _ _ _ _ us hl => match us, hl with | [_, _], _ => rfl
  have D1 : DefF K mg "share" s_share ["top", "bottom"] := defF_mk (st := s_share) (PySem.W.mg_of X G a_1) l_1 c_1 k_1 fun _ _ _ _ _ _ us hl => match us, hl with | [_, _], _ => rfl
  have D2 : DefF K mg "times" s_times ["a", "b"] := defF_mk (st := s_times) (PySem.W.mg_of X G a_2) l_2 c_2 k_2 fun _ _ _ _ _ _ us hl => match us, hl with | [_, _], _ => rfl
  have D3 : DefF K mg "over" s_over ["a", "b"] := defF_mk (st := s_over) (PySem.W.mg_of X G a_3) l_3 c_3 k_3 fun _ _ _ _ _ _ us hl => match us, hl with | [_, _], _ => rfl
  have D4 : DefF K mg "_law_pen" s__law_pen ["_law_script"] := defF_mk (st := s__law_pen) (PySem.W.mg_of X G a_4) l_4 c_4 k_4 fun _ _ _ _ _ _ us hl => match us, hl with | [_], _ => rfl
  have D5 : DefF K mg "_law_draw" s__law_draw ["_law_pen_here", "_law_many"] := defF_mk (st := s__law_draw) (PySem.W.mg_of X G a_5) l_5 c_5 k_5 fun _ _ _ _ _ _ us hl => match us, hl with | [_, _], _ => rfl
  have D6 : DefF K mg "_law_is_whole" s__law_is_whole ["_law_thing"] := defF_mk (st := s__law_is_whole) (PySem.W.mg_of X G a_6) l_6 c_6 k_6 fun _ _ _ _ _ _ us hl => match us, hl with | [_], _ => rfl
  have D7 : DefF K mg "_law_measure" s__law_measure ["_law_a", "_law_b"] := defF_mk (st := s__law_measure) (PySem.W.mg_of X G a_7) l_7 c_7 k_7 fun _ _ _ _ _ _ us hl => match us, hl with | [_, _], _ => rfl
  have D8 : DefF K mg "_law_number" s__law_number ["_law_pen_here"] := defF_mk (st := s__law_number) (PySem.W.mg_of X G a_8) l_8 c_8 k_8 fun _ _ _ _ _ _ us hl => match us, hl with | [_], _ => rfl
  have D9 : DefF K mg "_law_reduced" s__law_reduced ["_law_top", "_law_bottom"] := defF_mk (st := s__law_reduced) (PySem.W.mg_of X G a_9) l_9 c_9 k_9 fun _ _ _ _ _ _ us hl => match us, hl with | [_, _], _ => rfl
  have D10 : DefF K mg "_law_share" s__law_share ["_law_pen_here"] := defF_mk (st := s__law_share) (PySem.W.mg_of X G a_10) l_10 c_10 k_10 fun _ _ _ _ _ _ us hl => match us, hl with | [_], _ => rfl
  have D11 : DefF K mg "_law_heard" s__law_heard ["_law_asked"] := defF_mk (st := s__law_heard) (PySem.W.mg_of X G a_11) l_11 c_11 k_11 fun _ _ _ _ _ _ us hl => match us, hl with | [_], _ => rfl
  have D12 : DefF K mg "_law_is" s__law_is ["_law_found", "_law_top", "_law_bottom"] := defF_mk (st := s__law_is) (PySem.W.mg_of X G a_12) l_12 c_12 k_12 fun _ _ _ _ _ _ us hl => match us, hl with | [_, _, _], _ => rfl
  have D13 : DefF K mg "_law_right" s__law_right ["_law_a", "_law_b"] := defF_mk (st := s__law_right) (PySem.W.mg_of X G a_13) l_13 c_13 k_13 fun _ _ _ _ _ _ us hl => match us, hl with | [_, _], _ => rfl
  have D14 : DefF K mg "_law_great" s__law_great ["_law_pen_here"] := defF_mk (st := s__law_great) (PySem.W.mg_of X G a_14) l_14 c_14 k_14 fun _ _ _ _ _ _ us hl => match us, hl with | [_], _ => rfl
  have D15 : DefF K mg "law" s_law ["_law_script"] := defF_mk (st := s_law) (PySem.W.mg_of X G a_15) l_15 c_15 k_15 fun _ _ _ _ _ _ us hl => match us, hl with | [_], _ => rfl
  refine Exists.elim (spLaw_ofB (P := l.prog) (wo := w) (ec := (ecOf mg [(P13, (("_law_right" : Str) ++ ".<locals>." ++ "<lambda>"))] ["NoShare"])) (k := 7) (f := f_law) (B := fun base => ∀ p ∈ [(k13, P13)], LamX.TabB base mg p.1 p.2) rfl D15 hfa fun base _ _ TB => ?_) fun fd hh => ⟨fd, [(k13, P13)], [(P13, (("_law_right" : Str) ++ ".<locals>." ++ "<lambda>"))], (List.forall_mem_cons.mpr ⟨hts _ km_13, fun _ h => nomatch h⟩), (List.forall_mem_cons.mpr ⟨kn_13, fun _ h => nomatch h⟩), (List.forall_mem_cons.mpr ⟨PySem.W.codeHd_of_K X kh_13, fun _ h => nomatch h⟩), (List.forall_mem_cons.mpr ⟨⟨(k13, P13), by simp, rfl⟩, fun _ h => nomatch h⟩), hh.1, fun base h1 h2 h3 => hh.2 base h1 h2 h3⟩
  have LF13 : LamF K mg base (ecOf mg [(P13, (("_law_right" : Str) ++ ".<locals>." ++ "<lambda>"))] ["NoShare"]) "_law_right" (("_law_right" : Str) ++ ".<locals>." ++ "<lambda>") := ⟨k13, P13, TB (k13, P13) (by simp), by simp [ecOf], by simp [ecOf], codeOf (PySem.W.mg_of X G a_13) l_13 kc_13⟩
  have C0 := ok_measure (P := l.prog) (wo := w) (base := base) T D0 
  have C1 := ok_share (P := l.prog) (wo := w) (base := base) T D1 C0
  have C2 := ok_times (P := l.prog) (wo := w) (base := base) T D2 C1
  have C3 := ok_over (P := l.prog) (wo := w) (base := base) T D3 C1
  have C4 := ok__law_pen (P := l.prog) (wo := w) (base := base) T D4 
  have C5 := ok__law_draw (P := l.prog) (wo := w) (base := base) T D5 
  have C6 := ok__law_is_whole (P := l.prog) (wo := w) (base := base) T D6 
  have C7 := ok__law_measure (P := l.prog) (wo := w) (base := base) T D7 
  have C8 := ok__law_number (P := l.prog) (wo := w) (base := base) T D8 C5
  have C9 := ok__law_reduced (P := l.prog) (wo := w) (base := base) T D9 C7
  have C10 := ok__law_share (P := l.prog) (wo := w) (base := base) T D10 C5 C8 C9
  have C11 := fun k => ok__law_heard (P := l.prog) (wo := w) (base := base) T k
  have C12 := ok__law_is (P := l.prog) (wo := w) (base := base) T D12 C6 C7
  have C13 := ok__law_right (P := l.prog) (wo := w) (base := base) T D13 LF13 D11 C11 C2 C3 C12
  have C14 := ok__law_great (P := l.prog) (wo := w) (base := base) T D14 C2 C5 C9
  have C15 := ok_law (P := l.prog) (wo := w) (base := base) T D15 C2 C3 C4 C5 C10 C13 C14
  exact C15
end Vm

open PySem PySem.W PyProof.Rows
set_option maxRecDepth 100000 in
set_option maxHeartbeats 0 in
theorem PySem.Challenge.cw_emptierbox_k04_products_and_what_is_over_holds : PySem.Challenge.rw_emptierbox_k04_products_and_what_is_over.Holds := by
  w_on; o_law; k_head; (case hw => w_witness2)
  k_fill
  refine Vm.walkGT (l := PySem.Challenge.rw_emptierbox_k04_products_and_what_is_over) (n := 63) (k := 7) (f := Vm.f_law) rfl (by decide) rfl ⟨rfl, by decide, by decide⟩ (fun w h Y => PySem.W.km_in_of Y) ?F (fun ns hl => Vm.law_true ns hl)
  case F =>
    intro w mg fa h Y KX G hmg
    refine' Vm.all_mk KX G hmg (PySem.W.km_tabs_of Y) ?a_0 ?l_0 ?c_0 ?k_0 ?a_1 ?l_1 ?c_1 ?k_1 ?a_2 ?l_2 ?c_2 ?k_2 ?a_3 ?l_3 ?c_3 ?k_3 ?a_4 ?l_4 ?c_4 ?k_4 ?a_5 ?l_5 ?c_5 ?k_5 ?a_6 ?l_6 ?c_6 ?k_6 ?a_7 ?l_7 ?c_7 ?k_7 ?a_8 ?l_8 ?c_8 ?k_8 ?a_9 ?l_9 ?c_9 ?k_9 ?a_10 ?l_10 ?c_10 ?k_10 ?a_11 ?l_11 ?c_11 ?k_11 ?a_12 ?l_12 ?c_12 ?k_12 ?a_13 ?l_13 ?c_13 ?k_13 ?a_14 ?l_14 ?c_14 ?k_14 ?a_15 ?l_15 ?c_15 ?k_15 ?z_abs ?z_all ?z_bool ?z_int ?z_isinstance ?z_len ?z_list ?z_range ?z_tuple ?xa_NoShare ?xx_NoShare ?xk_NoShare ?xb_NoShare ?xt_NoShare ?en ?et ?eg_NoShare ?eh_NoShare ?ed_NoShare ?ea_NoShare ?em_NoShare ?na_BallError ?na_Fuller ?na_NoBack ?na_NoBall ?na_NoName ?na_NoRow ?na_NoShare ?na_NoText ?na_TooMany ?na_Unlike ?ki_NoShare_Fuller ?ki_NoShare_NoBack ?ki_NoShare_NoBall ?ki_NoShare_NoName ?ki_NoShare_NoRow ?ki_NoShare_NoShare ?ki_NoShare_NoText ?ki_NoShare_TooMany ?ki_NoShare_Unlike ?z_ValueError ?ki_NoShare_ValueError ?kx_NoShare_BallError ?kc_13 ?kl_13 ?kp_13 ?kh_13 ?kn_13 ?km_13
    (case a_0 => k_is)
    (case l_0 => k_is)
    (case c_0 => k_is)
    (case k_0 => k_is)
    (case a_1 => k_is)
    (case l_1 => k_is)
    (case c_1 => k_is)
    (case k_1 => k_is)
    (case a_2 => k_is)
    (case l_2 => k_is)
    (case c_2 => k_is)
    (case k_2 => k_is)
    (case a_3 => k_is)
    (case l_3 => k_is)
    (case c_3 => k_is)
    (case k_3 => k_is)
    (case a_4 => k_is)
    (case l_4 => k_is)
    (case c_4 => k_is)
    (case k_4 => k_is)
    (case a_5 => k_is)
    (case l_5 => k_is)
    (case c_5 => k_is)
    (case k_5 => k_is)
    (case a_6 => k_is)
    (case l_6 => k_is)
    (case c_6 => k_is)
    (case k_6 => k_is)
    (case a_7 => k_is)
    (case l_7 => k_is)
    (case c_7 => k_is)
    (case k_7 => k_is)
    (case a_8 => k_is)
    (case l_8 => k_is)
    (case c_8 => k_is)
    (case k_8 => k_is)
    (case a_9 => k_is)
    (case l_9 => k_is)
    (case c_9 => k_is)
    (case k_9 => k_is)
    (case a_10 => k_is)
    (case l_10 => k_is)
    (case c_10 => k_is)
    (case k_10 => k_is)
    (case a_11 => k_is)
    (case l_11 => k_is)
    (case c_11 => k_is)
    (case k_11 => k_is)
    (case a_12 => k_is)
    (case l_12 => k_is)
    (case c_12 => k_is)
    (case k_12 => k_is)
    (case a_13 => k_is)
    (case l_13 => k_is)
    (case c_13 => k_is)
    (case k_13 => k_is)
    (case a_14 => k_is)
    (case l_14 => k_is)
    (case c_14 => k_is)
    (case k_14 => k_is)
    (case a_15 => k_is)
    (case l_15 => k_is)
    (case c_15 => k_is)
    (case k_15 => k_is)
    (case z_abs => k_is)
    (case z_all => k_is)
    (case z_bool => k_is)
    (case z_int => k_is)
    (case z_isinstance => k_is)
    (case z_len => k_is)
    (case z_list => k_is)
    (case z_range => k_is)
    (case z_tuple => k_is)
    (case xa_NoShare => k_is)
    (case xx_NoShare => k_exc)
    (case xk_NoShare => k_is)
    (case xb_NoShare => k_is)
    (case xt_NoShare => k_is)
    (case en => k_is)
    (case et => k_is)
    (case eg_NoShare => k_is)
    (case eh_NoShare => k_is)
    (case ed_NoShare => k_is)
    (case ea_NoShare => k_is)
    (case em_NoShare => k_is)
    (case na_BallError => k_is)
    (case na_Fuller => k_is)
    (case na_NoBack => k_is)
    (case na_NoBall => k_is)
    (case na_NoName => k_is)
    (case na_NoRow => k_is)
    (case na_NoShare => k_is)
    (case na_NoText => k_is)
    (case na_TooMany => k_is)
    (case na_Unlike => k_is)
    (case ki_NoShare_Fuller => kernel_rfl)
    (case ki_NoShare_NoBack => kernel_rfl)
    (case ki_NoShare_NoBall => kernel_rfl)
    (case ki_NoShare_NoName => kernel_rfl)
    (case ki_NoShare_NoRow => kernel_rfl)
    (case ki_NoShare_NoShare => kernel_rfl)
    (case ki_NoShare_NoText => kernel_rfl)
    (case ki_NoShare_TooMany => kernel_rfl)
    (case ki_NoShare_Unlike => kernel_rfl)
    (case z_ValueError => k_is)
    (case ki_NoShare_ValueError => kernel_rfl)
    (case kx_NoShare_BallError => kernel_rfl)
    (case kc_13 => rfl)
    (case kl_13 => k_is)
    (case kp_13 => rfl)
    (case kh_13 => kernel_rfl)
    (case kn_13 => kernel_rfl)
    (case km_13 => decide)

