import PyProof.Rows.All
import Wide.All
import OpenK.AllK
import Wide.FinOn
import HandS.ForMost
import HandS.ForExc
import HandS.Lambda
import HandS.IsInst
import HandS.Wide
import HandS.TupAny
import HandS.TupLe
import HandS.Flow
import KE.DataCmp
import KE.DataEq
import HandS.Zip
import HandS.Style
import HandS.SortInts
import KE.KTupSum
import PyProof.Rows.SeqMore
import HandS.TupMul
import PyProof.ReprReads
import PyProof.ReprRoads
import KE.SortData
import HandS.SetFor
import HandS.RaiseMore
import HandS.SortKw
import KE.DataMinMax
import KE.DataFind
import HandS.FStrTup
import KE.GoesMore
import PyProof.ReprLen
import KE.KRevSl
import HandS.ExcIs
import HandS.TryOnly
import HandS.Codes
import HandS.EndTab
import KE.KNestM
import KE.KLam
import HandS.WideBits
import KE.KDictSum
import HandS.DictTup
import HandS.Conv
import HandS.SetKeys
import KE.KDictCopyH
import HandS.TupLen
import KE.KDictPairs
import KE.KDictKeyed
import KE.KDictDisplayH
import PyProof.DictTable
import HandS.Comp
import HandS.SortOrd
import PyProof.Rows.SetFrom
import PySem.Challenge.RW_emptierbox_k26_pairings_known
set_option Elab.async false
set_option linter.all false
set_option maxRecDepth 100000
set_option maxHeartbeats 4000000
/-! A small machine by values: what Python's text does with data, as total functions; each construct's rule over the hand layer. -/
namespace Vm
open PySem L2
abbrev D := PyData
abbrev Fg := PySem.W.Frag
/-- a dict's key as data -/
def kD : L2.Key → D
  | .inl i => .int i
  | .inr x => .str x
/-- a tuple of keys as data -/
def tupK (ks : List L2.Key) : D := .tuple (ks.map kD)
/-- ahead of the entries of a dict whose keys are tuples -/
def tagT : D × D := (.list [], .none)
def isTag : List (D × D) → Bool
  | (.list _, _) :: _ => true
  | _ => false
/-! ### a value stands for data -/
mutual
inductive Rp (K : Fg) (H : Hp) : V → PyData → Prop
  | non : Rp K H .non .none
  | bl (b : Bool) : Rp K H (.bl b) (.bool b)
  | int (i : Int) : Rp K H (.int i) (.int i)
  | str (x : Str) : Rp K H (.str x) (.str x)
  | lst {a : Addr} {xs : List V} {ds : List PyData} : SqL K H a xs → RpAll K H xs ds → Rp K H (.ref a) (.list ds)
  | tup {a : Addr} {xs : List V} {ds : List PyData} : H a = some (.tup xs) → RpAll K H xs ds → Rp K H (.ref a) (.tuple ds)
  | dct {a : Addr} {ws : List (L2.Key × V)} {es : List (PyData × PyData)} : H a = some (.dK ws) → RpKv K H ws es → Rp K H (.ref a) (.dict es)
  | dctT {a : Addr} {od : Obj} {ws : List (List L2.Key × V)} {es : List (PyData × PyData)} : H a = some (.frz od (.dT ws)) → RpKt K H ws es → Rp K H (.ref a) (.dict (tagT :: es))
inductive RpAll (K : Fg) (H : Hp) : List V → List PyData → Prop
  | nil : RpAll K H [] []
  | cons {v : V} {vs : List V} {d : PyData} {ds : List PyData} : Rp K H v d → RpAll K H vs ds → RpAll K H (v :: vs) (d :: ds)
inductive RpKv (K : Fg) (H : Hp) : List (L2.Key × V) → List (PyData × PyData) → Prop
  | nil : RpKv K H [] []
  | cons {k : L2.Key} {v : V} {ws : List (L2.Key × V)} {d : PyData} {es : List (PyData × PyData)} : Rp K H v d → RpKv K H ws es → RpKv K H ((k, v) :: ws) ((kD k, d) :: es)
inductive RpKt (K : Fg) (H : Hp) : List (List L2.Key × V) → List (PyData × PyData) → Prop
  | nil : RpKt K H [] []
  | cons {k : List L2.Key} {v : V} {ws : List (List L2.Key × V)} {d : PyData} {es : List (PyData × PyData)} : Rp K H v d → RpKt K H ws es → RpKt K H ((k, v) :: ws) ((tupK k, d) :: es)
end
section
variable {K : Fg} {G H : Hp}
mutual
theorem Rp.mono (e : Same G H) : ∀ (d : PyData) (v : V), Rp K G v d → Rp K H v d
  | .none, _, h => by cases h; exact .non
  | .bool _, _, h => by cases h; exact .bl _
  | .int _, _, h => by cases h; exact .int _
  | .str _, _, h => by cases h; exact .str _
  | .list ds, _, h => by
    cases h with
    | lst hs ha => exact .lst (e.seq hs) (RpAll.mono e ds _ ha)
  | .tuple ds, _, h => by
    cases h with
    | tup hs ha => exact .tup (e _ _ hs) (RpAll.mono e ds _ ha)
  | .dict es, _, h => by
    cases h with
    | dct hs ha => exact .dct (e _ _ hs) (RpKv.mono e es _ ha)
    | dctT hs ha => exact .dctT (e _ _ hs) (RpKt.mono e _ _ ha)
theorem RpAll.mono (e : Same G H) : ∀ (ds : List PyData) (vs : List V), RpAll K G vs ds → RpAll K H vs ds
  | [], _, h => by cases h; exact .nil
  | d :: ds, _, h => by
    cases h with
    | cons h1 h2 => exact .cons (Rp.mono e d _ h1) (RpAll.mono e ds _ h2)
theorem RpKv.mono (e : Same G H) : ∀ (es : List (PyData × PyData)) (ws : List (L2.Key × V)), RpKv K G ws es → RpKv K H ws es
  | [], _, h => by cases h; exact .nil
  | (_, d) :: es, _, h => by
    cases h with
    | cons h1 h2 => exact .cons (Rp.mono e d _ h1) (RpKv.mono e es _ h2)
theorem RpKt.mono (e : Same G H) : ∀ (es : List (PyData × PyData)) (ws : List (List L2.Key × V)), RpKt K G ws es → RpKt K H ws es
  | [], _, h => by cases h; exact .nil
  | (_, d) :: es, _, h => by
    cases h with
    | cons h1 h2 => exact .cons (Rp.mono e d _ h1) (RpKt.mono e es _ h2)
end
theorem RpAll.length : ∀ {vs : List V} {ds : List PyData}, RpAll K H vs ds → vs.length = ds.length
  | _, _, .nil => rfl
  | _, _, .cons _ t => congrArg (· + 1) t.length
theorem RpAll.get : ∀ {vs : List V} {ds : List PyData} {i : Nat} {d : PyData}, RpAll K H vs ds → ds[i]? = some d → ∃ v, vs[i]? = some v ∧ Rp K H v d
  | _, _, _, _, .nil, e => by simp at e
  | _, _, 0, _, .cons r _, e => by
    simp at e
    subst e
    exact ⟨_, rfl, r⟩
  | _, _, i + 1, d, .cons _ t, e => by
    obtain ⟨v, h1, h2⟩ := RpAll.get (i := i) (d := d) t (by simpa using e)
    exact ⟨v, by simpa using h1, h2⟩
theorem RpAll.append : ∀ {vs ws : List V} {ds es : List PyData}, RpAll K H vs ds → RpAll K H ws es → RpAll K H (vs ++ ws) (ds ++ es)
  | _, _, _, _, .nil, s => s
  | _, _, _, _, .cons r t, s => .cons r (t.append s)
theorem RpAll.set {v : V} {d : PyData} (r : Rp K H v d) : ∀ {vs : List V} {ds : List PyData} (i : Nat), RpAll K H vs ds → RpAll K H (vs.set i v) (ds.set i d)
  | _, _, _, .nil => .nil
  | _, _, 0, .cons _ t => .cons r t
  | _, _, i + 1, .cons q t => .cons q (RpAll.set r i t)
theorem RpAll.take : ∀ {vs : List V} {ds : List PyData} (n : Nat), RpAll K H vs ds → RpAll K H (vs.take n) (ds.take n)
  | _, _, 0, _ => .nil
  | _, _, _ + 1, .nil => .nil
  | _, _, n + 1, .cons r t => .cons r (t.take n)
theorem RpAll.drop : ∀ {vs : List V} {ds : List PyData} (n : Nat), RpAll K H vs ds → RpAll K H (vs.drop n) (ds.drop n)
  | _, _, 0, r => r
  | _, _, _ + 1, .nil => .nil
  | _, _, n + 1, .cons _ t => t.drop n
theorem RpAll.reverse : ∀ {vs : List V} {ds : List PyData}, RpAll K H vs ds → RpAll K H vs.reverse ds.reverse
  | _, _, .nil => .nil
  | _, _, .cons r t => by
    rw [List.reverse_cons, List.reverse_cons]
    exact t.reverse.append (.cons r .nil)
end
/-! ### cells, slots, states -/
/-- what a mutable object holds; gone: it became data -/
inductive Cell where
  | l (ds : List D)
  | k (kvs : List (L2.Key × D))
  | t (kvs : List (List L2.Key × D))
  | r (ks : List (List L2.Key))
  | i (n j : Nat) (ds : List D)
  | gone
/-- an element of a list or a tuple that holds cells too -/
inductive El where
  | d (x : D)
  | c (k : Nat)
/-- a name's slot: without value (or forgotten), data, a cell -/
inductive Sl where
  | u
  | d (x : D)
  | c (n : Nat)
  | x (n : String)
  | f
  | t (b : Bool) (es : List El)
structure S where
  v : List Sl
  m : List Cell
/-- a value: data, an object just made that nobody else holds, a cell -/
inductive Rv where
  | d (x : D)
  | new (c : Cell)
  | ref (n : Nat)
  | t (b : Bool) (es : List El)
inductive R (α : Type) where
  | ok (a : α) (s : S)
  | ex (e : String) (s : S)
  | bad
def R.bind {α β : Type} (r : R α) (k : α → S → R β) : R β :=
  match r with
  | .ok a s => k a s
  | .ex e s => .ex e s
  | .bad => .bad
def Res {α : Type} (P : α → S → Prop) (E : String → S → Prop) : R α → Prop
  | .ok a s => P a s
  | .ex e s => E e s
  | .bad => False
theorem Res.bind {α β : Type} {P : β → S → Prop} {E : String → S → Prop} {r : R α} {k : α → S → R β} (h : Res P E (r.bind k)) : Res (fun a s => Res P E (k a s)) E r := by
  cases r <;> exact h
theorem Res.mono {α : Type} {P P' : α → S → Prop} {E E' : String → S → Prop} {r : R α} (h : Res P E r) (hp : ∀ a s, P a s → P' a s) (he : ∀ e s, E e s → E' e s) : Res P' E' r := by
  cases r with
  | ok a s => exact hp a s h
  | ex e s => exact he e s h
  | bad => exact h
def KvAll (K : Fg) (G : Hp) {κ : Type} : List (κ × V) → List (κ × D) → Prop := Paired fun (p : κ × V) (q : κ × D) => p.1 = q.1 ∧ Rp K G p.2 q.2
def COk (K : Fg) (G H : Hp) (p : Addr) : Cell → Prop
  | .l ds => G p = none ∧ ∃ vs, H p = some (.lst vs) ∧ RpAll K G vs ds
  | .k kvs => G p = none ∧ ∃ ws, H p = some (.dK ws) ∧ KvAll K G ws kvs
  | .t kvs => G p = none ∧ ∃ ws, H p = some (.dT ws) ∧ KvAll K G ws kvs
  | .r ks => G p = none ∧ ∃ ws : List (List L2.Key × V), H p = some (.dT ws) ∧ ws.map (·.1) = ks
  | .i _ _ ds => G p = none ∧ ∃ vs, H p = some (.lst vs) ∧ RpAll K G vs ds
  | .gone => ∃ o, G p = some o
/-- a tuple or a list that never changes, some elements data, some cells -/
def outB : Bool → List V → HO
  | true, vs => .tup vs
  | false, vs => .lst vs
def ElOk (K : Fg) (G : Hp) (r : List Addr) (v : V) : El → Prop
  | .d x => Rp K G v x
  | .c k => ∃ p, v = .ref p ∧ r[k]? = some p
def VtOk (K : Fg) (G : Hp) (r : List Addr) (x : V) (b : Bool) (es : List El) : Prop := ∃ a vs, x = .ref a ∧ G a = some (outB b vs) ∧ Paired (ElOk K G r) vs es
theorem VtOk.mono {K : Fg} {G G' : Hp} {r r' : List Addr} {x : V} {b : Bool} {es : List El} (g : Same G G') (hr : ∀ (k : Nat) (p : Addr), r[k]? = some p → r'[k]? = some p) (h : VtOk K G r x b es) : VtOk K G' r' x b es := by
  obtain ⟨a, vs, e, h1, h2⟩ := h
  refine ⟨a, vs, e, g _ _ h1, Paired.mapP h2 fun v el q => ?_⟩
  cases el with
  | d y => exact Rp.mono g _ _ q
  | c k =>
    obtain ⟨p, e1, e2⟩ := q
    exact ⟨p, e1, hr k p e2⟩
/-- the ground (what never changes), the cells' addresses, what others hold, the heap -/
structure Wd where
  G : Hp
  r : List Addr
  F : Addr → Prop
  H : Hp
def NoTb (o : HO) : Prop := ∀ ps, o ≠ .tbl ps
/-- the world went on: the ground grew, what is no cell stands as it stood, cells came -/
structure Le (w w' : Wd) : Prop where
  g : Same w.G w'.G
  k : ∀ a o, w.H a = some o → a ∉ w.r → ∃ o', w'.H a = some o' ∧ (NoTb o → o' = o)
  p : w.r <+: w'.r
  f : ∀ p, p ∈ w'.r → p ∈ w.r ∨ w.H p = none
  s : w'.F = w.F
theorem Le.kN {w w' : Wd} (a : Le w w') {p : Addr} {o : HO} (e : w.H p = some o) (n : p ∉ w.r) (h : NoTb o) : w'.H p = some o := by
  obtain ⟨o', e1, e2⟩ := a.k p o e n
  rw [e1, e2 h]
theorem Le.kX {w w' : Wd} (a : Le w w') {p : Addr} {o : HO} (e : w.H p = some o) (n : p ∉ w.r) : ∃ o', w'.H p = some o' := by
  obtain ⟨o', e1, _⟩ := a.k p o e n
  exact ⟨o', e1⟩
def NoTG (G : Hp) : Prop := ∀ b o, G b = some o → NoTb o
theorem noTG_upd {G : Hp} {p : Addr} {o : HO} (h : NoTG G) (n : NoTb o) : NoTG (upd G p o) := fun b u e => by
  by_cases hb : b = p
  · subst hb
    rw [upd_same] at e
    cases e
    exact n
  · rw [upd_ne hb] at e
    exact h b u e
theorem noTb_tup {vs : List V} : NoTb (.tup vs) := fun _ z => by cases z
theorem noTb_l {vs : List V} : NoTb (.lst vs) := fun _ z => by cases z
theorem noTb_k {vs : List (L2.Key × V)} : NoTb (.dK vs) := fun _ z => by cases z
theorem noTb_t {vs : List (List L2.Key × V)} : NoTb (.dT vs) := fun _ z => by cases z
theorem Le.refl (w : Wd) : Le w w := ⟨Same.refl _, fun _ _ e _ => ⟨_, e, fun _ => rfl⟩, List.prefix_refl _, fun _ h => .inl h, rfl⟩
theorem Le.trans {w w1 w2 : Wd} (a : Le w w1) (b : Le w1 w2) : Le w w2 where
  g := a.g.trans b.g
  k := fun c o e n => by
    obtain ⟨o1, e1, q1⟩ := a.k c o e n
    obtain ⟨o2, e2, q2⟩ := b.k c o1 e1 fun m => by
      rcases a.f c m with h | h
      · exact n h
      · rw [e] at h; cases h
    exact ⟨o2, e2, fun hn => by
      have := q1 hn
      subst this
      exact q2 hn⟩
  p := a.p.trans b.p
  f := fun c h => by
    rcases b.f c h with h1 | h1
    · exact a.f c h1
    · by_cases hm : c ∈ w.r
      · exact .inl hm
      · right
        cases q : w.H c with
        | none => rfl
        | some o =>
          obtain ⟨_, this, _⟩ := a.k c o q hm
          rw [h1] at this; cases this
  s := b.s.trans a.s
theorem Le.cell {w w' : Wd} (a : Le w w') {n : Nat} {p : Addr} (h : w.r[n]? = some p) : w'.r[n]? = some p := by
  obtain ⟨t, e⟩ := a.p
  rw [← e]
  rw [List.getElem?_append_left]
  · exact h
  · exact (List.getElem?_eq_some_iff.mp h).1
theorem Le.mem {w w' : Wd} (a : Le w w') {p : Addr} (h : p ∈ w.r) : p ∈ w'.r := by
  obtain ⟨t, e⟩ := a.p
  rw [← e]
  exact List.mem_append_left _ h
abbrev Wd.f (w : Wd) (F : Addr → Prop) : Wd := ⟨w.G, w.r, F, w.H⟩
theorem Le.ch {w w' : Wd} (a : Le w w') (F : Addr → Prop) : Le (w.f F) (w'.f F) := ⟨a.g, a.k, a.p, a.f, rfl⟩
/-- an object that stays, where no cell is -/
theorem Le.stays {w w' : Wd} (a : Le w w') {p : Addr} {o : HO} (n : p ∉ w.r) (e : w.H p = some o) (h : NoTb o) : p ∉ w'.r ∧ w'.H p = some o := by
  refine ⟨fun m => ?_, a.kN e n h⟩
  rcases a.f p m with z | z
  · exact n z
  · rw [e] at z
    cases z
/-- the world ahead of all -/
def bot : Wd := ⟨fun _ => none, [], fun _ => False, fun _ => none⟩
theorem Le.bot (w : Wd) : Le bot (w.f bot.F) := ⟨fun _ _ e => (nomatch (show (none : Option HO) = some _ from e)), fun _ _ e _ => (nomatch (show (none : Option HO) = some _ from e)), List.nil_prefix, fun _ _ => .inr rfl, rfl⟩
/-- exceptions by the names of their classes; the tables of code objects of the defs that hold lambdas -/
structure EC where
  f : String → Addr
  T : List (Addr × Str)
  X : List String
  w : Wd
  lf : Addr
instance : CoeFun EC fun _ => String → Addr := ⟨EC.f⟩
def TabOk (ec : EC) (F : Addr → Prop) (H : Hp) : Prop := ∀ q, q ∈ ec.T → F q.1 ∧ LamX.TabS H q.1 q.2
theorem TabOk.ext {ec : EC} {F : Addr → Prop} {H H' : Hp} (t : TabOk ec F H) (h : ∀ b o, H b = some o → H' b = some o) : TabOk ec F H' := fun q hq => ⟨(t q hq).1, (t q hq).2.ext h⟩
theorem TabOk.back {ec : EC} {F F' : Addr → Prop} {H H' : Hp} (t : TabOk ec F H) (t' : TabOk ec F' H') : TabOk ec F H' := fun q hq => ⟨(t q hq).1, (t' q hq).2⟩
theorem TabOk.f {ec : EC} {F F' : Addr → Prop} {H : Hp} (t : TabOk ec F H) (h : ∀ p, F p → F' p) : TabOk ec F' H := fun q hq => ⟨h _ (t q hq).1, (t q hq).2⟩
/-- an object that is no table and no code object is written -/
theorem TabOk.put {ec : EC} {F : Addr → Prop} {H : Hp} {p : Addr} {o o' : HO} (t : TabOk ec F H) (ho : H p = some o) (h1 : NoTb o) (h2 : ∀ f, o ≠ .ext f) : TabOk ec F (upd H p o') := fun q hq => by
  obtain ⟨a, ps, e1, e2, e3⟩ := t q hq
  have n1 : q.1 ≠ p := fun z => by
    rw [z, ho] at e1
    exact h1 ps (Option.some.inj e1)
  refine ⟨a, ps, by rw [upd_ne n1]; exact e1, e2, fun pos cv hc => ?_⟩
  obtain ⟨c, e4, e5⟩ := e3 pos cv hc
  have n2 : c ≠ p := fun z => by
    rw [z, ho] at e5
    unfold LamX.CodeO at e5
    exact h2 _ (Option.some.inj e5)
  exact ⟨c, e4, by rw [upd_ne n2]; exact e5⟩
/-- the lists within a dict of lists stand where the dict says -/
def RfL (w : Wd) (m : List Cell) : Prop := ∀ (t : Nat) (q : Addr) (n j : Nat) (ds : List D), w.r[t]? = some q → m[t]? = some (.i n j ds) → n < t ∧ ∀ (p : Addr) (ks : List (List L2.Key)), w.r[n]? = some p → m[n]? = some (.r ks) → ∃ (ws : List (List L2.Key × V)) (k : List L2.Key), w.H p = some (.dT ws) ∧ ws[j]? = some (k, .ref q)
def NoTup (o : HO) : Prop := ∀ vs, o ≠ .tup vs
/-- what others hold is no tuple -/
def FT (ec : EC) (w : Wd) : Prop := ∀ p, w.F p → p ∈ ec.T.map (·.1) ∨ ∃ o, w.H p = some o ∧ NoTb o ∧ NoTup o
def NV (ec : EC) (w : Wd) (m : List Cell) : Prop := RfL w m ∧ FT ec w
structure Mem (ec : EC) (K : Fg) (w : Wd) (m : List Cell) : Prop where
  ext : Same w.G w.H
  len : w.r.length = m.length
  nd : w.r.Nodup
  cell : ∀ (n : Nat) (p : Addr) (c : Cell), w.r[n]? = some p → m[n]? = some c → COk K w.G w.H p c
  fo : ∀ p, w.F p → w.G p = none ∧ p ∉ w.r ∧ ∃ o, w.H p = some o
  tab : TabOk ec w.F w.H
  inv : Le ec.w (w.f ec.w.F)
  gt : NoTG w.G
  nv : NV ec w m
/-- a caught exception of the class at C -/
def ExO (a C : Addr) : HO := .ext fun h => ∃ oe, PySem.W.InstAt h a oe C none
theorem noTb_x {a C : Addr} : NoTb (ExO a C) := fun _ z => by
  unfold ExO at z
  cases z
def SlOk (ec : EC) (K : Fg) (w : Wd) (y : Option (Option V)) : Sl → Prop
  | .u => True
  | .d x => ∃ v, y = some (some v) ∧ Rp K w.G v x
  | .c n => ∃ p, y = some (some (.ref p)) ∧ w.r[n]? = some p
  | .x n => n ∈ ec.X ∧ ∃ a, y = some (some (.ref a)) ∧ a ∉ w.r ∧ w.H a = some (ExO a (ec.f n))
  | .f => y = some (some (.ref ec.lf))
  | .t b es => ∃ v, y = some (some v) ∧ VtOk K w.G w.r v b es
structure Rel (ec : EC) (K : Fg) (w : Wd) (σ : St) (s : S) : Prop where
  mem : Mem ec K w s.m
  len : σ.length = s.v.length
  slot : ∀ (i : Nat) (sl : Sl), s.v[i]? = some sl → SlOk ec K w σ[i]? sl
def RvOk (K : Fg) (w : Wd) (x : V) : Rv → Prop
  | .d d => Rp K w.G x d
  | .new c => ∃ p, x = .ref p ∧ (p ∉ w.r ∧ ¬ w.F p) ∧ COk K w.G w.H p c
  | .ref n => ∃ p, x = .ref p ∧ w.r[n]? = some p
  | .t b es => VtOk K w.G w.r x b es
theorem slOk_mono {ec : EC} {K : Fg} {w w' : Wd} (a : Le w w') {y : Option (Option V)} {sl : Sl} (h : SlOk ec K w y sl) : SlOk ec K w' y sl := by
  cases sl with
  | u => trivial
  | d x =>
    obtain ⟨v, e, r⟩ := h
    exact ⟨v, e, r.mono a.g⟩
  | c n =>
    obtain ⟨p, e, r⟩ := h
    exact ⟨p, e, a.cell r⟩
  | x n =>
    obtain ⟨q, b, e, r, z⟩ := h
    obtain ⟨r', z'⟩ := a.stays r z noTb_x
    exact ⟨q, b, e, r', z'⟩
  | f => exact h
  | t b es =>
    obtain ⟨v, e, z⟩ := h
    exact ⟨v, e, z.mono a.g fun k p q => a.cell q⟩
/-! ### the readings -/
/-- an object just made was not there ahead -/
def FrR (w : Wd) (x : V) (rv : Rv) : Prop := ∀ c, rv = .new c → ∀ p, x = .ref p → w.H p = none
theorem FrR.d {w : Wd} {x : V} {d : D} : FrR w x (.d d) := fun _ e => by cases e
theorem FrR.ref {w : Wd} {x : V} {n : Nat} : FrR w x (.ref n) := fun _ e => by cases e
theorem FrR.t {w : Wd} {x : V} {b : Bool} {es : List El} : FrR w x (.t b es) := fun _ e => by cases e
/-- fresh later is fresh earlier -/
theorem FrR.back {K : Fg} {w w1 w' : Wd} {x : V} {rv : Rv} (a : Le w w1) (b : Le w1 w') (hr : RvOk K w' x rv) (h : FrR w1 x rv) : FrR w x rv := fun c e p ex => by
  have h1 := h c e p ex
  subst e
  obtain ⟨q, eq, ⟨hq, _⟩, _⟩ := hr
  rw [ex] at eq
  cases eq
  cases hh : w.H p with
  | none => rfl
  | some o =>
    obtain ⟨_, this, _⟩ := a.k p o hh fun m => hq (b.mem (a.mem m))
    rw [h1] at this
    cases this
def okV (ec : EC) (K : Fg) (w : Wd) (σ : St) (Q : VK) : Rv → S → Prop := fun rv s' => ∀ x w', Le w w' → Rel ec K w' σ s' → RvOk K w' x rv → FrR w x rv → Q x w'.H
abbrev CE := S → R Rv
abbrev CT := S → R Bool
def rd (K : Fg) (ec : EC) (W : WX) (c : CE) : TE := fun σ H Q => ∃ w s, w.H = H ∧ Rel ec K w σ s ∧ Res (okV ec K w σ Q) (fun e s' => ∀ w', Le w w' → Rel ec K w' σ s' → W (.ref (ec e)) none σ w'.H) (c s)
def rdT (K : Fg) (ec : EC) (W : WX) (c : CT) : TT := fun σ H Q => ∃ w s, w.H = H ∧ Rel ec K w σ s ∧ Res (fun b s' => ∀ w', Le w w' → Rel ec K w' σ s' → Q b w'.H) (fun e s' => ∀ w', Le w w' → Rel ec K w' σ s' → W (.ref (ec e)) none σ w'.H) (c s)
/-- what is wanted of an exception out of an expression -/
abbrev okE (K : Fg) (ec : EC) (W : WX) (σ : St) (w : Wd) : String → S → Prop := fun e s' => ∀ w', Le w w' → Rel ec K w' σ s' → W (.ref (ec e)) none σ w'.H
/-! ### weakening -/
theorem _root_.L2.PE.imp {X : Cx} {e : Expr} {t t' : TE} (h : PE X e t) (i : ∀ σ H Q, t' σ H Q → t σ H Q) : PE X e t' := ⟨fun pins s σ H Q I q => h.run pins s σ H Q I (i _ _ _ q)⟩
theorem _root_.L2.PT.imp {X : Cx} {e : Expr} {t t' : TT} (h : PT X e t) (i : ∀ σ H Q, t' σ H Q → t σ H Q) : PT X e t' := ⟨fun pins s σ H Q I q => h.run pins s σ H Q I (i _ _ _ q)⟩
theorem _root_.L2.PS.imp {X : Cx} {e : Stmt} {t t' : TS} (h : PS X e t) (i : ∀ D σ H, t' D σ H → t D σ H) : PS X e t' := ⟨fun pins s σ H D I q => h.run pins s σ H D I (i _ _ _ q)⟩
theorem _root_.L2.PSs.imp {X : Cx} {e : List Stmt} {t t' : TS} (h : PSs X e t) (i : ∀ D σ H, t' D σ H → t D σ H) : PSs X e t' := ⟨fun pins s σ H D I q => h.run pins s σ H D I (i _ _ _ q)⟩
/-! ### an object just made becomes data -/
def Cell.D? : Cell → Option D
  | .l ds => some (.list ds)
  | .k kvs => some (.dict (kvs.map fun p => (kD p.1, p.2)))
  | _ => none
theorem rpKv_of {K : Fg} {G : Hp} : ∀ {ws : List (L2.Key × V)} {kvs : List (L2.Key × D)}, KvAll K G ws kvs → RpKv K G ws (kvs.map fun p => (kD p.1, p.2))
  | _, _, .nil => .nil
  | (k, v) :: ws, (k', d) :: kvs, .cons r t => by
    obtain ⟨e, r⟩ := r
    have e : k = k' := e
    subst e
    exact .cons r (rpKv_of t)
theorem cOk_mono {K : Fg} {G G' H H' : Hp} {p : Addr} {c : Cell} (g : Same G G') (hp : c ≠ .gone → G' p = none) (h : ∀ o, c ≠ .gone → H p = some o → H' p = some o) (r : COk K G H p c) : COk K G' H' p c := by
  cases c with
  | l ds =>
    obtain ⟨_, vs, e, q⟩ := r
    exact ⟨hp (by intro z; cases z), vs, h _ (by intro z; cases z) e, q.mono g⟩
  | k kvs =>
    obtain ⟨_, vs, e, q⟩ := r
    exact ⟨hp (by intro z; cases z), vs, h _ (by intro z; cases z) e, Paired.mapP q fun a b z => ⟨z.1, z.2.mono g⟩⟩
  | t kvs =>
    obtain ⟨_, vs, e, q⟩ := r
    exact ⟨hp (by intro z; cases z), vs, h _ (by intro z; cases z) e, Paired.mapP q fun a b z => ⟨z.1, z.2.mono g⟩⟩
  | r ks =>
    obtain ⟨_, vs, e, q⟩ := r
    exact ⟨hp (by intro z; cases z), vs, h _ (by intro z; cases z) e, q⟩
  | i n j ds =>
    obtain ⟨_, vs, e, q⟩ := r
    exact ⟨hp (by intro z; cases z), vs, h _ (by intro z; cases z) e, q.mono g⟩
  | gone =>
    obtain ⟨o, e⟩ := r
    exact ⟨o, g _ _ e⟩
/-- the ground takes p in -/
theorem ground_in {ec : EC} {K : Fg} {w : Wd} {σ : St} {s : S} {p : Addr} {o : HO} (r : Rel ec K w σ s) (hp : p ∉ w.r ∧ ¬ w.F p) (hg : w.G p = none) (hh : w.H p = some o) (nb : NoTb o) :
    Rel ec K ⟨upd w.G p o, w.r, w.F, w.H⟩ σ s ∧ Le w ⟨upd w.G p o, w.r, w.F, w.H⟩ := by
  have sg : Same w.G (upd w.G p o) := fun b u e => by
    rw [upd_ne (ne_of_none e hg)]
    exact e
  have le : Le w ⟨upd w.G p o, w.r, w.F, w.H⟩ := ⟨sg, fun _ _ e _ => ⟨_, e, fun _ => rfl⟩, List.prefix_refl _, fun _ h => .inl h, rfl⟩
  refine ⟨⟨⟨fun b u e => ?_, r.mem.len, r.mem.nd, fun n q c h1 h2 => ?_, fun q hq => ?_, r.mem.tab, r.mem.inv.trans (le.ch _), noTG_upd r.mem.gt nb, r.mem.nv⟩, r.len, fun i sl h => slOk_mono le (r.slot i sl h)⟩, le⟩
  · by_cases hb : b = p
    · subst hb
      have e : upd w.G b o b = some u := e
      rw [upd_same] at e
      cases e
      exact hh
    · have e : upd w.G p o b = some u := e
      rw [upd_ne hb] at e
      exact r.mem.ext b u e
  · have hq : q ≠ p := fun z => hp.1 (z ▸ List.mem_of_getElem? h1)
    have c0 := r.mem.cell n q c h1 h2
    refine cOk_mono sg (fun hc => ?_) (fun _ _ e => e) c0
    show upd w.G p o q = none
    rw [upd_ne hq]
    cases c with
    | l ds => exact c0.1
    | k kvs => exact c0.1
    | t kvs => exact c0.1
    | r ks => exact c0.1
    | i n j ds => exact c0.1
    | gone => exact absurd rfl hc
  · obtain ⟨h1, h2⟩ := r.mem.fo q hq
    refine ⟨?_, h2⟩
    show upd w.G p o q = none
    have hne : q ≠ p := by
      intro z
      subst z
      exact hp.2 hq
    rw [upd_ne hne]
    exact h1
def Rv.D? : Rv → Option D
  | .d x => some x
  | .new c => c.D?
  | .ref _ => none
  | .t _ _ => none
theorem freeze {ec : EC} {K : Fg} {w : Wd} {σ : St} {s : S} {x : V} {rv : Rv} {d : D} (r : Rel ec K w σ s) (h : RvOk K w x rv) (e : rv.D? = some d) :
    ∃ G', Rel ec K ⟨G', w.r, w.F, w.H⟩ σ s ∧ Le w ⟨G', w.r, w.F, w.H⟩ ∧ Rp K G' x d := by
  cases rv with
  | d y =>
    cases e
    exact ⟨w.G, r, Le.refl w, h⟩
  | ref n => cases e
  | t b es => cases e
  | new c =>
    obtain ⟨p, rfl, hp, hc⟩ := h
    cases c with
    | l ds =>
      cases e
      obtain ⟨hg, vs, hv, ra⟩ := hc
      obtain ⟨r', le⟩ := ground_in r hp hg hv noTb_l
      exact ⟨_, r', le, .lst (SqL.of upd_same) (ra.mono le.g)⟩
    | k kvs =>
      cases e
      obtain ⟨hg, vs, hv, ra⟩ := hc
      obtain ⟨r', le⟩ := ground_in r hp hg hv noTb_k
      exact ⟨_, r', le, .dct upd_same ((rpKv_of ra).mono le.g)⟩
    | t kvs => cases e
    | r ks => cases e
    | i n j ds => cases e
    | gone => cases e
end Vm
namespace Vm
open PySem L2
/-! ### operands -/
/-- what an operand is when the operation comes: data (a cell's list too), or a cell's dict -/
inductive Od where
  | d (x : D)
  | c (c : Cell)
def Rv.od (m : List Cell) : Rv → Option Od
  | .d x => some (.d x)
  | .new _ => none
  | .t _ _ => none
  | .ref n => match m[n]? with
    | some (.l ds) => some (.d (.list ds))
    | some (.k kvs) => some (.c (.k kvs))
    | some (.t kvs) => some (.c (.t kvs))
    | some (.r ks) => some (.c (.r ks))
    | _ => none
def OdOk (K : Fg) (w : Wd) (x : V) : Od → Prop
  | .d d => Rp K w.G x d ∨ ∃ p vs ds, x = .ref p ∧ d = .list ds ∧ w.H p = some (.lst vs) ∧ RpAll K w.G vs ds
  | .c c => ∃ p, x = .ref p ∧ COk K w.G w.H p c ∧ p ∈ w.r
/-- an expression's value, an object just made become data -/
def cv (c : CE) : CE := fun s => (c s).bind fun rv s1 => match rv with
  | .new c => match c.D? with
    | some d => .ok (.d d) s1
    | none => .bad
  | rv => .ok rv s1
def opt {α β : Type} (o : Option α) (k : α → R β) : R β := match o with
  | some a => k a
  | none => .bad
def cOp1 (f : Od → Option Rv) (a : CE) : CE := fun s => (cv a s).bind fun x s1 => opt (x.od s1.m) fun o => opt (f o) fun rv => .ok rv s1
def cOp2 (f : Od → Od → Option Rv) (a b : CE) : CE := fun s => (cv a s).bind fun x s1 => (cv b s1).bind fun y s2 => opt (x.od s2.m) fun o => opt (y.od s2.m) fun o' => opt (f o o') fun rv => .ok rv s2
theorem Res.opt {α β : Type} {P : β → S → Prop} {E : String → S → Prop} {o : Option α} {k : α → R β} (h : Res P E (opt o k)) : ∃ a, o = some a ∧ Res P E (k a) := by
  cases o with
  | none => exact h.elim
  | some a => exact ⟨a, rfl, h⟩
section
variable {K : Fg} {ec : EC} {W : WX} {σ : St} {w w1 : Wd} {Q : VK} {s : S}
/-- what is wanted of a run from w on -/
abbrev FinV (K : Fg) (ec : EC) (W : WX) (σ : St) (Q : VK) (w : Wd) (r : R Rv) : Prop := Res (okV ec K w σ Q) (okE K ec W σ w) r
abbrev FinT (K : Fg) (ec : EC) (W : WX) (σ : St) (Q : Bool → Hp → Prop) (w : Wd) (r : R Bool) : Prop := Res (fun b s' => ∀ w', Le w w' → Rel ec K w' σ s' → Q b w'.H) (okE K ec W σ w) r
theorem okE_le (a : Le w w1) {e : String} {s' : S} (h : okE K ec W σ w e s') : okE K ec W σ w1 e s' := fun w' b r => h w' (a.trans b) r
theorem FinV.le {r : R Rv} (a : Le w w1) (h : FinV K ec W σ Q w r) : FinV K ec W σ Q w1 r := Res.mono h (fun rv s' q x w' b r o f => q x w' (a.trans b) r o (f.back a b o)) fun e s' q => okE_le a q
theorem FinT.le {Q : Bool → Hp → Prop} {r : R Bool} (a : Le w w1) (h : FinT K ec W σ Q w r) : FinT K ec W σ Q w1 r := Res.mono h (fun rv s' q w' b => q w' (a.trans b)) fun e s' q => okE_le a q
/-- an argument runs, then the rest -/
theorem run_cv {α : Type} {c : CE} {k : Rv → S → R α} {P : α → S → Prop} (hr : Rel ec K w σ s) (h : Res P (okE K ec W σ w) ((cv c s).bind k))
    (hk : ∀ x w1 s1 a, Le w w1 → Rel ec K w1 σ s1 → RvOk K w1 x a → (∀ c, a ≠ .new c) → Res P (okE K ec W σ w) (k a s1) → Q x w1.H) : rd K ec W c σ w.H Q := by
  refine ⟨w, s, rfl, hr, ?_⟩
  unfold cv at h
  cases e : c s with
  | bad =>
    rw [e] at h
    exact h
  | ex n s' =>
    rw [e] at h
    exact h
  | ok rv s' =>
    rw [e] at h
    intro x w' le r' ok _
    cases rv with
    | d y => exact hk x w' s' (.d y) le r' ok (by intro c z; cases z) h
    | ref n => exact hk x w' s' (.ref n) le r' ok (by intro c z; cases z) h
    | t b es => exact hk x w' s' (.t b es) le r' ok (by intro c z; cases z) h
    | new cc =>
      cases ed : cc.D? with
      | none =>
        simp only [R.bind, ed] at h
        exact h.elim
      | some d =>
        simp only [R.bind, ed] at h
        obtain ⟨G', r2, le2, rp⟩ := freeze r' ok (d := d) ed
        exact hk x ⟨G', w'.r, w'.F, w'.H⟩ s' (.d d) (le.trans le2) r2 rp (by intro c z; cases z) h
theorem RvOk.le {x : V} {a : Rv} (hn : ∀ c, a ≠ .new c) (le : Le w w1) (h : RvOk K w x a) : RvOk K w1 x a := by
  cases a with
  | d y => exact Rp.mono le.g _ _ h
  | ref n =>
    obtain ⟨p, e, q⟩ := h
    exact ⟨p, e, le.cell q⟩
  | t b es => exact h.mono le.g fun k p q => le.cell q
  | new c => exact absurd rfl (hn c)
theorem od_of {x : V} {a : Rv} {o : Od} (hr : Rel ec K w σ s) (h : RvOk K w x a) (e : a.od s.m = some o) : OdOk K w x o := by
  cases a with
  | d y =>
    cases e
    exact .inl h
  | new c => cases e
  | t b es => cases e
  | ref n =>
    obtain ⟨p, rfl, q⟩ := h
    unfold Rv.od at e
    dsimp only at e
    split at e
    · rename_i ds hc
      cases e
      obtain ⟨hg, vs, hv, ra⟩ := hr.mem.cell n p _ q hc
      exact .inr ⟨p, vs, ds, rfl, rfl, hv, ra⟩
    · rename_i kvs hc
      cases e
      exact ⟨p, rfl, hr.mem.cell n p _ q hc, List.mem_of_getElem? q⟩
    · rename_i kvs hc
      cases e
      exact ⟨p, rfl, hr.mem.cell n p _ q hc, List.mem_of_getElem? q⟩
    · rename_i kvs hc
      cases e
      exact ⟨p, rfl, hr.mem.cell n p _ q hc, List.mem_of_getElem? q⟩
    · cases e
/-! ### what an operation leaves -/
/-- the world grew by new objects alone -/
structure Gr (w w' : Wd) : Prop where
  r : w'.r = w.r
  f : w'.F = w.F
  g : Same w.G w'.G
  h : Same w.H w'.H
  e : Same w.G w.H → Same w'.G w'.H
  n : ∀ p o, w.H p = some o → NoTup o → w.G p = none → w'.G p = none
  t : NoTG w.G → NoTG w'.G
theorem Gr.refl (w : Wd) : Gr w w := ⟨rfl, rfl, Same.refl _, Same.refl _, fun h => h, fun _ _ _ _ h => h, fun h => h⟩
theorem Rel.live (r : Rel ec K w σ s) {p : Addr} (h : p ∈ w.r) : ∃ o, w.H p = some o := by
  obtain ⟨n, e⟩ := List.getElem?_of_mem h
  have hn : n < s.m.length := by
    rw [← r.mem.len]
    exact (List.getElem?_eq_some_iff.mp e).1
  have c := r.mem.cell n p _ e (List.getElem?_eq_getElem hn)
  cases q : s.m[n] with
  | l ds =>
    rw [q] at c
    obtain ⟨_, vs, hv, _⟩ := c
    exact ⟨_, hv⟩
  | k ds =>
    rw [q] at c
    obtain ⟨_, vs, hv, _⟩ := c
    exact ⟨_, hv⟩
  | t ds =>
    rw [q] at c
    obtain ⟨_, vs, hv, _⟩ := c
    exact ⟨_, hv⟩
  | r ds =>
    rw [q] at c
    obtain ⟨_, vs, hv, _⟩ := c
    exact ⟨_, hv⟩
  | i n' j' ds =>
    rw [q] at c
    obtain ⟨_, vs, hv, _⟩ := c
    exact ⟨_, hv⟩
  | gone =>
    rw [q] at c
    obtain ⟨o, e⟩ := c
    exact ⟨o, r.mem.ext _ _ e⟩
theorem Rel.liveN (r : Rel ec K w σ s) {n : Nat} {p : Addr} (e : w.r[n]? = some p) (hg : w.G p = none) : ∃ o, w.H p = some o ∧ NoTb o ∧ ∀ f, o ≠ .ext f := by
  have hn : n < s.m.length := by
    rw [← r.mem.len]
    exact (List.getElem?_eq_some_iff.mp e).1
  have c := r.mem.cell n p _ e (List.getElem?_eq_getElem hn)
  cases q : s.m[n] with
  | l ds =>
    rw [q] at c
    obtain ⟨_, vs, hv, _⟩ := c
    exact ⟨_, hv, noTb_l, fun f z => by cases z⟩
  | k ds =>
    rw [q] at c
    obtain ⟨_, vs, hv, _⟩ := c
    exact ⟨_, hv, noTb_k, fun f z => by cases z⟩
  | t ds =>
    rw [q] at c
    obtain ⟨_, vs, hv, _⟩ := c
    exact ⟨_, hv, noTb_t, fun f z => by cases z⟩
  | r ds =>
    rw [q] at c
    obtain ⟨_, vs, hv, _⟩ := c
    exact ⟨_, hv, noTb_t, fun f z => by cases z⟩
  | i n' j' ds =>
    rw [q] at c
    obtain ⟨_, vs, hv, _⟩ := c
    exact ⟨_, hv, noTb_l, fun f z => by cases z⟩
  | gone =>
    rw [q] at c
    obtain ⟨o, e⟩ := c
    rw [hg] at e
    cases e
theorem Rel.liveT (r : Rel ec K w σ s) {n : Nat} {p : Addr} (e : w.r[n]? = some p) (hg : w.G p = none) : ∃ o, w.H p = some o ∧ NoTb o ∧ NoTup o := by
  have hn : n < s.m.length := by
    rw [← r.mem.len]
    exact (List.getElem?_eq_some_iff.mp e).1
  have c := r.mem.cell n p _ e (List.getElem?_eq_getElem hn)
  cases q : s.m[n] with
  | gone =>
    rw [q] at c
    obtain ⟨o, e⟩ := c
    rw [hg] at e
    cases e
  | l ds =>
    rw [q] at c
    obtain ⟨_, vs, hv, _⟩ := c
    exact ⟨_, hv, noTb_l, fun f z => by cases z⟩
  | k ds =>
    rw [q] at c
    obtain ⟨_, vs, hv, _⟩ := c
    exact ⟨_, hv, noTb_k, fun f z => by cases z⟩
  | t ds =>
    rw [q] at c
    obtain ⟨_, vs, hv, _⟩ := c
    exact ⟨_, hv, noTb_t, fun f z => by cases z⟩
  | r ds =>
    rw [q] at c
    obtain ⟨_, vs, hv, _⟩ := c
    exact ⟨_, hv, noTb_t, fun f z => by cases z⟩
  | i n' j' ds =>
    rw [q] at c
    obtain ⟨_, vs, hv, _⟩ := c
    exact ⟨_, hv, noTb_l, fun f z => by cases z⟩
theorem nv_grow {m : List Cell} (a : Gr w w1) (h : NV ec w m) : NV ec w1 m := by
  refine ⟨fun t q n j ds e1 e2 => ?_, fun p hp => ?_⟩
  · rw [a.r] at e1
    obtain ⟨h1, h2⟩ := h.1 t q n j ds e1 e2
    refine ⟨h1, fun p ks e3 e4 => ?_⟩
    rw [a.r] at e3
    obtain ⟨ws, k, e5, e6⟩ := h2 p ks e3 e4
    exact ⟨ws, k, a.h _ _ e5, e6⟩
  · rw [a.f] at hp
    rcases h.2 p hp with z | ⟨o, e, z⟩
    · exact .inl z
    · exact .inr ⟨o, a.h _ _ e, z⟩
theorem Gr.le (a : Gr w w1) : Le w w1 := ⟨a.g, fun _ _ e _ => ⟨_, a.h _ _ e, fun _ => rfl⟩, by rw [a.r]; exact List.prefix_refl _, fun _ h => .inl (a.r ▸ h), a.f⟩
theorem Rel.grow (r : Rel ec K w σ s) (a : Gr w w1) : Rel ec K w1 σ s := by
  refine ⟨⟨a.e r.mem.ext, by rw [a.r]; exact r.mem.len, by rw [a.r]; exact r.mem.nd, fun n p c h1 h2 => ?_, fun p hp => ?_, by rw [a.f]; exact r.mem.tab.ext a.h, r.mem.inv.trans (a.le.ch _), a.t r.mem.gt, nv_grow a r.mem.nv⟩, r.len, fun i sl h => slOk_mono a.le (r.slot i sl h)⟩
  rotate_left
  · rw [a.f] at hp
    obtain ⟨h1, h2, o, ho⟩ := r.mem.fo p hp
    have nt : NoTup o := by
      rcases r.mem.nv.2 p hp with z | ⟨o', e, _, z⟩
      · obtain ⟨q, hq, e⟩ := List.mem_map.mp z
        obtain ⟨ps, e1, _⟩ := (r.mem.tab q hq).2
        rw [e, ho] at e1
        intro vs z
        rw [z] at e1
        cases e1
      · rw [ho] at e
        cases e
        exact z
    exact ⟨a.n p o ho nt h1, by rw [a.r]; exact h2, o, a.h _ _ ho⟩
  rw [a.r] at h1
  have c0 := r.mem.cell n p c h1 h2
  refine cOk_mono a.g (fun hc => ?_) (fun o _ e => a.h _ _ e) c0
  have hg : w.G p = none := by
    cases c with
    | l ds => exact c0.1
    | k kvs => exact c0.1
    | t kvs => exact c0.1
    | r ks => exact c0.1
    | i n j ds => exact c0.1
    | gone => exact absurd rfl hc
  obtain ⟨o, ho, _, nt⟩ := r.liveT h1 hg
  exact a.n p o ho nt hg
def RvN (K : Fg) (w w' : Wd) (z : V) : Rv → Prop
  | .d d => Rp K w'.G z d
  | .new c => ∃ p, z = .ref p ∧ w.H p = none ∧ COk K w'.G w'.H p c
  | .ref _ => False
  | .t _ _ => False
def Post (K : Fg) (w : Wd) (rv : Rv) (Q : VK) : Prop := ∀ z w', Gr w w' → RvN K w w' z rv → Q z w'.H
theorem post_of {rv : Rv} (hr : Rel ec K w σ s) (h : okV ec K w σ Q rv s) : Post K w rv Q := fun z w' g n => by
  refine h z w' g.le (hr.grow g) ?_ fun c ec p ez => ?_
  rotate_left
  · subst ec
    obtain ⟨p', e, hp, hc⟩ := n
    rw [ez] at e
    cases e
    exact hp
  cases rv with
  | d d => exact n
  | ref _ => exact n.elim
  | t _ _ => exact n.elim
  | new c =>
    obtain ⟨p, e, hp, hc⟩ := n
    refine ⟨p, e, ⟨fun hm => ?_, fun hm => ?_⟩, hc⟩
    · rw [g.r] at hm
      obtain ⟨o, ho⟩ := hr.live hm
      rw [hp] at ho
      cases ho
    · rw [g.f] at hm
      obtain ⟨_, _, o, ho⟩ := hr.mem.fo p hm
      rw [hp] at ho
      cases ho
theorem post_d {d : D} {z : V} (h : Post K w (.d d) Q) (r : Rp K w.G z d) : Q z w.H := h z w (Gr.refl w) r
theorem post_int {i : Int} (h : Post K w (.d (.int i)) Q) : Q (.int i) w.H := post_d h (.int i)
theorem post_bool {i : Bool} (h : Post K w (.d (.bool i)) Q) : Q (.bl i) w.H := post_d h (.bl i)
theorem post_str {i : Str} (h : Post K w (.d (.str i)) Q) : Q (.str i) w.H := post_d h (.str i)
theorem same_upd {H : Hp} {p : Addr} {o : HO} (h : H p = none) : Same H (upd H p o) := fun b x e => by
  rw [upd_ne (ne_of_none e h)]
  exact e
theorem same_upd2 {G H : Hp} {p : Addr} {o : HO} (h : Same G H) : Same (upd G p o) (upd H p o) := fun b x e => by
  by_cases hb : b = p
  · subst hb
    rw [upd_same] at e ⊢
    exact e
  · rw [upd_ne hb] at e ⊢
    exact h b x e
theorem post_tup {ds : List D} {vs : List V} {p : Addr} (h : Post K w (.d (.tuple ds)) Q) (r : RpAll K w.G vs ds) (hp : w.H p = none) (hx : Same w.G w.H) : Q (.ref p) (upd w.H p (.tup vs)) := by
  have hg : w.G p = none := hx.free hp
  exact h (.ref p) ⟨upd w.G p (.tup vs), w.r, w.F, upd w.H p (.tup vs)⟩ ⟨rfl, rfl, same_upd hg, same_upd hp, fun e => same_upd2 e, fun q o e _ n => by
    show upd w.G p (.tup vs) q = none
    rw [upd_ne (ne_of_none e hp)]
    exact n, fun h => noTG_upd h noTb_tup⟩ (.tup upd_same (r.mono (same_upd hg)))
theorem gr_new {p : Addr} {o : HO} (hp : w.H p = none) : Gr w ⟨w.G, w.r, w.F, upd w.H p o⟩ := ⟨rfl, rfl, Same.refl _, same_upd hp, fun e => e.trans (same_upd hp), fun _ _ _ _ n => n, fun h => h⟩
theorem post_lst {ds : List D} {vs : List V} {p : Addr} (h : Post K w (.new (.l ds)) Q) (r : RpAll K w.G vs ds) (hp : w.H p = none) (hx : Same w.G w.H) : Q (.ref p) (upd w.H p (.lst vs)) :=
  h (.ref p) ⟨w.G, w.r, w.F, upd w.H p (.lst vs)⟩ (gr_new hp) ⟨p, rfl, hp, hx.free hp, vs, upd_same, r⟩
/-- an operation on values does what the function on data says -/
def Op1S (K : Fg) (r : V → Hp → VK → Prop) (f : Od → Option Rv) : Prop := ∀ (w : Wd) (x : V) (o : Od) (rv : Rv) (Q : VK), Same w.G w.H → OdOk K w x o → f o = some rv → Post K w rv Q → r x w.H Q
def Op2S (K : Fg) (r : R2) (f : Od → Od → Option Rv) : Prop := ∀ (w : Wd) (x y : V) (o o' : Od) (rv : Rv) (Q : VK), Same w.G w.H → OdOk K w x o → OdOk K w y o' → f o o' = some rv → Post K w rv Q → r x y w.H Q
theorem op1 {r : V → Hp → VK → Prop} {f : Od → Option Rv} (hs : Op1S K r f) {c : CE} {H : Hp} (h : rd K ec W (cOp1 f c) σ H Q) : rd K ec W c σ H fun x H1 => r x H1 Q := by
  obtain ⟨w, s, rfl, hr, h⟩ := h
  refine run_cv hr h fun x w1 s1 a le1 hr1 ha hn h1 => ?_
  obtain ⟨o, e1, h2⟩ := h1.opt
  obtain ⟨rv, e2, h3⟩ := h2.opt
  exact hs w1 x o rv Q hr1.mem.ext (od_of hr1 ha e1) e2 (post_of hr1 fun z w' le r' o f => h3 z w' (le1.trans le) r' o (f.back le1 le o))
theorem op2 {r : R2} {f : Od → Od → Option Rv} (hs : Op2S K r f) {ca cb : CE} {H : Hp} (h : rd K ec W (cOp2 f ca cb) σ H Q) : rd K ec W ca σ H fun x H1 => rd K ec W cb σ H1 fun y H2 => r x y H2 Q := by
  obtain ⟨w, s, rfl, hr, h⟩ := h
  refine run_cv hr h fun x w1 s1 a le1 hr1 ha hn h1 => ?_
  refine run_cv hr1 (Res.mono h1 (fun _ _ q => q) fun _ _ q => okE_le le1 q) fun y w2 s2 b le2 hr2 hb hn2 h2 => ?_
  obtain ⟨o, e1, h2⟩ := h2.opt
  obtain ⟨o', e2, h2⟩ := h2.opt
  obtain ⟨rv, e3, h3⟩ := h2.opt
  exact hs w2 x y o o' rv Q hr2.mem.ext (od_of hr2 (ha.le hn le2) e1) (od_of hr2 hb e2) e3 (post_of hr2 fun z w' le r' o f => h3 z w' ((le1.trans le2).trans le) r' o (f.back (le1.trans le2) le o))
/-! ### what operands are -/
theorem OdOk.rp {x : V} {d : D} (hx : Same w.G w.H) (h : OdOk K w x (.d d)) : Rp K w.H x d := by
  rcases h with h | ⟨p, vs, ds, rfl, rfl, hv, ra⟩
  · exact h.mono hx
  · exact .lst (SqL.of hv) (ra.mono hx)
theorem OdOk.int {x : V} {i : Int} (h : OdOk K w x (.d (.int i))) : x = .int i := by
  rcases h with h | ⟨p, vs, ds, rfl, e, _⟩
  · cases h
    rfl
  · cases e
theorem OdOk.bool {x : V} {i : Bool} (h : OdOk K w x (.d (.bool i))) : x = .bl i := by
  rcases h with h | ⟨p, vs, ds, rfl, e, _⟩
  · cases h
    rfl
  · cases e
theorem OdOk.str {x : V} {i : Str} (h : OdOk K w x (.d (.str i))) : x = .str i := by
  rcases h with h | ⟨p, vs, ds, rfl, e, _⟩
  · cases h
    rfl
  · cases e
theorem OdOk.none {x : V} (h : OdOk K w x (.d .none)) : x = .non := by
  rcases h with h | ⟨p, vs, ds, rfl, e, _⟩
  · cases h
    rfl
  · cases e
theorem OdOk.tup {x : V} {ds : List D} (h : OdOk K w x (.d (.tuple ds))) : ∃ p vs, x = .ref p ∧ w.G p = some (.tup vs) ∧ RpAll K w.G vs ds := by
  rcases h with h | ⟨p, vs, ds, rfl, e, _⟩
  · cases h with
    | tup a b => exact ⟨_, _, rfl, a, b⟩
  · cases e
theorem OdOk.list {x : V} {ds : List D} (hx : Same w.G w.H) (h : OdOk K w x (.d (.list ds))) : ∃ p vs, x = .ref p ∧ SqL K w.H p vs ∧ RpAll K w.G vs ds := by
  rcases h with h | ⟨p, vs, ds, rfl, e, hv, ra⟩
  · cases h with
    | lst a b => exact ⟨_, _, rfl, hx.seq a, b⟩
  · cases e
    exact ⟨p, vs, rfl, SqL.of hv, ra⟩
theorem OdOk.dict {x : V} {es : List (D × D)} (hx : Same w.G w.H) (h : OdOk K w x (.d (.dict es))) (nt : isTag es = false) : ∃ p ws, x = .ref p ∧ w.H p = some (.dK ws) ∧ RpKv K w.G ws es := by
  rcases h with h | ⟨p, vs, ds, rfl, e, hv, ra⟩
  · cases h with
    | dct a b => exact ⟨_, _, rfl, hx _ _ a, b⟩
    | dctT a b => cases nt
  · cases e
theorem Gr.trans {w w1 w2 : Wd} (a : Gr w w1) (b : Gr w1 w2) : Gr w w2 := ⟨b.r.trans a.r, b.f.trans a.f, a.g.trans b.g, a.h.trans b.h, fun h => b.e (a.e h), fun p o e nt g => b.n p o (a.h _ _ e) nt (a.n p o e nt g), fun h => b.t (a.t h)⟩
end
end Vm
namespace Vm
open PySem L2
section
variable {K : Fg} {w : Wd}
/-! ### reading the whole heap: Reads of what stands for data -/
mutual
theorem Rp.reads {X : Cx} {pins : List (Addr × Obj)} {σ : St} {H : Hp} {s : Shared} (I : Inv X pins σ H s) : ∀ (d : PyData) (v : V) (u : Value), d.plain = true → Rp X.K H v d → RelV v u → ∃ as, Reads s.heap u d as
  | .none, _, _, _, h, r => by
    cases h
    cases r
    exact ⟨_, Reads.none⟩
  | .bool b, _, _, _, h, r => by
    cases h
    cases r
    exact ⟨_, Reads.bool b⟩
  | .int i, _, _, _, h, r => by
    cases h
    obtain ⟨t, rfl⟩ := r
    exact ⟨_, Reads.int i t⟩
  | .str x, _, _, _, h, r => by
    cases h
    obtain ⟨t, rfl⟩ := r
    exact ⟨_, Reads.str x t⟩
  | .list ds, _, _, hp, h, r => by
    cases h with
    | lst hs ha =>
      cases r
      obtain ⟨its, rv, ⟨o, n, ho, hc, _, hd⟩, _⟩ := I.list hs
      obtain ⟨as, hr⟩ := RpAll.reads I ds _ its (by simpa [PyData.plain] using hp) ha rv
      exact ⟨_, Reads.list ho hc hd hr⟩
  | .tuple ds, _, _, hp, h, r => by
    cases h with
    | tup hs ha =>
      cases r
      obtain ⟨its, rv, ⟨o, ho, hc, n, hd⟩, _⟩ := I.tuple (SqT.of (K := X.K) hs)
      obtain ⟨as, hr⟩ := RpAll.reads I ds _ its (by simpa [PyData.plain] using hp) ha rv
      exact ⟨_, Reads.tuple ho hc hd hr⟩
  | .dict _, _, _, hp, _, _ => by simp [PyData.plain] at hp
theorem RpAll.reads {X : Cx} {pins : List (Addr × Obj)} {σ : St} {H : Hp} {s : Shared} (I : Inv X pins σ H s) : ∀ (ds : List PyData) (vs : List V) (us : List Value), PyData.plainAll ds = true → RpAll X.K H vs ds → Vals vs us → ∃ as, ReadsAll s.heap us ds as
  | [], _, _, _, h, r => by
    cases h
    cases r
    exact ⟨_, ReadsAll.nil⟩
  | d :: ds, _, _, hp, h, r => by
    have hp' : d.plain = true ∧ PyData.plainAll ds = true := by simpa [PyData.plainAll] using hp
    cases h with
    | cons h1 h2 =>
      cases r with
      | cons r1 r2 =>
        obtain ⟨as, q1⟩ := Rp.reads I d _ _ hp'.1 h1 r1
        obtain ⟨bs, q2⟩ := RpAll.reads I ds _ _ hp'.2 h2 r2
        exact ⟨_, ReadsAll.cons q1 q2⟩
end
end
section
variable {X : Cx} {ec : EC} {W : WX}
/-- the judgement: the expression does what the closure does -/
abbrev Ex (X : Cx) (ec : EC) (W : WX) (e : Expr) (c : CE) : Prop := PE X e (rd X.K ec W c)
abbrev Tx (X : Cx) (ec : EC) (W : WX) (e : Expr) (c : CT) : Prop := PT X e (rdT X.K ec W c)
/-! ### names, constants -/
def cVar (i : Nat) : CE := fun s => match s.v[i]? with
  | some (.d x) => .ok (.d x) s
  | some (.c n) => .ok (.ref n) s
  | some (.t b es) => .ok (.t b es) s
  | _ => .bad
theorem e_var (i : Nat) {x : Str} {pos : Pos} (hN : X.N[i]? = some x := by rfl) (hv : Vis X.env.scope x := by first | exact Or.inl rfl | exact Or.inr (Or.inl rfl) | exact Or.inr (Or.inr rfl)) (hd : (x == ("__debug__" : Str)) = false := by decide)
    (hcd : (x == ("__classdict__" : Str)) = false := by decide) : Ex X ec W (.Name x pos) (cVar i) := (pe_var hN hv hd hcd).imp fun σ H Q h => by
  obtain ⟨w, s, rfl, hr, h⟩ := h
  unfold cVar at h
  split at h
  · rename_i y e
    obtain ⟨v, e2, rp⟩ := hr.slot i _ e
    exact ⟨v, e2, h v w (Le.refl w) hr rp .d⟩
  · rename_i n e
    obtain ⟨p, e2, rp⟩ := hr.slot i _ e
    exact ⟨.ref p, e2, h (.ref p) w (Le.refl w) hr ⟨p, rfl, rp⟩ .ref⟩
  · rename_i b es e
    obtain ⟨v, e2, rp⟩ := hr.slot i _ e
    exact ⟨v, e2, h v w (Le.refl w) hr rp .t⟩
  · exact h.elim
def cC (d : D) : CE := fun s => .ok (.d d) s
theorem e_const {v : V} {d : D} {e : Expr} (he : PE X e (tC v)) (hd : ∀ H, Rp X.K H v d) : Ex X ec W e (cC d) := he.imp fun σ H Q h => by
  obtain ⟨w, s, rfl, hr, h⟩ := h
  exact h v w (Le.refl w) hr (hd _) .d
theorem e_int {i j pos} : Ex X ec W (.Constant (.int i) j pos) (cC (.int i)) := e_const pe_int fun _ => .int i
theorem e_bool {i j pos} : Ex X ec W (.Constant (.bool i) j pos) (cC (.bool i)) := e_const pe_bl fun _ => .bl i
theorem e_none {j pos} : Ex X ec W (.Constant .none j pos) (cC .none) := e_const pe_non fun _ => .non
theorem e_str {i j pos} : Ex X ec W (.Constant (.str i) j pos) (cC (.str i)) := e_const pe_str fun _ => .str i
/-! ### argument lists that become data -/
abbrev CA := S → R (List D)
def cNil : CA := fun s => .ok [] s
def cCons (c : CE) (ca : CA) : CA := fun s => (cv c s).bind fun a s1 => match a with
  | .d x => (ca s1).bind fun xs s2 => .ok (x :: xs) s2
  | _ => .bad
def rdA (K : Fg) (ec : EC) (W : WX) (c : CA) : TA := fun σ H Q => ∃ w s, w.H = H ∧ Rel ec K w σ s ∧ Res (fun ds s' => ∀ vs w', Le w w' → Rel ec K w' σ s' → RpAll K w'.G vs ds → Q vs w'.H) (okE K ec W σ w) (c s)
theorem _root_.L2.PA.imp {X : Cx} {es : List Expr} {t t' : TA} (h : PA X es t) (i : ∀ σ H Q, t' σ H Q → t σ H Q) : PA X es t' := ⟨fun pos pins s σ H Q I q => h.run pos pins s σ H Q I (i _ _ _ q)⟩
theorem a_nil : PA X [] (rdA X.K ec W cNil) := PA.imp pa_nil fun σ H Q h => by
  obtain ⟨w, s, rfl, hr, h⟩ := h
  exact h [] w (Le.refl w) hr .nil
theorem a_cons {e : Expr} {es : List Expr} {c : CE} {ca : CA} (h1 : Ex X ec W e c) (h2 : PA X es (rdA X.K ec W ca)) (hs : starEach (e :: es) X.env = (false, eval e X.env) :: starEach es X.env := by rfl) : PA X (e :: es) (rdA X.K ec W (cCons c ca)) :=
  PA.imp (pa_cons h1 h2 hs) fun σ H Q h => by
    obtain ⟨w, s, rfl, hr, h⟩ := h
    show rd X.K ec W c σ w.H _
    refine run_cv hr h fun x w1 s1 a le1 hr1 ha hn h1 => ?_
    cases a with
    | ref n => exact h1.elim
    | t _ _ => exact h1.elim
    | new c => exact absurd rfl (hn c)
    | d y =>
      refine ⟨w1, s1, rfl, hr1, ?_⟩
      refine Res.mono h1.bind (fun ds s2 h2 vs w2 le2 hr2 rp => ?_) fun _ _ q => okE_le le1 q
      exact h2 (x :: vs) w2 (le1.trans le2) hr2 (.cons (Rp.mono le2.g _ _ ha) rp)
def cTup (ca : CA) : CE := fun s => (ca s).bind fun ds s1 => .ok (.d (.tuple ds)) s1
def cLst (ca : CA) : CE := fun s => (ca s).bind fun ds s1 => .ok (.new (.l ds)) s1
theorem sz1000 {n : Nat} (h : n ≤ 1000) : n ≤ sizeLine := Nat.le_trans h (by decide)
theorem e_tup {es : List Expr} {ca : CA} {x1} {pos : Pos} (h : PA X es (rdA X.K ec W ca)) (hl : ∀ s ds s', ca s = .ok ds s' → ds.length ≤ 1000) : Ex X ec W (.Tuple es x1 pos) (cTup ca) := (pe_tup h).imp fun σ H Q h => by
  obtain ⟨w, s, rfl, hr, h⟩ := h
  refine ⟨w, s, rfl, hr, ?_⟩
  unfold cTup at h
  cases e : ca s with
  | bad => rw [e] at h; exact h
  | ex n s' => rw [e] at h; exact h
  | ok ds s' =>
    rw [e] at h
    intro vs w' le r' rp
    have hz : vs.length ≤ sizeLine := by
      rw [rp.length]
      exact sz1000 (hl _ _ _ e)
    exact ⟨hz, fun p hp => post_tup (post_of r' fun z w2 le2 r2 o f => h z w2 (le.trans le2) r2 o (f.back le le2 o)) rp hp r'.mem.ext⟩
theorem e_lst {es : List Expr} {ca : CA} {pos : Pos} (h : PA X es (rdA X.K ec W ca)) (hl : ∀ s ds s', ca s = .ok ds s' → ds.length ≤ 1000) : Ex X ec W (.List es pos) (cLst ca) := (pe_lst h).imp fun σ H Q h => by
  obtain ⟨w, s, rfl, hr, h⟩ := h
  refine ⟨w, s, rfl, hr, ?_⟩
  unfold cLst at h
  cases e : ca s with
  | bad => rw [e] at h; exact h
  | ex n s' => rw [e] at h; exact h
  | ok ds s' =>
    rw [e] at h
    intro vs w' le r' rp
    have hz : vs.length ≤ sizeLine := by
      rw [rp.length]
      exact sz1000 (hl _ _ _ e)
    exact ⟨hz, fun p hp => post_lst (post_of r' fun z w2 le2 r2 o f => h z w2 (le.trans le2) r2 o (f.back le le2 o)) rp hp r'.mem.ext⟩
/-- a written list of arguments has its length -/
def CLen (n : Nat) (ca : CA) : Prop := ∀ s ds s', ca s = .ok ds s' → ds.length = n
theorem cl_nil : CLen 0 cNil := fun s ds s' e => by
  cases e
  rfl
theorem cl_cons {n : Nat} {c : CE} {ca : CA} (h : CLen n ca) : CLen (n + 1) (cCons c ca) := fun s ds s' e => by
  unfold cCons at e
  cases e1 : cv c s with
  | bad => rw [e1] at e; cases e
  | ex _ _ => rw [e1] at e; cases e
  | ok a s1 =>
    rw [e1] at e
    cases a with
    | ref _ => cases e
    | t _ _ => cases e
    | new _ => cases e
    | d x =>
      simp only [R.bind] at e
      cases e2 : ca s1 with
      | bad => rw [e2] at e; cases e
      | ex _ _ => rw [e2] at e; cases e
      | ok xs s2 =>
        rw [e2] at e
        cases e
        show xs.length + 1 = n + 1
        rw [h _ _ _ e2]
theorem CLen.le {n : Nat} {ca : CA} (h : CLen n ca) (hn : n ≤ 1000) : ∀ s ds s', ca s = .ok ds s' → ds.length ≤ 1000 := fun s ds s' e => by
  rw [h s ds s' e]
  exact hn
/-! ### tests -/
def truthy : Od → Option Bool
  | .d .none => some false
  | .d (.bool b) => some b
  | .d (.int i) => some (i != 0)
  | .d (.list ds) => some (!ds.isEmpty)
  | .d (.tuple ds) => some (!ds.isEmpty)
  | .c (.k kvs) => some (!kvs.isEmpty)
  | _ => none
def cTru (c : CE) : CT := fun s => (cv c s).bind fun a s1 => opt (a.od s1.m) fun o => opt (truthy o) fun b => .ok b s1
theorem isEmpty_len {α β : Type} {xs : List α} {ys : List β} (h : xs.length = ys.length) : xs.isEmpty = ys.isEmpty := by
  cases xs <;> cases ys <;> simp_all
theorem paired_len {α β : Type} {F : α → β → Prop} {xs : List α} {ys : List β} (h : Paired F xs ys) : xs.length = ys.length := Paired.length h
theorem truthy_ok {K : Fg} {w : Wd} {x : V} {o : Od} {b : Bool} (hx : Same w.G w.H) (h : OdOk K w x o) (e : truthy o = some b) : TruV K x w.H b := by
  unfold truthy at e
  split at e
  · cases e
    rw [h.none]
    exact rfl
  · cases e
    rw [h.bool]
    exact rfl
  · cases e
    rw [h.int]
    exact rfl
  · cases e
    obtain ⟨p, vs, rfl, hs, ra⟩ := h.list hx
    exact .inl ⟨vs, hs, by rw [isEmpty_len ra.length]⟩
  · cases e
    obtain ⟨p, vs, rfl, hs, ra⟩ := h.tup
    exact .inr (.inl ⟨vs, SqT.of (hx _ _ hs), by rw [isEmpty_len ra.length]⟩)
  · cases e
    obtain ⟨p, rfl, ⟨_, ws, hw, ra⟩, _⟩ := h
    exact .inr (.inr ⟨ws, hw, by rw [isEmpty_len (paired_len ra)]⟩)
  · cases e
theorem t_of {e : Expr} {c : CE} (h : Ex X ec W e c) (he : ∀ whole, isTrue e X.env whole = (do let v ← whole; standAt e.pos; holding [v] (PySem.truthy v)) := by intro _; rfl) : Tx X ec W e (cTru c) :=
  (pt_truth h he).imp fun σ H Q h => by
    obtain ⟨w, s, rfl, hr, h⟩ := h
    refine run_cv hr h fun x w1 s1 a le1 hr1 ha hn h1 => ?_
    obtain ⟨o, e1, h2⟩ := h1.opt
    obtain ⟨b, e2, h3⟩ := h2.opt
    exact ⟨b, truthy_ok hr1.mem.ext (od_of hr1 ha e1) e2, h3 w1 le1 hr1⟩
def tAnd' (a b : CT) : CT := fun s => (a s).bind fun x s1 => if x = true then b s1 else .ok false s1
def tOr' (a b : CT) : CT := fun s => (a s).bind fun x s1 => if x = true then .ok true s1 else b s1
def tNot' (a : CT) : CT := fun s => (a s).bind fun x s1 => .ok (!x) s1
abbrev Px (X : Cx) (ec : EC) (W : WX) (e : Expr) (c : CT) : Prop := PW X e (rdT X.K ec W c)
theorem _root_.L2.PW.imp {X : Cx} {e : Expr} {t t' : TT} (h : PW X e t) (i : ∀ σ H Q, t' σ H Q → t σ H Q) : PW X e t' := ⟨fun wh pins s σ H Q I q => h.run wh pins s σ H Q I (i _ _ _ q)⟩
theorem p_and1 {a : Expr} {c : CT} {pos : Pos} (ha : Tx X ec W a c) : Px X ec W (.BoolOp .And [a] pos) c := pw_and1 ha
theorem p_or1 {a : Expr} {c : CT} {pos : Pos} (ha : Tx X ec W a c) : Px X ec W (.BoolOp .Or [a] pos) c := pw_or1 ha
theorem run_t {K : Fg} {σ : St} {w : Wd} {s : S} {α : Type} {c : CT} {k : Bool → S → R α} {P : α → S → Prop} {Q : Bool → Hp → Prop} (hr : Rel ec K w σ s) (h : Res P (okE K ec W σ w) ((c s).bind k))
    (hk : ∀ b w1 s1, Le w w1 → Rel ec K w1 σ s1 → Res P (okE K ec W σ w) (k b s1) → Q b w1.H) : rdT K ec W c σ w.H Q := by
  refine ⟨w, s, rfl, hr, ?_⟩
  cases e : c s with
  | bad => rw [e] at h; exact h
  | ex n s' => rw [e] at h; exact h
  | ok b s' =>
    rw [e] at h
    exact fun w' le r' => hk b w' s' le r' h
theorem p_and {a b : Expr} {rest : List Expr} {c d : CT} {pos : Pos} (ha : Tx X ec W a c) (hb : Px X ec W (.BoolOp .And (b :: rest) pos) d) : Px X ec W (.BoolOp .And (a :: b :: rest) pos) (tAnd' c d) := PW.imp (pw_and ha hb) fun σ H Q h => by
  obtain ⟨w, s, rfl, hr, h⟩ := h
  refine run_t hr h fun x w1 s1 le1 hr1 h1 => ?_
  cases x with
  | true => exact iteT ⟨w1, s1, rfl, hr1, FinT.le le1 h1⟩
  | false => exact iteF (h1 w1 le1 hr1)
theorem p_or {a b : Expr} {rest : List Expr} {c d : CT} {pos : Pos} (ha : Tx X ec W a c) (hb : Px X ec W (.BoolOp .Or (b :: rest) pos) d) : Px X ec W (.BoolOp .Or (a :: b :: rest) pos) (tOr' c d) := PW.imp (pw_or ha hb) fun σ H Q h => by
  obtain ⟨w, s, rfl, hr, h⟩ := h
  refine run_t hr h fun x w1 s1 le1 hr1 h1 => ?_
  cases x with
  | true => exact iteT (h1 w1 le1 hr1)
  | false => exact iteF ⟨w1, s1, rfl, hr1, FinT.le le1 h1⟩
theorem t_bop {e : Expr} {c : CT} (h : Px X ec W e c) : Tx X ec W e c := h.pt
theorem t_not {a : Expr} {c : CT} {pos : Pos} (ha : Tx X ec W a c) : Tx X ec W (.UnaryOp .Not a pos) (tNot' c) := (pt_not ha).imp fun σ H Q h => by
  obtain ⟨w, s, rfl, hr, h⟩ := h
  exact run_t hr h fun x w1 s1 le1 hr1 h1 => h1 w1 le1 hr1
/-! ### as values: and, or, not; a if t else b -/
def cB (c : CE) : CT := fun s => (cv c s).bind fun a s1 => match a with
  | .d (.bool b) => .ok b s1
  | _ => .bad
def cAnd (a b : CE) : CE := fun s => (cB a s).bind fun x s1 => if x = true then b s1 else .ok (.d (.bool false)) s1
def cOr (a b : CE) : CE := fun s => (cB a s).bind fun x s1 => if x = true then .ok (.d (.bool true)) s1 else b s1
def cNot (a : CE) : CE := fun s => (cB a s).bind fun x s1 => .ok (.d (.bool (!x))) s1
theorem run_b {K : Fg} {σ : St} {w : Wd} {s : S} {α : Type} {c : CE} {k : Bool → S → R α} {P : α → S → Prop} {Q : VK} (hr : Rel ec K w σ s) (h : Res P (okE K ec W σ w) ((cB c s).bind k))
    (hk : ∀ b w1 s1, Le w w1 → Rel ec K w1 σ s1 → Res P (okE K ec W σ w) (k b s1) → Q (.bl b) w1.H) : rd K ec W c σ w.H Q := by
  have h' : Res P (okE K ec W σ w) ((cv c s).bind fun a s1 => (match a with
    | .d (.bool b) => R.ok b s1
    | _ => R.bad).bind k) := by
    unfold cB at h
    cases e : cv c s with
    | bad => rw [e] at h; exact h
    | ex n s' => rw [e] at h; exact h
    | ok a s' => rw [e] at h; exact h
  refine run_cv hr h' fun x w1 s1 a le1 hr1 ha hn h1 => ?_
  cases a with
  | ref n => exact h1.elim
  | t _ _ => exact h1.elim
  | new c => exact h1.elim
  | d y =>
    cases y with
    | bool b =>
      have e : x = .bl b := by
        have ha : Rp K w1.G x (.bool b) := ha
        cases ha
        rfl
      rw [e]
      exact hk b w1 s1 le1 hr1 h1
    | none => exact h1.elim
    | int _ => exact h1.elim
    | str _ => exact h1.elim
    | list _ => exact h1.elim
    | tuple _ => exact h1.elim
    | dict _ => exact h1.elim
theorem e_one {op} {a : Expr} {c : CE} {pos : Pos} (ha : Ex X ec W a c) : Ex X ec W (.BoolOp op [a] pos) c := pe_one ha
theorem e_and {a b : Expr} {rest : List Expr} {c d : CE} {pos : Pos} (ha : Ex X ec W a c) (hb : Ex X ec W (.BoolOp .And (b :: rest) pos) d) : Ex X ec W (.BoolOp .And (a :: b :: rest) pos) (cAnd c d) := (pe_and ha hb).imp fun σ H Q h => by
  obtain ⟨w, s, rfl, hr, h⟩ := h
  refine run_b hr h fun x w1 s1 le1 hr1 h1 => ⟨x, rfl, ?_⟩
  cases x with
  | true => exact iteT ⟨w1, s1, rfl, hr1, FinV.le le1 h1⟩
  | false => exact iteF (h1 (.bl false) w1 le1 hr1 (.bl false) .d)
theorem e_not {a : Expr} {c : CE} {pos : Pos} (ha : Ex X ec W a c) : Ex X ec W (.UnaryOp .Not a pos) (cNot c) := (pe_not ha).imp fun σ H Q h => by
  obtain ⟨w, s, rfl, hr, h⟩ := h
  exact run_b hr h fun x w1 s1 le1 hr1 h1 => ⟨x, rfl, h1 (.bl (!x)) w1 le1 hr1 (.bl _) .d⟩
def cIf (t : CT) (a b : CE) : CE := fun s => (t s).bind fun x s1 => if x = true then a s1 else b s1
/-! ### operators, calls by values -/
theorem e_bin {op : Operator} {a b : Expr} {ca cb : CE} {r : R2} {f : Od → Od → Option Rv} {pos : Pos} (ho : OpR X (binaryOp op) r) (hs : Op2S X.K r f) (ha : Ex X ec W a ca) (hb : Ex X ec W b cb) : Ex X ec W (.BinOp a op b pos) (cOp2 f ca cb) :=
  (pe_op ho ha hb).imp fun _ _ _ h => op2 hs h
theorem e_cmp {op : CmpOp} {a b : Expr} {ca cb : CE} {r : R2} {f : Od → Od → Option Rv} {pos : Pos} (ho : OpR X (compareOp op) r) (hs : Op2S X.K r f) (ha : Ex X ec W a ca) (hb : Ex X ec W b cb) (hm : behindInMarks op b = false := by first | exact nomark _ | rfl) : Ex X ec W (.Compare a [op] [b] pos) (cOp2 f ca cb) :=
  (pe_cmpR ho ha hb hm).imp fun _ _ _ h => op2 hs h
theorem e_un {op : UnaryOp} {a : Expr} {ca : CE} {r : V → Hp → VK → Prop} {f : Od → Option Rv} {pos : Pos} (ho : UnR X (unaryOp op) r) (hs : Op1S X.K r f) (ha : Ex X ec W a ca) : Ex X ec W (.UnaryOp op a pos) (cOp1 f ca) :=
  (pe_un ho ha).imp fun _ _ _ h => op1 hs h
theorem e_ixR {a b : Expr} {ca cb : CE} {r : R2} {f : Od → Od → Option Rv} {pos : Pos} (hr : IxR X r) (hs : Op2S X.K r f) (ha : Ex X ec W a ca) (hb : Ex X ec W b cb) (hp : PlainIx b := by exact fun _ _ => rfl) : Ex X ec W (.Subscript a b pos) (cOp2 f ca cb) :=
  (pe_ix hr ha hb hp).imp fun _ _ _ h => op2 hs h
theorem e_call1 {id : String} {x : Str} {a : Expr} {ca : CE} {r : List V → Hp → VK → Prop} {f : Od → Option Rv} {p pos : Pos} (hc : CallR X (.builtin id) r) (hs : Op1S X.K (fun v => r [v]) f) (hm : X.mg x = none) (hv : bootBuiltins x = some (.builtin id)) (ha : Ex X ec W a ca)
    (hg : Gl X x := by rfl) (hn : x ≠ "__name__" := by decide) (hd : (x == ("__debug__" : Str)) = false := by decide) (h1 : starEach [a] X.env = (false, eval a X.env) :: starEach [] X.env := by rfl) (h2 : (backTo pos (starEach [] X.env)).any (·.1) = false := by rfl) : Ex X ec W (.Call (.Name x p) [a] [] pos) (cOp1 f ca) :=
  (pe_callB hc hg hm hv (pa_cons ha pa_nil h1) hn hd h1 h2).imp fun _ _ _ h => op1 hs h
theorem e_callT1 {T : String} {x : Str} {a : Expr} {ca : CE} {r : List V → Hp → VK → Prop} {f : Od → Option Rv} {p pos : Pos} (hc : CallR X (.type T) r) (hs : Op1S X.K (fun v => r [v]) f) (hm : X.mg x = none) (hv : bootBuiltins x = some (.type T)) (ha : Ex X ec W a ca)
    (hg : Gl X x := by rfl) (hn : x ≠ "__name__" := by decide) (hd : (x == ("__debug__" : Str)) = false := by decide) (h1 : starEach [a] X.env = (false, eval a X.env) :: starEach [] X.env := by rfl) (h2 : (backTo pos (starEach [] X.env)).any (·.1) = false := by rfl) : Ex X ec W (.Call (.Name x p) [a] [] pos) (cOp1 f ca) :=
  (pe_callTy hc hg hm hv (pa_cons ha pa_nil h1) hn hd h1 h2).imp fun _ _ _ h => op1 hs h
end
end Vm
namespace Vm
open PySem L2 PySem.W PyProof.Rows
theorem rp_ints {K : Fg} {H : Hp} : ∀ {ns : List Int} {vs : List V}, RpAll K H vs (ns.map PyData.int) → vs = ns.map V.int
  | [], _, h => by
    cases h
    rfl
  | n :: ns, _, h => by
    cases h with
    | cons h1 h2 =>
      cases h1
      rw [rp_ints h2]
      rfl
theorem rp_bools {K : Fg} {H : Hp} : ∀ {ns : List Bool} {vs : List V}, RpAll K H vs (ns.map PyData.bool) → vs = ns.map V.bl
  | [], _, h => by
    cases h
    rfl
  | n :: ns, _, h => by
    cases h with
    | cons h1 h2 =>
      cases h1
      rw [rp_bools h2]
      rfl
theorem rpAll_ints {K : Fg} {H : Hp} : ∀ ns : List Int, RpAll K H (ns.map V.int) (ns.map PyData.int)
  | [] => .nil
  | n :: ns => .cons (.int n) (rpAll_ints ns)
/-- all ints -/
def ints? : List D → Option (List Int)
  | [] => some []
  | .int i :: r => match ints? r with
    | some l => some (i :: l)
    | none => none
  | _ :: _ => none
def bools? : List D → Option (List Bool)
  | [] => some []
  | .bool i :: r => match bools? r with
    | some l => some (i :: l)
    | none => none
  | _ :: _ => none
theorem ints?_eq : ∀ {ds : List D} {ns : List Int}, ints? ds = some ns → ds = ns.map PyData.int
  | [], ns, h => by
    cases h
    rfl
  | .int i :: r, ns, h => by
    unfold ints? at h
    split at h
    · rename_i l e
      cases h
      rw [ints?_eq e]
      rfl
    · cases h
  | .none :: _, _, h => by cases h
  | .bool _ :: _, _, h => by cases h
  | .str _ :: _, _, h => by cases h
  | .list _ :: _, _, h => by cases h
  | .tuple _ :: _, _, h => by cases h
  | .dict _ :: _, _, h => by cases h
theorem bools?_eq : ∀ {ds : List D} {ns : List Bool}, bools? ds = some ns → ds = ns.map PyData.bool
  | [], ns, h => by
    cases h
    rfl
  | .bool i :: r, ns, h => by
    unfold bools? at h
    split at h
    · rename_i l e
      cases h
      rw [bools?_eq e]
      rfl
    · cases h
  | .none :: _, _, h => by cases h
  | .int _ :: _, _, h => by cases h
  | .str _ :: _, _, h => by cases h
  | .list _ :: _, _, h => by cases h
  | .tuple _ :: _, _, h => by cases h
  | .dict _ :: _, _, h => by cases h
theorem ints?_map : ∀ ns : List Int, ints? (ns.map PyData.int) = some ns
  | [] => rfl
  | n :: ns => by
    show (match ints? (ns.map PyData.int) with
      | some l => some (n :: l)
      | none => none) = _
    rw [ints?_map ns]
section
variable {X : Cx}
/-! ### + -/
def rCatV (K : Fg) : R2 := fun x y H Q => ∃ l b xs zs, x = .ref l ∧ y = .ref b ∧ SqL K H l xs ∧ SqL K H b zs ∧ xs.length + zs.length ≤ sizeLine ∧ ∀ p, H p = none → Q (.ref p) (upd H p (.lst (xs ++ zs)))
theorem op_catV : OpR X (binaryOp .Add) (rCatV X.K) := by
  intro pins s σ H x y v u Q I rx ry h
  obtain ⟨l, b, xs, zs, rfl, rfl, hH, hB, hz, q⟩ := h
  cases rx
  cases ry
  obtain ⟨its, r, pl, _⟩ := I.list hH
  obtain ⟨its2, r2, pl2, _⟩ := I.list hB
  obtain ⟨⟨cls, dd, data, sl⟩, n, ho, hc, hdd, hd⟩ := pl
  obtain ⟨⟨cls2, dd2, data2, sl2⟩, n2, ho2, hc2, hdd2, hd2⟩ := pl2
  simp only at hc hd hc2 hd2 hdd hdd2
  subst hc hd hc2 hd2
  have e : its.toArray ++ its2.toArray = (its ++ its2).toArray := by simp
  have hsz : its.length + its2.length ≤ sizeLine := by rw [← r.length, ← r2.length]; exact hz
  refine concat_meets ⟨_, ho, rfl⟩ ⟨_, ho2, rfl⟩ noFill_list_add seq_list_add PySem.F.slot_list_add PySem.F.entry_list_add (PySem.F.args_list_add_2 _ _) (list_addW l b its.toArray its2.toArray n n2 dd dd2 sl sl2 (by simpa using hsz)) ⟨ho, ho2, ?_⟩
  rw [e]
  exact ⟨.ref _, _, I.lnew (t' := s.toks) (r.append r2) (by rw [List.length_append]; omega), rfl, q _ I.fresh⟩
def rStrCat : R2 := fun x y H Q => ∃ i j, x = .str i ∧ y = .str j ∧ i.length + j.length ≤ sizeLine ∧ Q (.str (i ++ j)) H
def rAdd (K : Fg) : R2 := fun x y H Q => (rI0 fun i j => .int (i + j)) x y H Q ∨ rStrCat x y H Q ∨ rCatA K x y H Q ∨ rCatV K x y H Q
theorem or_add : OpR X (binaryOp .Add) (rAdd X.K) := OpR.or op_add (OpR.or op_add_str (OpR.or op_catA op_catV))
def opAdd : Od → Od → Option Rv
  | .d (.int i), .d (.int j) => some (.d (.int (i + j)))
  | .d (.str x), .d (.str y) => if x.length + y.length ≤ 16000000 then some (.d (.str (x ++ y))) else none
  | .d (.tuple xs), .d (.tuple ys) => if xs.length + ys.length ≤ 16000000 then some (.d (.tuple (xs ++ ys))) else none
  | .d (.list xs), .d (.list ys) => if xs.length + ys.length ≤ 16000000 then some (.new (.l (xs ++ ys))) else none
  | _, _ => none
theorem sz16 {n : Nat} (h : n ≤ 16000000) : n ≤ sizeLine := Nat.le_trans h (by decide)
theorem s_add {K : Fg} : Op2S K (rAdd K) opAdd := by
  intro w x y o o' rv Q hx h h' e q
  unfold opAdd at e
  split at e
  · cases e
    exact .inl ⟨_, _, h.int, h'.int, post_int q⟩
  · split at e
    · rename_i hl
      cases e
      exact .inr (.inl ⟨_, _, h.str, h'.str, sz16 hl, post_str q⟩)
    · cases e
  · split at e
    · rename_i xs ys hl
      cases e
      obtain ⟨p, vs, rfl, hs, ra⟩ := h.tup
      obtain ⟨p', vs', rfl, hs', ra'⟩ := h'.tup
      refine .inr (.inr (.inl ⟨p, p', vs, vs', rfl, rfl, SqT.of (hx _ _ hs), SqT.of (hx _ _ hs'), by rw [ra.length, ra'.length]; exact sz16 hl, fun e0 => ?_, fun _ e0 => ?_, fun _ _ a ha => post_tup q (ra.append ra') ha hx⟩))
      · subst e0
        cases ra
        exact post_d q (.tup hs' ra')
      · subst e0
        cases ra'
        rw [List.append_nil] at q
        exact post_d q (.tup hs ra)
    · cases e
  · split at e
    · rename_i xs ys hl
      cases e
      obtain ⟨p, vs, rfl, hs, ra⟩ := h.list hx
      obtain ⟨p', vs', rfl, hs', ra'⟩ := h'.list hx
      exact .inr (.inr (.inr ⟨p, p', vs, vs', rfl, rfl, hs, hs', by rw [ra.length, ra'.length]; exact sz16 hl, fun a ha => post_lst q (ra.append ra') ha hx⟩))
    · cases e
  · cases e
/-! ### - * // % ** on ints -/
def opSub : Od → Od → Option Rv
  | .d (.int i), .d (.int j) => some (.d (.int (i - j)))
  | _, _ => none
theorem s_sub {K : Fg} : Op2S K (rI0 fun i j => .int (i - j)) opSub := by
  intro w x y o o' rv Q hx h h' e q
  unfold opSub at e
  split at e
  · cases e
    exact ⟨_, _, h.int, h'.int, post_int q⟩
  · cases e
def mulOk (i j : Int) : Bool := decide (i.natAbs.log2 + j.natAbs.log2 < 100000000)
theorem mulOk_ok {i j : Int} (h : mulOk i j = true) : IntMulOk i j := by
  have h := of_decide_eq_true h
  have b : ∀ x : Int, Builtin.Int.intBits x ≤ x.natAbs.log2 + 1 := fun x => by
    unfold Builtin.Int.intBits
    split <;> omega
  have h1 := b i
  have h2 := b j
  have e : bitsLine = 134217728 := by decide
  unfold IntMulOk
  intro z
  rw [Bool.and_eq_true] at z
  have z2 := z.2
  unfold Builtin.Int.intTooBig at z2
  have z3 := of_decide_eq_true z2
  rw [e] at z3
  omega
theorem op_mulV : OpR X (binaryOp .Mult) (rI (fun i j => mulOk i j = true) fun i j => .int (i * j)) := opI fun _ _ _ _ _ _ _ hc q => mul_int q (mulOk_ok hc)
def rRepV (K : Fg) : R2 := fun x y H Q => ∃ l k xs, x = .ref l ∧ y = .int k ∧ SqL K H l xs ∧ -(2 ^ 63) ≤ k ∧ k < 2 ^ 63 ∧ xs.length * k.toNat ≤ sizeLine ∧ ∀ p, H p = none → Q (.ref p) (upd H p (.lst (List.replicate k.toNat xs).flatten))
theorem op_fdivV : OpR X (binaryOp .FloorDiv) (rI (fun _ j => j ≠ 0 ∧ j.natAbs.log2 < 9000) fun i j => .int (i.fdiv j)) := opI fun i j _ _ _ _ _ hc q => floordiv_int hc.1 q (.inl (PyProof.noPylong_of_log2 hc.2))
def fdv (i j : Int) : Int := if 0 < j then i / j else i.fdiv j
theorem fdv_eq (i j : Int) : i.fdiv j = fdv i j := by
  unfold fdv
  split
  · exact Int.fdiv_eq_ediv_of_nonneg i (by omega)
  · rfl
def fmd (i j : Int) : Int := if 0 < j then i % j else i.fmod j
theorem fmd_eq (i j : Int) : i.fmod j = fmd i j := by
  unfold fmd
  split
  · exact Int.fmod_eq_emod_of_nonneg i (by omega)
  · rfl
def opDiv : Od → Od → Option Rv
  | .d (.int i), .d (.int j) => if j ≠ 0 ∧ j.natAbs.log2 < 9000 then some (.d (.int (fdv i j))) else none
  | _, _ => none
theorem s_div {K : Fg} : Op2S K (rI (fun _ j => j ≠ 0 ∧ j.natAbs.log2 < 9000) fun i j => .int (i.fdiv j)) opDiv := by
  intro w x y o o' rv Q hx h h' e q
  unfold opDiv at e
  split at e
  · split at e
    · rename_i hm
      cases e
      rw [← fdv_eq] at q
      exact ⟨_, _, h.int, h'.int, hm, post_int q⟩
    · cases e
  · cases e
def opMod : Od → Od → Option Rv
  | .d (.int i), .d (.int j) => if j ≠ 0 then some (.d (.int (fmd i j))) else none
  | _, _ => none
theorem s_mod {K : Fg} : Op2S K (rI (fun _ j => j ≠ 0) fun i j => .int (i.fmod j)) opMod := by
  intro w x y o o' rv Q hx h h' e q
  unfold opMod at e
  split at e
  · split at e
    · rename_i hm
      cases e
      rw [← fmd_eq] at q
      exact ⟨_, _, h.int, h'.int, hm, post_int q⟩
    · cases e
  · cases e
def opPow : Od → Od → Option Rv
  | .d (.int i), .d (.int j) => if 0 ≤ j ∧ j ≤ 1000000 ∧ i.natAbs < 2 ^ 64 then some (.d (.int (i ^ j.toNat))) else none
  | _, _ => none
theorem s_pow {K : Fg} : Op2S K (rI CPow fun i j => .int (i ^ j.toNat)) opPow := by
  intro w x y o o' rv Q hx h h' e q
  unfold opPow at e
  split at e
  · split at e
    · rename_i hm
      cases e
      exact ⟨_, _, h.int, h'.int, hm, post_int q⟩
    · cases e
  · cases e
def opNeg : Od → Option Rv
  | .d (.int i) => some (.d (.int (-i)))
  | _ => none
theorem s_neg {K : Fg} : Op1S K (rU fun i => .int (-i)) opNeg := by
  intro w x o rv Q hx h e q
  unfold opNeg at e
  split at e
  · cases e
    exact ⟨_, h.int, post_int q⟩
  · cases e
/-! ### comparisons -/
/-- data without dicts, not deep -/
def okd (d : D) : Bool := d.plain && decide (d.depth ≤ 60)
theorem okd_iff {d : D} : okd d = true ↔ d.plain = true ∧ d.depth ≤ 60 := by
  unfold okd
  rw [Bool.and_eq_true, decide_eq_true_eq]
def rEqV (K : Fg) (neg : Bool) : R2 := fun x y H Q => ∃ d e, Rp K H x d ∧ Rp K H y e ∧ okd d = true ∧ okd e = true ∧ Q (.bl (if neg then !PyData.eqv d e else PyData.eqv d e)) H
theorem op_eqV (hu : X.A.units + 64 < cLine) : OpR X (compareOp .Eq) (rEqV X.K false) := by
  intro pins s σ H x y v u Q I rx ry h
  obtain ⟨d, e, hd, he, sd, se, q⟩ := h
  obtain ⟨pd, _⟩ := okd_iff.mp sd
  obtain ⟨pe, dl⟩ := okd_iff.mp se
  obtain ⟨as, r1⟩ := Rp.reads I d x v pd hd rx
  obtain ⟨bs, r2⟩ := Rp.reads I e y u pe he ry
  exact SeqAt.eq_plain r1 r2 pd pe (by omega) ⟨.bl _, H, I, rfl, q⟩
theorem op_neV (hu : X.A.units + 64 < cLine) : OpR X (compareOp .NotEq) (rEqV X.K true) := by
  intro pins s σ H x y v u Q I rx ry h
  obtain ⟨d, e, hd, he, sd, se, q⟩ := h
  obtain ⟨pd, _⟩ := okd_iff.mp sd
  obtain ⟨pe, dl⟩ := okd_iff.mp se
  obtain ⟨as, r1⟩ := Rp.reads I d x v pd hd rx
  obtain ⟨bs, r2⟩ := Rp.reads I e y u pe he ry
  exact SeqAt.ne_plain r1 r2 pd pe (by omega) ⟨.bl _, H, I, rfl, q⟩
def eqB : D → D → Option Bool
  | .int i, .int j => some (decide (i = j))
  | x, y => if okd x = true ∧ okd y = true then some (PyData.eqv x y) else none
def opEq : Od → Od → Option Rv
  | .d x, .d y => match eqB x y with
    | some b => some (.d (.bool b))
    | none => none
  | _, _ => none
def opNe : Od → Od → Option Rv
  | .d x, .d y => match eqB x y with
    | some b => some (.d (.bool (!b)))
    | none => none
  | _, _ => none
theorem eqB_ok {x y : D} {b : Bool} (h : eqB x y = some b) : okd x = true ∧ okd y = true ∧ PyData.eqv x y = b := by
  unfold eqB at h
  split at h
  · rename_i i j
    cases h
    refine ⟨rfl, rfl, ?_⟩
    show (i == j) = _
    exact Bool.beq_eq_decide_eq i j
  · split at h
    · rename_i hh
      cases h
      exact ⟨hh.1, hh.2, rfl⟩
    · cases h
theorem s_eq {K : Fg} : Op2S K (rEqV K false) opEq := by
  intro w x y o o' rv Q hx h h' e q
  unfold opEq at e
  split at e
  · split at e
    · rename_i b eb
      cases e
      obtain ⟨h1, h2, h3⟩ := eqB_ok eb
      refine ⟨_, _, h.rp hx, h'.rp hx, h1, h2, ?_⟩
      rw [if_neg (by decide), h3]
      exact post_bool q
    · cases e
  · cases e
theorem s_ne {K : Fg} : Op2S K (rEqV K true) opNe := by
  intro w x y o o' rv Q hx h h' e q
  unfold opNe at e
  split at e
  · split at e
    · rename_i b eb
      cases e
      obtain ⟨h1, h2, h3⟩ := eqB_ok eb
      refine ⟨_, _, h.rp hx, h'.rp hx, h1, h2, ?_⟩
      rw [if_pos rfl, h3]
      exact post_bool q
    · cases e
  · cases e
/-- <, >, <=, >= of data that are alike: f of «the first is less» and «the second is less» -/
def rOrd (K : Fg) (f : Bool → Bool → Bool) : R2 := fun x y H Q => ∃ d e, Rp K H x d ∧ Rp K H y e ∧ okd d = true ∧ okd e = true ∧ alike d e = true ∧ d ≠ .none ∧ Q (.bl (f (dataLt d e) (dataLt e d))) H
theorem op_ltV (hu : X.A.units + 64 < cLine) : OpR X (compareOp .Lt) (rOrd X.K fun a _ => a) := by
  intro pins s σ H x y v u Q I rx ry h
  obtain ⟨d, e, hd, he, sd, se, al, hn, q⟩ := h
  obtain ⟨pd, _⟩ := okd_iff.mp sd
  obtain ⟨pe, dl⟩ := okd_iff.mp se
  obtain ⟨as, r1⟩ := Rp.reads I d x v pd hd rx
  obtain ⟨bs, r2⟩ := Rp.reads I e y u pe he ry
  exact lt_data r1 r2 al hn (by omega) ⟨.bl _, H, I, rfl, q⟩
theorem op_gtV (hu : X.A.units + 64 < cLine) : OpR X (compareOp .Gt) (rOrd X.K fun _ b => b) := by
  intro pins s σ H x y v u Q I rx ry h
  obtain ⟨d, e, hd, he, sd, se, al, hn, q⟩ := h
  obtain ⟨pd, _⟩ := okd_iff.mp sd
  obtain ⟨pe, dl⟩ := okd_iff.mp se
  obtain ⟨as, r1⟩ := Rp.reads I d x v pd hd rx
  obtain ⟨bs, r2⟩ := Rp.reads I e y u pe he ry
  exact gt_data r1 r2 al hn (by omega) ⟨.bl _, H, I, rfl, q⟩
theorem op_leV (hu : X.A.units + 64 < cLine) : OpR X (compareOp .LtE) (rOrd X.K fun _ b => !b) := by
  intro pins s σ H x y v u Q I rx ry h
  obtain ⟨d, e, hd, he, sd, se, al, hn, q⟩ := h
  obtain ⟨pd, _⟩ := okd_iff.mp sd
  obtain ⟨pe, dl⟩ := okd_iff.mp se
  obtain ⟨as, r1⟩ := Rp.reads I d x v pd hd rx
  obtain ⟨bs, r2⟩ := Rp.reads I e y u pe he ry
  exact le_data r1 r2 al hn (by omega) ⟨.bl _, H, I, rfl, q⟩
theorem op_geV (hu : X.A.units + 64 < cLine) : OpR X (compareOp .GtE) (rOrd X.K fun a _ => !a) := by
  intro pins s σ H x y v u Q I rx ry h
  obtain ⟨d, e, hd, he, sd, se, al, hn, q⟩ := h
  obtain ⟨pd, _⟩ := okd_iff.mp sd
  obtain ⟨pe, dl⟩ := okd_iff.mp se
  obtain ⟨as, r1⟩ := Rp.reads I d x v pd hd rx
  obtain ⟨bs, r2⟩ := Rp.reads I e y u pe he ry
  exact ge_data r1 r2 al hn (by omega) ⟨.bl _, H, I, rfl, q⟩
def isNone : D → Bool
  | .none => true
  | _ => false
theorem isNone_iff {d : D} : isNone d = false → d ≠ .none := by
  intro h z
  subst z
  cases h
def opOrd (fi : Int → Int → Bool) (f : Bool → Bool → Bool) : Od → Od → Option Rv
  | .d (.int i), .d (.int j) => some (.d (.bool (fi i j)))
  | .d x, .d y => if okd x = true ∧ okd y = true ∧ alike x y = true ∧ isNone x = false then some (.d (.bool (f (dataLt x y) (dataLt y x)))) else none
  | _, _ => none
theorem s_ord {K : Fg} {fi : Int → Int → Bool} {f : Bool → Bool → Bool} : Op2S K (fun x y H Q => rI0 (fun i j => .bl (fi i j)) x y H Q ∨ rOrd K f x y H Q) (opOrd fi f) := by
  intro w x y o o' rv Q hx h h' e q
  unfold opOrd at e
  split at e
  · cases e
    exact .inl ⟨_, _, h.int, h'.int, post_bool q⟩
  · split at e
    · rename_i hh
      cases e
      exact .inr ⟨_, _, h.rp hx, h'.rp hx, hh.1, hh.2.1, hh.2.2.1, isNone_iff hh.2.2.2, post_bool q⟩
    · cases e
  · cases e
abbrev opLt := opOrd (fun i j => decide (i < j)) fun a _ => a
abbrev opLe := opOrd (fun i j => decide (i ≤ j)) fun _ b => !b
abbrev opGt := opOrd (fun i j => decide (j < i)) fun _ b => b
abbrev opGe := opOrd (fun i j => decide (j ≤ i)) fun a _ => !a
/-- is, is not: None, truths -/
def rIsV (neg : Bool) : R2 := fun x y H Q => (y = .non ∧ Q (.bl (if neg then !decide (x = .non) else decide (x = .non))) H) ∨ ∃ a b, x = .bl a ∧ y = .bl b ∧ Q (.bl (if neg then !decide (a = b) else decide (a = b))) H
theorem op_isV : OpR X (compareOp .Is) (rIsV false) := OpR.or op_isN op_isBl
def opIs (neg : Bool) : Od → Od → Option Rv
  | .d x, .d .none => some (.d (.bool (if neg then !isNone x else isNone x)))
  | .c _, .d .none => some (.d (.bool neg))
  | .d (.bool a), .d (.bool b) => some (.d (.bool (if neg then !decide (a = b) else decide (a = b))))
  | _, _ => none
theorem isNone_of {K : Fg} {w : Wd} {x : V} {d : D} (h : OdOk K w x (.d d)) : decide (x = .non) = isNone d := by
  rcases h with h | ⟨p, vs, ds, rfl, rfl, _⟩
  · cases h <;> rfl
  · rfl
theorem s_is {K : Fg} {neg : Bool} : Op2S K (rIsV neg) (opIs neg) := by
  intro w x y o o' rv Q hx h h' e q
  unfold opIs at e
  split at e
  · cases e
    exact .inl ⟨h'.none, by rw [isNone_of h]; exact post_bool q⟩
  · cases e
    obtain ⟨p, rfl, _⟩ := h
    refine .inl ⟨h'.none, ?_⟩
    have e1 : decide (V.ref p = .non) = false := rfl
    rw [e1]
    cases neg <;> exact post_bool q
  · cases e
    exact .inr ⟨_, _, h.bool, h'.bool, post_bool q⟩
  · cases e
/-! ### items -/
theorem atI_map {K : Fg} {G : Hp} {vs : List V} {ds : List D} {i : Int} {d : D} (r : RpAll K G vs ds) (h : atI ds i = some d) : ∃ v, atI vs i = some v ∧ Rp K G v d := by
  unfold atI at h ⊢
  rw [r.length]
  cases e : ixN ds.length i with
  | none => rw [e] at h; cases h
  | some j =>
    rw [e] at h
    exact r.get h
def rIxV (K : Fg) : R2 := fun x y H Q => (rIxL K) x y H Q ∨ (rIxT K) x y H Q ∨ rIxS x y H Q
theorem IxR.or {r r' : R2} (h : IxR X r) (h' : IxR X r') : IxR X (fun x y H Q => r x y H Q ∨ r' x y H Q) := by
  intro value slice pins s σ H x y v u Q I rx ry hh hs
  rcases hh with hh | hh
  · exact h value slice pins s σ H x y v u Q I rx ry hh hs
  · exact h' value slice pins s σ H x y v u Q I rx ry hh hs
theorem ixr_V : IxR X (rIxV X.K) := IxR.or ix_list (IxR.or ix_tup ix_str)
def opIx : Od → Od → Option Rv
  | .d (.list ds), .d (.int i) => match atI ds i with
    | some d => some (.d d)
    | none => none
  | .d (.tuple ds), .d (.int i) => match atI ds i with
    | some d => some (.d d)
    | none => none
  | .d (.str z), .d (.int i) => if z.length ≤ 16000000 then (match atI z.cps.toList i with
    | some c => some (.d (.str ⟨#[c]⟩))
    | none => none) else none
  | _, _ => none
theorem s_ix {K : Fg} : Op2S K (rIxV K) opIx := by
  intro w x y o o' rv Q hx h h' e q
  unfold opIx at e
  split at e
  · split at e
    · rename_i d ed
      cases e
      obtain ⟨p, vs, rfl, hs, ra⟩ := h.list hx
      obtain ⟨v, ev, rp⟩ := atI_map ra ed
      exact .inl ⟨p, vs, _, v, rfl, h'.int, hs, ev, post_d q rp⟩
    · cases e
  · split at e
    · rename_i d ed
      cases e
      obtain ⟨p, vs, rfl, hs, ra⟩ := h.tup
      obtain ⟨v, ev, rp⟩ := atI_map ra ed
      exact .inr (.inl ⟨p, vs, _, v, rfl, h'.int, SqT.of (hx _ _ hs), ev, post_d q rp⟩)
    · cases e
  · split at e
    · rename_i hl
      split at e
      · rename_i c ec
        cases e
        exact .inr (.inr ⟨_, _, c, h.str, h'.int, sz16 hl, ec, post_str q⟩)
      · cases e
    · cases e
  · cases e
/-! ### built-in functions -/
def rLenV (K : Fg) : V → Hp → VK → Prop := fun v H Q => (∃ p ys, v = .ref p ∧ (SqL K H p ys ∨ SqT K H p ys) ∧ Q (.int ys.length) H) ∨ (∃ z, v = .str z ∧ z.length ≤ sizeLine ∧ Q (.int z.length) H) ∨ ∃ a kvs, v = .ref a ∧ H a = some (.dK kvs) ∧ Q (.int kvs.length) H
theorem call_lenV : CallR X (.builtin "len") (fun xs H Q => ∃ v, xs = [v] ∧ rLenV X.K v H Q) := by
  intro pins s σ H xs us Q I r h
  obtain ⟨v, rfl, h⟩ := h
  rcases h with ⟨p, ys, rfl, h1, h2⟩ | ⟨z, rfl, h1, h2⟩ | ⟨a, kvs, rfl, h1, h2⟩
  · exact call_len_seq pins s σ H _ us Q I r ⟨p, ys, rfl, h1, h2⟩
  · exact call_len_str pins s σ H _ us Q I r ⟨z, rfl, h1, h2⟩
  · exact call_lenD pins s σ H _ us Q I r ⟨a, kvs, rfl, h1, h2⟩
def opLen : Od → Option Rv
  | .d (.list ds) => some (.d (.int ds.length))
  | .d (.tuple ds) => some (.d (.int ds.length))
  | .d (.dict es) => if isTag es = true then none else some (.d (.int es.length))
  | .d (.str z) => if z.length ≤ 16000000 then some (.d (.int z.length)) else none
  | .c (.k kvs) => some (.d (.int kvs.length))
  | _ => none
theorem rpKv_len {K : Fg} {G : Hp} : ∀ {ws : List (L2.Key × V)} {es : List (D × D)}, RpKv K G ws es → ws.length = es.length
  | _, _, .nil => rfl
  | _, _, .cons _ t => congrArg (· + 1) (rpKv_len t)
theorem s_len {K : Fg} : Op1S K (fun v H Q => ∃ v', [v] = [v'] ∧ rLenV K v' H Q) opLen := by
  intro w x o rv Q hx h e q
  refine ⟨x, rfl, ?_⟩
  unfold opLen at e
  split at e
  · cases e
    obtain ⟨p, vs, rfl, hs, ra⟩ := h.list hx
    exact .inl ⟨p, vs, rfl, .inl hs, by rw [ra.length]; exact post_int q⟩
  · cases e
    obtain ⟨p, vs, rfl, hs, ra⟩ := h.tup
    exact .inl ⟨p, vs, rfl, .inr (SqT.of (hx _ _ hs)), by rw [ra.length]; exact post_int q⟩
  · split at e
    · cases e
    · rename_i nt
      cases e
      obtain ⟨p, ws, rfl, hs, ra⟩ := h.dict hx (by simpa using nt)
      exact .inr (.inr ⟨p, ws, rfl, hs, by rw [rpKv_len ra]; exact post_int q⟩)
  · split at e
    · rename_i hl
      cases e
      exact .inr (.inl ⟨_, h.str, sz16 hl, post_int q⟩)
    · cases e
  · cases e
    obtain ⟨p, rfl, ⟨_, ws, hw, ra⟩, _⟩ := h
    exact .inr (.inr ⟨p, ws, rfl, hw, by rw [paired_len ra]; exact post_int q⟩)
  · cases e
def opAbs : Od → Option Rv
  | .d (.int i) => some (.d (.int (if i < 0 then -i else i)))
  | _ => none
theorem s_abs {K : Fg} : Op1S K (fun v H Q => ∃ i, [v] = [V.int i] ∧ Q (.int (if i < 0 then -i else i)) H) opAbs := by
  intro w x o rv Q hx h e q
  unfold opAbs at e
  split at e
  · cases e
    exact ⟨_, by rw [h.int], post_int q⟩
  · cases e
/-- isinstance(x, T) of a built-in class -/
def tyN : Od → String
  | .d .none => "NoneType"
  | .d (.bool _) => "bool"
  | .d (.int _) => "int"
  | .d (.str _) => "str"
  | .d (.list _) => "list"
  | .d (.tuple _) => "tuple"
  | .d (.dict _) => "dict"
  | .c _ => "dict"
def isiB (T : String) (t : String) : Bool := t == T || (t == "bool" && T == "int")
def opIsi (T : String) (o : Od) : Option Rv := match o with
  | .c .gone => none
  | .c (.l _) => none
  | .c (.i _ _ _) => none
  | o => some (.d (.bool (isiB T (tyN o))))
/-- a value's type, a locked dict with tuple keys too -/
inductive TyY (K : Fg) (H : Hp) : V → Value → Prop where
  | x {v : V} {t : Value} (h : TyX K H v t) : TyY K H v t
  | t {a : Addr} {o : Obj} {kvs : List (List L2.Key × V)} (e : H a = some (.frz o (.dT kvs))) : TyY K H (.ref a) (.type "dict")
theorem kit_ofY {X : Cx} {pins : List (Addr × Obj)} {σ : L2.St} {H : Hp} {s : Shared} {x : V} {u t : Value} (I : Inv X pins σ H s) (rx : RelV x u) (ty : TyY X.K H x t) : ∃ P : Heap → Prop, PySem.W.KitX X.K u t P ∧ P s.heap ∧ u ≠ .builtin "__main__.__loader__#opaque" := by
  cases ty with
  | x h => exact kit_of I rx h
  | @t a ob kvs ea =>
    cases (show u = Value.ref a from rx)
    obtain ⟨_, _, _, vs, _, o, es, ep, h1, h2, _⟩ := (show ObjOk X.prog X.w H s.heap a (.frz ob (.dT kvs)) from I.hok a _ ea)
    exact ⟨_, PySem.W.kitx_dict, ⟨o, h1, h2.1⟩, fun z => nomatch z⟩
def rIsiY (K : PySem.W.Frag) : List V → Hp → VK → Prop := fun xs H Q => ∃ (x c : V) (t u : Value) (b : Bool), xs = [x, c] ∧ ClsV c u ∧ TyY K H x t ∧ PySem.W.kitOne K t u = some b ∧ Q (.bl b) H
theorem call_isiY {X : Cx} : CallR X (.builtin "isinstance") (rIsiY X.K) := by
  intro pins s σ H xs us Q I r h
  obtain ⟨x, c, t, u, b, rfl, k, ty, e, q⟩ := h
  obtain ⟨u1, u2, rfl, r1, r2⟩ := vals2 r
  have e2 := k.eq r2
  subst e2
  obtain ⟨P, Z, p, hx⟩ := kit_ofY I r1 ty
  exact PySem.W.kia_one Z I.kIn p e hx fun tk => ⟨.bl b, H, I.tok tk, rfl, q⟩
theorem ty_of {K : Fg} {w : Wd} {x : V} {o : Od} (hx : Same w.G w.H) (h : OdOk K w x o) (h1 : o ≠ .c .gone) (h2 : ∀ l, o ≠ .c (.l l)) (h3 : ∀ n j l, o ≠ .c (.i n j l)) : TyY K w.H x (.type (tyN o)) := by
  cases o with
  | c c =>
    obtain ⟨p, rfl, hc, _⟩ := h
    cases c with
    | l l => exact absurd rfl (h2 l)
    | gone => exact absurd rfl h1
    | k kvs =>
      obtain ⟨_, ws, hw, _⟩ := hc
      exact .x (.base (.dK hw))
    | t kvs =>
      obtain ⟨_, ws, hw, _⟩ := hc
      exact .x (.base (.dT hw))
    | r ks =>
      obtain ⟨_, ws, hw, _⟩ := hc
      exact .x (.base (.dT hw))
    | i n j l => exact absurd rfl (h3 n j l)
  | d d =>
    cases d with
    | none => rw [h.none]; exact .x (.base .non)
    | bool b => rw [h.bool]; exact .x (.base (.bl b))
    | int b => rw [h.int]; exact .x (.base (.int b))
    | str b => rw [h.str]; exact .x (.base (.str b))
    | list ds =>
      obtain ⟨p, vs, rfl, hs, _⟩ := h.list hx
      rcases hs with (hs | ⟨o, hs⟩) | ⟨o, its, n, hk, hc, _⟩
      · exact .x (.base (.lst hs))
      · exact .x (.base (.frz hs))
      · exact .x (.kList hk hc)
    | tuple ds =>
      obtain ⟨p, vs, rfl, hs, _⟩ := h.tup
      exact .x (.base (.tup (hx _ _ hs)))
    | dict es =>
      rcases h with h | ⟨p, vs, ds, rfl, e, hv, ra⟩
      · cases h with
        | dct a b => exact .x (.base (.dK (hx _ _ a)))
        | dctT a b => exact .t (hx _ _ a)
      · cases e
def isiT (T : String) : Bool := ["NoneType", "bool", "int", "str", "list", "tuple", "dict"].all fun t => decide (kitB t T = some (isiB T t))
theorem isiT_ok {T : String} (h : isiT T = true) (o : Od) : kitB (tyN o) T = some (isiB T (tyN o)) := by
  have h := List.all_eq_true.mp h
  have m : tyN o ∈ ["NoneType", "bool", "int", "str", "list", "tuple", "dict"] := by
    unfold tyN
    split <;> simp
  exact of_decide_eq_true (h _ m)
theorem s_isi {K : Fg} {T : String} (hT : isiT T = true) : Op1S K (fun v H Q => rIsiY K [v, .ty T] H Q) (opIsi T) := by
  intro w x o rv Q hx h e q
  unfold opIsi at e
  have go : (o ≠ .c .gone) → (∀ l, o ≠ .c (.l l)) → (∀ n j l, o ≠ .c (.i n j l)) → some (Rv.d (.bool (isiB T (tyN o)))) = some rv → rIsiY K [x, .ty T] w.H Q := fun h1 h2 h3 e => by
    cases e
    exact ⟨x, .ty T, .type (tyN o), .type T, isiB T (tyN o), rfl, .ty T, ty_of hx h h1 h2 h3, kit_ty (isiT_ok hT o), post_bool q⟩
  split at e
  · cases e
  · cases e
  · cases e
  · rename_i h1 h2 h3
    exact go h1 h2 h3 e
theorem e_isi {ec : EC} {W : WX} {T : String} {x : Str} {a : Expr} {ca : CE} {p p2 pos : Pos} (hm : X.mg "isinstance" = none) (hT : X.mg x = none) (hv : bootBuiltins x = some (.type T)) (ht : isiT T = true) (ha : Ex X ec W a ca)
    (hg : Gl X "isinstance" := by rfl) (hg2 : Gl X x := by rfl) (hn : x ≠ "__name__" := by decide) (hd : (x == ("__debug__" : Str)) = false := by decide) (h0 : starEach [Expr.Name x p2] X.env = (false, eval (Expr.Name x p2) X.env) :: starEach [] X.env := by rfl)
    (h1 : starEach [a, .Name x p2] X.env = (false, eval a X.env) :: starEach [.Name x p2] X.env := by rfl) (h2 : (backTo pos (starEach [Expr.Name x p2] X.env)).any (·.1) = false := by rfl) : Ex X ec W (.Call (.Name "isinstance" p) [a, .Name x p2] [] pos) (cOp1 (opIsi T) ca) :=
  (pe_callB call_isiY hg hm boot_isinstance (pa_cons ha (pa_cons (pe_bltn (v := .ty T) hg2 hT hv rfl hn hd) pa_nil h0) h1) (by decide) (by decide) h1 h2).imp fun _ _ _ h => op1 (s_isi ht) h
/-- all, any of a list of truths -/
def opAll : Od → Option Rv
  | .d (.list ds) => match bools? ds with
    | some bs => some (.d (.bool (bs.all id)))
    | none => none
  | _ => none
theorem s_all {K : Fg} : Op1S K (fun v => rAll K [v]) opAll := by
  intro w x o rv Q hx h e q
  unfold opAll at e
  split at e
  · split at e
    · rename_i bs eb
      cases e
      rw [bools?_eq eb] at h
      obtain ⟨p, vs, rfl, hs, ra⟩ := h.list hx
      rw [rp_bools ra] at hs
      exact ⟨p, bs, rfl, hs, post_bool q⟩
    · cases e
  · cases e
/-- sum of ints in a list, a tuple -/
def rSumV (K : Fg) : V → Hp → VK → Prop := fun v H Q => ∃ (a : Addr) (ns : List Int), v = V.ref a ∧ (SqL K H a (ns.map V.int) ∨ SqT K H a (ns.map V.int)) ∧ Q (.int ns.sum) H
theorem call_sumV (hc : X.calm = true) : CallR X (.builtin "sum") (fun xs H Q => ∃ v, xs = [v] ∧ rSumV X.K v H Q) := by
  intro pins s σ H vs us Q I r h
  obtain ⟨v, rfl, a, ns, rfl, hs | hs, q⟩ := h
  · exact cr_sum hc pins s σ H _ us Q I r ⟨a, ns, rfl, hs, q⟩
  · obtain ⟨its, rv, hl, _⟩ := I.tuple hs
    rw [Vals.ref1 r]
    obtain ⟨xs, hx⟩ := rv.ints.allInts.items
    have hl : s.heap.IsTuple a its.toArray := hl
    have hn : numsOf its.toArray.toList = ns := by rw [show its.toArray.toList = its from rfl, rv.ints.numsOf]
    rw [hx] at hl hn
    rw [nums_intItems] at hn
    refine ktm_sumG (I.ok.hd hc) hl fun h' tk t' hk => ?_
    rw [preSum_eq, List.take_of_length_le (by simp), hn]
    exact ⟨.int _, H, I.kept hk, ⟨_, rfl⟩, q⟩
def opSum : Od → Option Rv
  | .d (.list ds) => match ints? ds with
    | some ns => some (.d (.int ns.sum))
    | none => none
  | .d (.tuple ds) => match ints? ds with
    | some ns => some (.d (.int ns.sum))
    | none => none
  | _ => none
theorem s_sum {K : Fg} : Op1S K (fun v H Q => ∃ v', [v] = [v'] ∧ rSumV K v' H Q) opSum := by
  intro w x o rv Q hx h e q
  refine ⟨x, rfl, ?_⟩
  unfold opSum at e
  split at e
  · split at e
    · rename_i bs eb
      cases e
      rw [ints?_eq eb] at h
      obtain ⟨p, vs, rfl, hs, ra⟩ := h.list hx
      rw [rp_ints ra] at hs
      exact ⟨p, bs, rfl, .inl hs, post_int q⟩
    · cases e
  · split at e
    · rename_i bs eb
      cases e
      rw [ints?_eq eb] at h
      obtain ⟨p, vs, rfl, hs, ra⟩ := h.tup
      rw [rp_ints ra] at hs
      exact ⟨p, bs, rfl, .inr (SqT.of (hx _ _ hs)), post_int q⟩
    · cases e
  · cases e
/-- tuple(x), list(x) of a list, a tuple -/
def opTuple : Od → Option Rv
  | .d (.list ds) => some (.d (.tuple ds))
  | .d (.tuple ds) => some (.d (.tuple ds))
  | _ => none
theorem s_tuple {K : Fg} : Op1S K (fun v H Q => ∃ p ys, [v] = [V.ref p] ∧ ((SqL K H p ys ∧ ∀ l, H l = none → Q (.ref l) (upd H l (.tup ys))) ∨ (SqT K H p ys ∧ Q (.ref p) H))) opTuple := by
  intro w x o rv Q hx h e q
  unfold opTuple at e
  split at e
  · cases e
    obtain ⟨p, vs, rfl, hs, ra⟩ := h.list hx
    exact ⟨p, vs, rfl, .inl ⟨hs, fun l hl => post_tup q ra hl hx⟩⟩
  · cases e
    obtain ⟨p, vs, rfl, hs, ra⟩ := h.tup
    exact ⟨p, vs, rfl, .inr ⟨SqT.of (hx _ _ hs), post_d q (.tup hs ra)⟩⟩
  · cases e
def opList : Od → Option Rv
  | .d (.list ds) => some (.new (.l ds))
  | .d (.tuple ds) => some (.new (.l ds))
  | _ => none
theorem s_list {K : Fg} : Op1S K (fun v H Q => ∃ p ys, [v] = [V.ref p] ∧ (SqL K H p ys ∨ SqT K H p ys) ∧ ∀ l, H l = none → Q (.ref l) (upd H l (.lst ys))) opList := by
  intro w x o rv Q hx h e q
  unfold opList at e
  split at e
  · cases e
    obtain ⟨p, vs, rfl, hs, ra⟩ := h.list hx
    exact ⟨p, vs, rfl, .inl hs, fun l hl => post_lst q ra hl hx⟩
  · cases e
    obtain ⟨p, vs, rfl, hs, ra⟩ := h.tup
    exact ⟨p, vs, rfl, .inr (SqT.of (hx _ _ hs)), fun l hl => post_lst q ra hl hx⟩
  · cases e
def opInt : Od → Option Rv
  | .d (.int i) => some (.d (.int i))
  | .d (.bool k) => some (.d (.int (if k then 1 else 0)))
  | _ => none
theorem s_int {K : Fg} : Op1S K (fun v H Q => (∃ i, [v] = [V.int i] ∧ Q (.int i) H) ∨ ∃ k, [v] = [V.bl k] ∧ Q (.int (if k then 1 else 0)) H) opInt := by
  intro w x o rv Q hx h e q
  unfold opInt at e
  split at e
  · cases e
    exact .inl ⟨_, by rw [h.int], post_int q⟩
  · cases e
    exact .inr ⟨_, by rw [h.bool], post_int q⟩
  · cases e
def opMax2 : Od → Od → Option Rv
  | .d (.int i), .d (.int j) => some (.d (.int (if j > i then j else i)))
  | _, _ => none
def opMin2 : Od → Od → Option Rv
  | .d (.int i), .d (.int j) => some (.d (.int (if j < i then j else i)))
  | _, _ => none
end
end Vm
namespace Vm
open PySem L2
/-! ### statements -/
inductive Out where
  | nx (s : S)
  | rt (a : Rv) (s : S)
  | bk (s : S)
  | ct (s : S)
  | ex (e : String) (s : S)
  | bad
abbrev CS := S → Out
def R.out {α : Type} (r : R α) (k : α → S → Out) : Out := match r with
  | .ok a s => k a s
  | .ex e s => .ex e s
  | .bad => .bad
def okX (K : Fg) (ec : EC) (W : WX) (w : Wd) : String → S → Prop := fun e s' => ∀ σ' w', Le w w' → Rel ec K w' σ' s' → W (.ref (ec e)) none σ' w'.H
def OOk (K : Fg) (ec : EC) (W : WX) (D : Ends) (w : Wd) : Out → Prop
  | .nx s' => ∀ σ' w', Le w w' → Rel ec K w' σ' s' → D.nx σ' w'.H
  | .rt a s' => ∀ x σ' w', Le w w' → Rel ec K w' σ' s' → RvOk K w' x a → FrR w x a → D.rt x w'.H
  | .bk s' => ∀ σ' w', Le w w' → Rel ec K w' σ' s' → D.bk σ' w'.H
  | .ct s' => ∀ σ' w', Le w w' → Rel ec K w' σ' s' → D.ct σ' w'.H
  | .ex e s' => okX K ec W w e s'
  | .bad => False
def rdS (K : Fg) (ec : EC) (W : WX) (c : CS) : TS := fun D σ H => ∃ w s, w.H = H ∧ Rel ec K w σ s ∧ OOk K ec W D w (c s)
abbrev Sx (X : Cx) (ec : EC) (W : WX) (st : Stmt) (c : CS) : Prop := PS X st (rdS X.K ec W c)
abbrev Bx (X : Cx) (ec : EC) (W : WX) (st : List Stmt) (c : CS) : Prop := PSs X st (rdS X.K ec W c)
section
variable {K : Fg} {ec : EC} {W : WX} {σ : St} {w w1 : Wd} {s : S} {D : Ends}
theorem okX_le {e : String} {s' : S} (a : Le w w1) (h : okX K ec W w e s') : okX K ec W w1 e s' := fun σ' w' b r => h σ' w' (a.trans b) r
theorem okX_E {e : String} {s' : S} (h : okX K ec W w e s') : okE K ec W σ w e s' := fun w' b r => h σ w' b r
theorem OOk.le {o : Out} (a : Le w w1) (h : OOk K ec W D w o) : OOk K ec W D w1 o := by
  cases o with
  | nx s' => exact fun σ' w' b r => h σ' w' (a.trans b) r
  | rt x s' => exact fun y σ' w' b r o f => h y σ' w' (a.trans b) r o (f.back a b o)
  | bk s' => exact fun σ' w' b r => h σ' w' (a.trans b) r
  | ct s' => exact fun σ' w' b r => h σ' w' (a.trans b) r
  | ex e s' => exact okX_le a h
  | bad => exact h
/-- an expression's run within a statement -/
theorem run_e {c : CE} {k : Rv → S → Out} (hr : Rel ec K w σ s) (h : OOk K ec W D w ((c s).out k)) {Q : VK} (hk : ∀ x w1 s1 a, Le w w1 → Rel ec K w1 σ s1 → RvOk K w1 x a → FrR w x a → OOk K ec W D w (k a s1) → Q x w1.H) : rd K ec W c σ w.H Q := by
  refine ⟨w, s, rfl, hr, ?_⟩
  cases e : c s with
  | bad => rw [e] at h; exact h
  | ex n s' => rw [e] at h; exact okX_E h
  | ok a s' =>
    rw [e] at h
    exact fun x w' le r o f => hk x w' s' a le r o f h
/-- .. of a value that became data, or is a cell -/
theorem run_ev {c : CE} {k : Rv → S → Out} (hr : Rel ec K w σ s) (h : OOk K ec W D w ((cv c s).out k)) {Q : VK} (hk : ∀ x w1 s1 a, Le w w1 → Rel ec K w1 σ s1 → RvOk K w1 x a → (∀ c, a ≠ .new c) → OOk K ec W D w (k a s1) → Q x w1.H) : rd K ec W c σ w.H Q := by
  refine ⟨w, s, rfl, hr, ?_⟩
  unfold cv at h
  cases e : c s with
  | bad => rw [e] at h; exact h
  | ex n s' => rw [e] at h; exact okX_E h
  | ok rv s' =>
    rw [e] at h
    intro x w' le r' ok _
    cases rv with
    | d y => exact hk x w' s' (.d y) le r' ok (by intro c z; cases z) h
    | ref n => exact hk x w' s' (.ref n) le r' ok (by intro c z; cases z) h
    | t b es => exact hk x w' s' (.t b es) le r' ok (by intro c z; cases z) h
    | new cc =>
      cases ed : cc.D? with
      | none =>
        simp only [R.bind, R.out, ed] at h
        exact h.elim
      | some d =>
        simp only [R.bind, R.out, ed] at h
        obtain ⟨G', r2, le2, rp⟩ := freeze r' ok (d := d) ed
        exact hk x ⟨G', w'.r, w'.F, w'.H⟩ s' (.d d) (le.trans le2) r2 rp (by intro c z; cases z) h
theorem run_tS {c : CT} {k : Bool → S → Out} (hr : Rel ec K w σ s) (h : OOk K ec W D w ((c s).out k)) {Q : Bool → Hp → Prop} (hk : ∀ b w1 s1, Le w w1 → Rel ec K w1 σ s1 → OOk K ec W D w (k b s1) → Q b w1.H) : rdT K ec W c σ w.H Q := by
  refine ⟨w, s, rfl, hr, ?_⟩
  cases e : c s with
  | bad => rw [e] at h; exact h
  | ex n s' => rw [e] at h; exact okX_E h
  | ok a s' =>
    rw [e] at h
    exact fun w' le r => hk a w' s' le r h
end
section
variable {X : Cx} {ec : EC} {W : WX}
def cNx : CS := fun s => .nx s
theorem b_nil : Bx X ec W [] cNx := pss_nil.imp fun D σ H h => by
  obtain ⟨w, s, rfl, hr, h⟩ := h
  exact h σ w (Le.refl w) hr
def cBk : CS := fun s => .bk s
def cCt : CS := fun s => .ct s
def cSeq (a b : CS) : CS := fun s => match a s with
  | .nx s1 => b s1
  | o => o
theorem b_cons {st : Stmt} {r : List Stmt} {a b : CS} (ha : Sx X ec W st a) (hb : Bx X ec W r b) : Bx X ec W (st :: r) (cSeq a b) := (pss_cons ha hb).imp fun D σ H h => by
  obtain ⟨w, s, rfl, hr, h⟩ := h
  refine ⟨w, s, rfl, hr, ?_⟩
  unfold cSeq at h
  cases e : a s with
  | nx s1 =>
    rw [e] at h
    exact fun σ' w' le r' => ⟨w', s1, rfl, r', h.le le⟩
  | rt x s1 => rw [e] at h; exact h
  | bk s1 => rw [e] at h; exact h
  | ct s1 => rw [e] at h; exact h
  | ex n s1 => rw [e] at h; exact h
  | bad => rw [e] at h; exact h
theorem b_one {st : Stmt} {a : CS} (ha : Sx X ec W st a) : Bx X ec W [st] a := pss_one ha
def cExp (c : CE) : CS := fun s => (c s).out fun _ s1 => .nx s1
theorem s_expr {e : Expr} {c : CE} {pos : Pos} (h : Ex X ec W e c) (hs : swapsWith e none pos.line X.env = pure false := by rfl) : Sx X ec W (.Expr e pos) (cExp c) := (ps_expr h hs).imp fun D σ H h => by
  obtain ⟨w, s, rfl, hr, h⟩ := h
  exact run_e hr h fun x w1 s1 a le r o f h1 => h1 σ w1 le r
def cRet (c : CE) : CS := fun s => (c s).out fun a s1 => .rt a s1
theorem s_ret {e : Expr} {c : CE} {pos : Pos} (h : Ex X ec W e c) : Sx X ec W (.Return (some e) pos) (cRet c) := (ps_ret h).imp fun D σ H h => by
  obtain ⟨w, s, rfl, hr, h⟩ := h
  exact run_e hr h fun x w1 s1 a le r o f h1 => h1 x σ w1 le r o f
def cRetN : CS := fun s => .rt (.d .none) s
def cIfS (t : CT) (a b : CS) : CS := fun s => (t s).out fun x s1 => if x = true then a s1 else b s1
theorem s_if {t : Expr} {a b : List Stmt} {ct : CT} {ca cb : CS} {pos : Pos} (ht : Tx X ec W t ct) (ha : Bx X ec W a ca) (hb : Bx X ec W b cb) : Sx X ec W (.If t a b pos) (cIfS ct ca cb) := (ps_if ht ha hb).imp fun D σ H h => by
  obtain ⟨w, s, rfl, hr, h⟩ := h
  refine run_tS hr h fun x w1 s1 le r h1 => ?_
  cases x with
  | true => exact iteT ⟨w1, s1, rfl, r, h1.le le⟩
  | false => exact iteF ⟨w1, s1, rfl, r, h1.le le⟩
/-! ### storing names -/
theorem Rel.set {K : Fg} {w : Wd} {σ : St} {s : S} (r : Rel ec K w σ s) (i : Nat) {x : V} {sl : Sl} (h : SlOk ec K w (some (some x)) sl) : Rel ec K w (σ.set i (some x)) ⟨s.v.set i sl, s.m⟩ := by
  refine ⟨r.mem, by show (σ.set i (some x)).length = (s.v.set i sl).length; rw [List.length_set, List.length_set, r.len], fun j y e => ?_⟩
  have e : (s.v.set i sl)[j]? = some y := e
  by_cases hj : i = j
  · subst hj
    by_cases hl : i < s.v.length
    · rw [List.getElem?_set_self hl] at e
      cases e
      rw [List.getElem?_set_self (by rw [r.len]; exact hl)]
      exact h
    · rw [List.getElem?_eq_none (by rw [List.length_set]; omega)] at e
      cases e
  · rw [List.getElem?_set_ne hj] at e
    rw [List.getElem?_set_ne hj]
    exact r.slot j y e
def slOf : Rv → Option Sl
  | .d x => some (.d x)
  | .ref n => some (.c n)
  | .t b es => some (.t b es)
  | .new _ => none
theorem slOf_ok {K : Fg} {w : Wd} {x : V} {a : Rv} {sl : Sl} (h : RvOk K w x a) (e : slOf a = some sl) : SlOk ec K w (some (some x)) sl := by
  cases a with
  | d y =>
    cases e
    exact ⟨x, rfl, h⟩
  | ref n =>
    cases e
    obtain ⟨p, rfl, q⟩ := h
    exact ⟨p, rfl, q⟩
  | t b es =>
    cases e
    exact ⟨x, rfl, h⟩
  | new c => cases e
/-- name = e: data, or another name of a cell -/
def cSet (i : Nat) (c : CE) : CS := fun s => (cv c s).out fun a s1 => match slOf a with
  | some sl => .nx ⟨s1.v.set i sl, s1.m⟩
  | none => .bad
theorem rd_set {K : Fg} {σ : St} {H : Hp} {D : Ends} {i : Nat} {c : CE} (h : rdS K ec W (cSet i c) D σ H) : tAsg (rd K ec W c) (gName i) D σ H := by
  obtain ⟨w, s, rfl, hr, h⟩ := h
  refine run_ev hr h fun x w1 s1 a le r o hn h1 => ?_
  cases e : slOf a with
  | none => simp only [e] at h1; exact h1.elim
  | some sl =>
    simp only [e] at h1
    exact h1 _ w1 le (r.set i (slOf_ok o e))
theorem s_set (i : Nat) {x : Str} {e : Expr} {c : CE} {pos' pos : Pos} (hN : X.N.Nodup) (h : Ex X ec W e c) (hi : X.N[i]? = some x := by rfl) (hx : Loc X.env.scope x := by first | exact Or.inl rfl | exact Or.inr rfl) (hs : swapsWith e (some (.Name x pos')) pos.line X.env = pure false := by rfl) (hf : X.fn x = true ∨ X.env.scope.names.lookup x = some .local := by first | exact .inl rfl | exact .inr rfl) :
    Sx X ec W (.Assign [.Name x pos'] e pos) (cSet i c) := (ps_set hN hi hx h hs hf).imp fun D σ H h => rd_set h
/-- name = e, a new mutable object -/
def cSetM (i : Nat) (c : CE) : CS := fun s => (c s).out fun a s1 => match a with
  | .new .gone => .bad
  | .new (.i _ _ _) => .bad
  | .new cell => .nx ⟨s1.v.set i (.c s1.m.length), s1.m ++ [cell]⟩
  | .ref n => .nx ⟨s1.v.set i (.c n), s1.m⟩
  | .t b es => .nx ⟨s1.v.set i (.t b es), s1.m⟩
  | .d _ => .bad
theorem nv_in {w : Wd} {m : List Cell} {p : Addr} {c : Cell} (hl : w.r.length = m.length) (hc : ∀ n j ds, c ≠ .i n j ds) (h : NV ec w m) : NV ec ⟨w.G, w.r ++ [p], w.F, w.H⟩ (m ++ [c]) := by
  refine ⟨fun t q n j ds e1 e2 => ?_, h.2⟩
  have e1 : (w.r ++ [p])[t]? = some q := e1
  by_cases ht : t < m.length
  · rw [List.getElem?_append_left ht] at e2
    rw [List.getElem?_append_left (by omega)] at e1
    obtain ⟨h1, h2⟩ := h.1 t q n j ds e1 e2
    refine ⟨h1, fun p' ks e3 e4 => ?_⟩
    have e3 : (w.r ++ [p])[n]? = some p' := e3
    rw [List.getElem?_append_left (by omega)] at e3
    rw [List.getElem?_append_left (by omega)] at e4
    exact h2 p' ks e3 e4
  · rw [List.getElem?_append_right (by omega)] at e2
    cases hk : t - m.length with
    | zero =>
      rw [hk] at e2
      exact absurd (Option.some.inj e2) (hc n j ds)
    | succ k =>
      rw [hk] at e2
      cases e2
theorem nv_out {w : Wd} {m : List Cell} {n : Nat} {G : Hp} (h : NV ec w m) : NV ec ⟨G, w.r, w.F, w.H⟩ (m.set n .gone) := by
  refine ⟨fun t q n0 j ds e1 e2 => ?_, h.2⟩
  have ne : n ≠ t := fun z => by
    subst z
    rw [List.getElem?_set] at e2
    split at e2
    · split at e2 <;> cases e2
    · exact absurd rfl ‹_›
  rw [List.getElem?_set_ne ne] at e2
  obtain ⟨h1, h2⟩ := h.1 t q n0 j ds e1 e2
  refine ⟨h1, fun p ks e3 e4 => ?_⟩
  have ne2 : n ≠ n0 := fun z => by
    subst z
    rw [List.getElem?_set] at e4
    split at e4
    · split at e4 <;> cases e4
    · exact absurd rfl ‹_›
  rw [List.getElem?_set_ne ne2] at e4
  exact h2 p ks e3 e4
theorem cell_in {K : Fg} {w w1 : Wd} {σ : St} {s : S} {p : Addr} {c : Cell} (hg : c ≠ .gone) (hni : ∀ n j ds, c ≠ .i n j ds) (i0 : Le ec.w (w.f ec.w.F)) (le : Le w w1) (r : Rel ec K w1 σ s) (hp : p ∉ w1.r ∧ ¬ w1.F p) (hf : w.H p = none) (hc : COk K w1.G w1.H p c) :
    Rel ec K ⟨w1.G, w1.r ++ [p], w1.F, w1.H⟩ σ ⟨s.v, s.m ++ [c]⟩ ∧ Le w ⟨w1.G, w1.r ++ [p], w1.F, w1.H⟩ := by
  have l2 : Le w ⟨w1.G, w1.r ++ [p], w1.F, w1.H⟩ := ⟨le.g, le.k, le.p.trans (List.prefix_append _ _), fun q hq => by
    have hq : q ∈ w1.r ++ [p] := hq
    rcases List.mem_append.mp hq with m | m
    · exact le.f q m
    · rw [List.mem_singleton.mp m]
      exact .inr hf, le.s⟩
  refine ⟨⟨⟨r.mem.ext, ?_, ?_, fun n q c' h1 h2 => ?_, fun q hq => ?_, r.mem.tab, i0.trans (l2.ch _), r.mem.gt, nv_in r.mem.len hni r.mem.nv⟩, r.len, fun i sl e => ?_⟩, l2⟩
  · show (w1.r ++ [p]).length = (s.m ++ [c]).length
    rw [List.length_append, List.length_append, r.mem.len]
    rfl
  · show (w1.r ++ [p]).Nodup
    refine List.nodup_append.mpr ⟨r.mem.nd, by simp, fun a ha b hb e => ?_⟩
    rw [List.mem_singleton.mp hb] at e
    exact hp.1 (e ▸ ha)
  · have h1 : (w1.r ++ [p])[n]? = some q := h1
    have h2 : (s.m ++ [c])[n]? = some c' := h2
    by_cases hn : n < w1.r.length
    · rw [List.getElem?_append_left hn] at h1
      rw [List.getElem?_append_left (by rw [← r.mem.len]; exact hn)] at h2
      exact r.mem.cell n q c' h1 h2
    · rw [List.getElem?_append_right (by omega)] at h1
      rw [List.getElem?_append_right (by rw [← r.mem.len]; omega)] at h2
      rw [r.mem.len] at h1
      cases hk : n - s.m.length with
      | zero =>
        rw [hk] at h1 h2
        cases h1
        cases h2
        exact hc
      | succ k =>
        rw [hk] at h1
        cases h1
  · obtain ⟨a, b, c'⟩ := r.mem.fo q hq
    refine ⟨a, fun m => ?_, c'⟩
    have m : q ∈ w1.r ++ [p] := m
    rcases List.mem_append.mp m with m | m
    · exact b m
    · rw [List.mem_singleton.mp m] at hq
      exact hp.2 hq
  · have q := r.slot i sl e
    cases sl with
    | u => trivial
    | d x => exact q
    | c n =>
      obtain ⟨p', e1, e2⟩ := q
      refine ⟨p', e1, ?_⟩
      show (w1.r ++ [p])[n]? = some p'
      rw [List.getElem?_append_left (List.getElem?_eq_some_iff.mp e2).1]
      exact e2
    | f => exact q
    | t b es =>
      obtain ⟨v, e1, z⟩ := q
      refine ⟨v, e1, z.mono (Same.refl _) fun k p' h => ?_⟩
      show (w1.r ++ [p])[k]? = some p'
      rw [List.getElem?_append_left (List.getElem?_eq_some_iff.mp h).1]
      exact h
    | x n =>
      obtain ⟨z1, a, z2, z3, z4⟩ := q
      refine ⟨z1, a, z2, fun m => ?_, z4⟩
      have m : a ∈ w1.r ++ [p] := m
      rcases List.mem_append.mp m with m | m
      · exact z3 m
      · have ea := List.mem_singleton.mp m
        subst ea
        unfold ExO at z4
        cases c with
        | gone => exact hg rfl
        | l ds =>
          obtain ⟨_, _, hv, _⟩ := hc
          rw [z4] at hv
          cases hv
        | k ds =>
          obtain ⟨_, _, hv, _⟩ := hc
          rw [z4] at hv
          cases hv
        | t ds =>
          obtain ⟨_, _, hv, _⟩ := hc
          rw [z4] at hv
          cases hv
        | r ds =>
          obtain ⟨_, _, hv, _⟩ := hc
          rw [z4] at hv
          cases hv
        | i n' j' ds =>
          obtain ⟨_, _, hv, _⟩ := hc
          rw [z4] at hv
          cases hv
theorem rd_setM {K : Fg} {σ : St} {H : Hp} {D : Ends} {i : Nat} {c : CE} (h : rdS K ec W (cSetM i c) D σ H) : tAsg (rd K ec W c) (gName i) D σ H := by
  obtain ⟨w, s, rfl, hr, h⟩ := h
  refine run_e hr h fun x w1 s1 a le r o f h1 => ?_
  have go : ∀ cell, a = .new cell → cell ≠ .gone → (∀ n j ds, cell ≠ .i n j ds) → OOk K ec W D w (.nx ⟨s1.v.set i (.c s1.m.length), s1.m ++ [cell]⟩) → D.nx (σ.set i (some x)) w1.H := fun cell ea hg hni h2 => by
    subst ea
    obtain ⟨p, rfl, hp, hc⟩ := o
    obtain ⟨r2, l2⟩ := cell_in hg hni hr.mem.inv le r hp (f _ rfl p rfl) hc
    refine h2 _ ⟨w1.G, w1.r ++ [p], w1.F, w1.H⟩ l2 (r2.set i (x := .ref p) (sl := .c s1.m.length) ⟨p, rfl, ?_⟩)
    show (w1.r ++ [p])[s1.m.length]? = some p
    rw [← r.mem.len, List.getElem?_append_right (Nat.le_refl _), Nat.sub_self]
    rfl
  cases a with
  | d y => exact h1.elim
  | ref n => exact h1 _ w1 le (r.set i (slOf_ok (a := .ref n) o rfl))
  | t b es => exact h1 _ w1 le (r.set i (slOf_ok (a := .t b es) o rfl))
  | new cell =>
    cases cell with
    | gone => exact h1.elim
    | l ds => exact go _ rfl (by intro z; cases z) (by intro _ _ _ z; cases z) h1
    | k ds => exact go _ rfl (by intro z; cases z) (by intro _ _ _ z; cases z) h1
    | t ds => exact go _ rfl (by intro z; cases z) (by intro _ _ _ z; cases z) h1
    | r ds => exact go _ rfl (by intro z; cases z) (by intro _ _ _ z; cases z) h1
    | i n j ds => exact h1.elim
theorem s_setM (i : Nat) {x : Str} {e : Expr} {c : CE} {pos' pos : Pos} (hN : X.N.Nodup) (h : Ex X ec W e c) (hi : X.N[i]? = some x := by rfl) (hx : Loc X.env.scope x := by first | exact Or.inl rfl | exact Or.inr rfl) (hs : swapsWith e (some (.Name x pos')) pos.line X.env = pure false := by rfl) (hf : X.fn x = true ∨ X.env.scope.names.lookup x = some .local := by first | exact .inl rfl | exact .inr rfl) :
    Sx X ec W (.Assign [.Name x pos'] e pos) (cSetM i c) := (ps_set hN hi hx h hs hf).imp fun D σ H h => rd_setM h
/-! ### targets -/
/-- slots but those at own are as they were -/
def Off (own : List Nat) (σ σ' : St) : Prop := σ'.length = σ.length ∧ ∀ j, j ∉ own → σ'[j]? = σ[j]?
theorem Off.refl (own : List Nat) (σ : St) : Off own σ σ := ⟨rfl, fun _ _ => rfl⟩
theorem Off.trans {own : List Nat} {σ σ1 σ2 : St} (a : Off own σ σ1) (b : Off own σ1 σ2) : Off own σ σ2 := ⟨b.1.trans a.1, fun j h => (b.2 j h).trans (a.2 j h)⟩
abbrev Tg := D → S → Option S
abbrev Tgs := List D → S → Option S
def rdG (ec : EC) (K : Fg) (own : List Nat) (tg : Tg) : TG := fun v σ H Q => ∃ w s d, w.H = H ∧ Rel ec K w σ s ∧ Rp K w.G v d ∧ ∃ s', tg d s = some s' ∧ ∀ σ', Off own σ σ' → Rel ec K w σ' s' → Q σ' H
def rdGs (ec : EC) (K : Fg) (own : List Nat) (tg : Tgs) : TGs := fun vs σ H Q => ∃ w s ds, w.H = H ∧ Rel ec K w σ s ∧ RpAll K w.G vs ds ∧ ∃ s', tg ds s = some s' ∧ ∀ σ', Off own σ σ' → Rel ec K w σ' s' → Q σ' H
theorem PG.imp {X : Cx} {e : Expr} {t t' : TG} (h : PG X e t) (i : ∀ v σ H Q, t' v σ H Q → t v σ H Q) : PG X e t' := ⟨fun pins s σ H v u Q I r q => h.run pins s σ H v u Q I r (i _ _ _ _ q)⟩
theorem PGs.imp {X : Cx} {es : List Expr} {t t' : TGs} (h : PGs X es t) (i : ∀ v σ H Q, t' v σ H Q → t v σ H Q) : PGs X es t' := ⟨fun pins s σ H v u Q I r q => h.run pins s σ H v u Q I r (i _ _ _ _ q)⟩
def tgN (i : Nat) : Tg := fun d s => some ⟨s.v.set i (.d d), s.m⟩
theorem g_name (i : Nat) {own : List Nat} {x : Str} {pos : Pos} (hN : X.N.Nodup) (ho : i ∈ own) (hi : X.N[i]? = some x := by rfl) (hx : Loc X.env.scope x := by first | exact Or.inl rfl | exact Or.inr rfl) (hf : X.fn x = true ∨ X.env.scope.names.lookup x = some .local := by first | exact .inl rfl | exact .inr rfl) : PG X (.Name x pos) (rdG ec X.K own (tgN i)) :=
  PG.imp (pg_name hN hi hx hf) fun v σ H Q h => by
    obtain ⟨w, s, d, rfl, hr, rp, s', e, q⟩ := h
    cases e
    exact q _ ⟨List.length_set, fun j hj => List.getElem?_set_ne fun z => hj (by rw [← z]; exact ho)⟩ (hr.set i ⟨v, rfl, rp⟩)
def tgNil : Tgs := fun ds s => match ds with
  | [] => some s
  | _ => none
def tgCons (t : Tg) (u : Tgs) : Tgs := fun ds s => match ds with
  | [] => none
  | d :: ds => match t d s with
    | some s1 => u ds s1
    | none => none
def tgTup (n : Nat) (t : Tgs) : Tg := fun d s => match d with
  | .tuple ds => if ds.length = n then t ds s else none
  | _ => none
theorem gs_nil {own : List Nat} : PGs X [] (rdGs ec X.K own tgNil) := PGs.imp pgs_nil fun vs σ H Q h => by
  obtain ⟨w, s, ds, rfl, hr, rp, s', e, q⟩ := h
  cases rp with
  | nil =>
    cases e
    exact ⟨rfl, q σ (Off.refl _ _) hr⟩
  | cons _ _ => cases e
theorem gs_cons {own : List Nat} {e : Expr} {es : List Expr} {t : Tg} {u : Tgs} (h1 : PG X e (rdG ec X.K own t)) (h2 : PGs X es (rdGs ec X.K own u)) (hs : (assignEach (e :: es) X.env).map (·.2) = assign e X.env :: (assignEach es X.env).map (·.2) := by rfl) : PGs X (e :: es) (rdGs ec X.K own (tgCons t u)) :=
  PGs.imp (pgs_cons h1 h2 hs) fun vs σ H Q h => by
    obtain ⟨w, s, ds, rfl, hr, rp, s', e, q⟩ := h
    cases rp with
    | nil => cases e
    | cons r1 r2 =>
      rename_i v vs d ds
      unfold tgCons at e
      dsimp only at e
      cases e1 : t d s with
      | none => rw [e1] at e; cases e
      | some s1 =>
        rw [e1] at e
        exact ⟨v, vs, rfl, w, s, d, rfl, hr, r1, s1, e1, fun σ1 o1 r1' => ⟨w, s1, ds, rfl, r1', r2, s', e, fun σ2 o2 r2' => q σ2 (o1.trans o2) r2'⟩⟩
theorem g_tup {own : List Nat} {es : List Expr} {k n : Nat} {t : Tgs} {pos : Pos} (h : PGs X es (rdGs ec X.K own t)) (hcal : X.calm = true := by rfl) (hn : (assignEach es X.env).length = n := by rfl) (hst : (assignEach es X.env).findIdx? (·.1) = none := by rfl) : PG X (.Tuple es k pos) (rdG ec X.K own (tgTup n t)) :=
  PG.imp (pg_tup hcal h hn hst) fun v σ H Q h => by
    obtain ⟨w, s, d, rfl, hr, rp, s', e, q⟩ := h
    unfold tgTup at e
    split at e
    · rename_i ds
      cases rp with
      | tup hs ra =>
        split at e
        · rename_i hl
          exact ⟨_, _, rfl, SqT.of (hr.mem.ext _ _ hs), by rw [ra.length]; exact hl, w, s, ds, rfl, hr, ra, s', e, q⟩
        · cases e
    · cases e
/-- target = e -/
def cAsg (tg : Tg) (c : CE) : CS := fun s => (cv c s).out fun a s1 => match a with
  | .d d => match tg d s1 with
    | some s2 => .nx s2
    | none => .bad
  | _ => .bad
theorem s_asg {own : List Nat} {tg e : Expr} {t : Tg} {c : CE} {pos : Pos} (he : Ex X ec W e c) (hg : PG X tg (rdG ec X.K own t)) (hs : swapsWithSole [tg] e pos.line X.env = pure false := by rfl) (hw : swappedStores [tg] e X.env = pure none := by rfl) (h1 : (assignEach [tg] X.env).map (·.2) = [assign tg X.env] := by rfl) :
    Sx X ec W (.Assign [tg] e pos) (cAsg t c) := (ps_asg he hg hs hw h1).imp fun D σ H h => by
  obtain ⟨w, s, rfl, hr, h⟩ := h
  refine run_ev hr h fun x w1 s1 a le r o hn h1 => ?_
  cases a with
  | ref n => exact h1.elim
  | t _ _ => exact h1.elim
  | new c => exact h1.elim
  | d d =>
    cases e1 : t d s1 with
    | none => simp only [e1] at h1; exact h1.elim
    | some s2 =>
      simp only [e1] at h1
      exact ⟨w1, s1, d, rfl, r, o, s2, e1, fun σ' _ r' => h1 σ' w1 le r'⟩
/-- a, b = x, y -/
def cPar (i j : Nat) (a b : CE) : CS := fun s => (cv a s).out fun x s1 => (cv b s1).out fun y s2 => match slOf x, slOf y with
  | some p, some q => .nx ⟨(s2.v.set i p).set j q, s2.m⟩
  | _, _ => .bad
theorem s_par (i j : Nat) {x y : Str} {a b : Expr} {ca cb : CE} {px py pt pos : Pos} {kt k2 pt2} (hN : X.N.Nodup) (ha : Ex X ec W a ca) (hb : Ex X ec W b cb) (hij : i ≠ j) (hcal : X.calm = true := by rfl) (hi : X.N[i]? = some x := by rfl) (hj : X.N[j]? = some y := by rfl)
    (hx : X.env.scope.names.lookup x = some .local := by rfl) (hy : X.env.scope.names.lookup y = some .local := by rfl) (hw : swappedStores [.Tuple [.Name x px, .Name y py] kt pt] (.Tuple [a, b] k2 pt2) X.env = pure (some [x, y]) := by rfl)
    (hs : swapsWithSole [.Tuple [.Name x px, .Name y py] kt pt] (.Tuple [a, b] k2 pt2) pos.line X.env = pure false := by rfl) (h0 : starEach [b] X.env = (false, eval b X.env) :: starEach [] X.env := by rfl) (h1 : starEach [a, b] X.env = (false, eval a X.env) :: starEach [b] X.env := by rfl) :
    Sx X ec W (.Assign [.Tuple [.Name x px, .Name y py] kt pt] (.Tuple [a, b] k2 pt2) pos) (cPar i j ca cb) := (ps_par hcal hN hi hj hij hx hy (pa_cons ha (pa_cons hb pa_nil h0) h1) hw hs).imp fun D σ H h => by
  obtain ⟨w, s, rfl, hr, h⟩ := h
  refine run_ev hr h fun v w1 s1 p le r o hn h1 => ?_
  refine run_ev r (h1.le le) fun u w2 s2 q le2 r2 o2 hn2 h2 => ?_
  cases e1 : slOf p with
  | none => simp only [e1] at h2; exact h2.elim
  | some sp =>
    cases e2 : slOf q with
    | none => simp only [e1, e2] at h2; exact h2.elim
    | some sq =>
      simp only [e1, e2] at h2
      exact ⟨v, u, rfl, h2 _ w2 le2 ((r2.set i (slOf_ok (o.le hn le2) e1)).set j (slOf_ok o2 e2))⟩
/-! ### what is walked -/
abbrev CI := S → R (List D)
def ItOk (K : Fg) (w : Wd) (J : It) (ds : List D) : Prop := ∀ w1, Le w w1 → Same w1.G w1.H → ∀ i, (∀ d, ds[i]? = some d → J.go i w1.H ∧ ∀ x H', J.yld i w1.H x H' → ∃ w2, Gr w1 w2 ∧ w2.H = H' ∧ Rp K w2.G x d) ∧ (ds.length ≤ i → J.stop i w1.H)
theorem ItOk.le {K : Fg} {w w1 : Wd} {J : It} {ds : List D} (a : Le w w1) (h : ItOk K w J ds) : ItOk K w1 J ds := fun w2 b => h w2 (a.trans b)
def rdI (K : Fg) (ec : EC) (W : WX) (c : CI) : TI := fun σ H R => ∃ w s, w.H = H ∧ Rel ec K w σ s ∧ Res (fun ds s' => ∀ J w', Le w w' → Rel ec K w' σ s' → ItOk K w' J ds → R J w'.H) (okE K ec W σ w) (c s)
abbrev Ix (X : Cx) (ec : EC) (W : WX) (tg iter : Expr) (c : CI) : Prop := PI X tg iter (rdI X.K ec W c)
theorem PI.imp {X : Cx} {tg iter : Expr} {t t' : TI} (h : PI X tg iter t) (i : ∀ σ H R, t' σ H R → t σ H R) : PI X tg iter t' := ⟨fun pins s σ H R I q => h.run pins s σ H R I (i _ _ _ q)⟩
/-- a list or a tuple of any kind -/
def iSeq (K : Fg) (tl : TE) : TI := fun σ H R => tl σ H fun x H1 => ∃ a, x = .ref a ∧ ((∃ xs, SqL K H1 a xs ∧ R (Itl K a) H1) ∨ ∃ xs, SqT K H1 a xs ∧ R (Itt K a) H1)
theorem pi_seq {tg l : Expr} {tl : TE} (hl : PE X l tl) : PI X tg l (iSeq X.K tl) := by
  refine ⟨fun pins s σ H R I h => ?_⟩
  refine thn (hl.run pins s σ H _ I h) fun v s1 ⟨x, H1, I1, r1, q1⟩ => ?_
  obtain ⟨a, e, hq⟩ := q1
  subst e
  cases r1
  rcases hq with ⟨xs, hq, q⟩ | ⟨xs, hq, q⟩
  · obtain ⟨its, rv, p, hz⟩ := I1.list hq
    refine wpAny_pyIter_list p.isList ?_
    refine ⟨s1.heap.objs.size, [s1.heap.objs.size], _, _, H1, rfl, I1.kept (t' := s1.toks) fun b o e => Heap.get?_push_of_some _ e, turn_list a _, ⟨_, Heap.get?_push_size _ rfl, rfl, rfl⟩, fun b hb => ?_, q⟩
    have e : b = s1.heap.objs.size := by simpa using hb
    subst e
    exact I1.fpOk (Nat.le_refl _) (I1.hok.fresh (Nat.le_refl _))
  · obtain ⟨its, rv, p, hz⟩ := I1.tuple hq
    refine wpAny_pyIter_tuple (show s1.heap.IsTuple a its.toArray from p) ?_
    refine ⟨s1.heap.objs.size, [s1.heap.objs.size], _, _, H1, rfl, I1.kept (t' := s1.toks) fun b o e => Heap.get?_push_of_some _ e, turn_tuple a _, ⟨_, Heap.get?_push_size _ rfl, rfl, rfl⟩, fun b hb => ?_, q⟩
    have e : b = s1.heap.objs.size := by simpa using hb
    subst e
    exact I1.fpOk (Nat.le_refl _) (I1.hok.fresh (Nat.le_refl _))
def ciSeq (c : CE) : CI := fun s => (cv c s).bind fun a s1 => match a with
  | .d (.list ds) => .ok ds s1
  | .d (.tuple ds) => .ok ds s1
  | _ => .bad
theorem i_seq {tg l : Expr} {c : CE} (h : Ex X ec W l c) : Ix X ec W tg l (ciSeq c) := PI.imp (pi_seq h) fun σ H R h => by
  obtain ⟨w, s, rfl, hr, h⟩ := h
  refine run_cv hr h fun x w1 s1 a le1 hr1 ha hn h1 => ?_
  cases a with
  | ref n => exact h1.elim
  | t _ _ => exact h1.elim
  | new c => exact h1.elim
  | d y =>
    have ha : Rp X.K w1.G x y := ha
    cases y with
    | list ds =>
      cases ha with
      | lst hs ra =>
        refine ⟨_, rfl, .inl ⟨_, hr1.mem.ext.seq hs, h1 _ w1 le1 hr1 fun w2 le2 e2 i => ⟨fun d hd => ?_, fun hl => ⟨_, e2.seq (le2.g.seq hs), by rw [ra.length]; exact hl⟩⟩⟩⟩
        obtain ⟨v, ev, rp⟩ := ra.get hd
        refine ⟨⟨_, v, e2.seq (le2.g.seq hs), ev⟩, fun x H' hy => ⟨w2, Gr.refl w2, hy.1.symm, ?_⟩⟩
        have := hy.2 _ (e2.seq (le2.g.seq hs))
        rw [ev] at this
        cases this
        exact rp.mono le2.g
    | tuple ds =>
      cases ha with
      | tup hs ra =>
        refine ⟨_, rfl, .inr ⟨_, SqT.of (hr1.mem.ext _ _ hs), h1 _ w1 le1 hr1 fun w2 le2 e2 i => ⟨fun d hd => ?_, fun hl => ⟨_, SqT.of (e2 _ _ (le2.g _ _ hs)), by rw [ra.length]; exact hl⟩⟩⟩⟩
        obtain ⟨v, ev, rp⟩ := ra.get hd
        refine ⟨⟨_, v, SqT.of (e2 _ _ (le2.g _ _ hs)), ev⟩, fun x H' hy => ⟨w2, Gr.refl w2, hy.1.symm, ?_⟩⟩
        have := hy.2 _ (SqT.of (e2 _ _ (le2.g _ _ hs)))
        rw [ev] at this
        cases this
        exact rp.mono le2.g
    | none => exact h1.elim
    | bool _ => exact h1.elim
    | int _ => exact h1.elim
    | str _ => exact h1.elim
    | dict _ => exact h1.elim
/-- lo, lo + 1, .. -/
def rangeD (lo : Int) : Nat → List D
  | 0 => []
  | n + 1 => .int lo :: rangeD (lo + 1) n
theorem rangeD_len (n : Nat) : ∀ lo : Int, (rangeD lo n).length = n := by
  induction n with
  | zero => intro lo; rfl
  | succ n ih => intro lo; show (rangeD (lo + 1) n).length + 1 = n + 1; rw [ih]
theorem rangeD_get : ∀ (n : Nat) (lo : Int) (i : Nat) (d : D), (rangeD lo n)[i]? = some d → i < n ∧ d = .int (lo + i)
  | 0, lo, i, d, h => by simp [rangeD] at h
  | n + 1, lo, 0, d, h => by
    have h : some (PyData.int lo) = some d := h
    cases h
    exact ⟨Nat.succ_pos _, by simp⟩
  | n + 1, lo, i + 1, d, h => by
    obtain ⟨h1, h2⟩ := rangeD_get n (lo + 1) i d h
    refine ⟨by omega, ?_⟩
    rw [h2]
    congr 1
    omega
theorem it_range {K : Fg} {w : Wd} {lo : Int} {n : Nat} : ItOk K w (Itr lo n) (rangeD lo n) := fun w2 le2 e2 i => ⟨fun d hd => by
  obtain ⟨h1, h2⟩ := rangeD_get n lo i d hd
  refine ⟨h1, fun x H' hy => ⟨w2, Gr.refl w2, hy.1.symm, ?_⟩⟩
  rw [hy.2, h2]
  exact .int _, fun hl => by
  rw [rangeD_len] at hl
  exact hl⟩
def small62 (i : Int) : Bool := decide (-(2 ^ 62) ≤ i ∧ i < 2 ^ 62)
def ciR1 (c : CE) : CI := fun s => (cv c s).bind fun a s1 => match a with
  | .d (.int n) => if small62 n = true then .ok (rangeD 0 n.toNat) s1 else .bad
  | _ => .bad
theorem i_range1 {tg a : Expr} {c : CE} {p pos : Pos} (h : Ex X ec W a c) (hm : X.mg "range" = none) (hg : Gl X "range" := by rfl) (hs : starEach [a] X.env = [(false, eval a X.env)] := by rfl) (h0 : starEach [a] X.env = (false, eval a X.env) :: starEach [] X.env := by rfl) : Ix X ec W tg (.Call (.Name "range" p) [a] [] pos) (ciR1 c) :=
  PI.imp (pi_range1 hg hm (pa_cons h pa_nil h0) hs) fun σ H R h => by
    obtain ⟨w, s, rfl, hr, h⟩ := h
    refine run_cv hr h fun x w1 s1 a le1 hr1 ha hn h1 => ?_
    cases a with
    | ref n => exact h1.elim
    | t _ _ => exact h1.elim
    | new c => exact h1.elim
    | d y =>
      have ha : Rp X.K w1.G x y := ha
      cases y with
      | int n =>
        cases ha
        by_cases hq : small62 n = true
        · simp only [hq, if_true] at h1
          have hq := of_decide_eq_true hq
          exact ⟨n, rfl, hq.1, hq.2, h1 _ w1 le1 hr1 it_range⟩
        · simp only [hq] at h1
          exact h1.elim
      | none => exact h1.elim
      | bool _ => exact h1.elim
      | str _ => exact h1.elim
      | list _ => exact h1.elim
      | tuple _ => exact h1.elim
      | dict _ => exact h1.elim
/-! ### loops -/
def forL (tg : Tg) (body : CS) : List D → S → Out
  | [], s => .nx s
  | d :: ds, s => match tg d s with
    | none => .bad
    | some s1 => match body s1 with
      | .nx s2 => forL tg body ds s2
      | .ct s2 => forL tg body ds s2
      | .bk s2 => .nx s2
      | o => o
def cFor (ci : CI) (tg : Tg) (body : CS) : CS := fun s => (ci s).out fun ds s1 => forL tg body ds s1
theorem s_for {own : List Nat} {iter tgt : Expr} {body : List Stmt} {ci : CI} {tg : Tg} {cb : CS} {pos : Pos} (hp : PassesOwn (model X.prog X.w) X.A X.env X.xe) (hi : Ix X ec W tgt iter ci) (hg : PG X tgt (rdG ec X.K own tg)) (hb : Bx X ec W body cb) (hcal : X.calm = true := by rfl)
    (hs : ∀ x, foldedSetIterable iter X.env x = pure x := by intro _; rfl) : Sx X ec W (.For tgt iter body [] pos) (cFor ci tg cb) := (ps_for hp hcal hi hg hb hs).imp fun D σ H h => by
  obtain ⟨w, s, rfl, hr, h⟩ := h
  refine ⟨w, s, rfl, hr, ?_⟩
  unfold cFor at h
  cases e : ci s with
  | bad => rw [e] at h; exact h
  | ex n s' => rw [e] at h; exact okX_E h
  | ok ds s0 =>
    rw [e] at h
    intro J w0 le0 r0 hJ
    refine ⟨fun i m σ1 H1 => ∃ w1 s1, w1.H = H1 ∧ Le w0 w1 ∧ Rel ec X.K w1 σ1 s1 ∧ i + m = ds.length ∧ OOk X.K ec W D w1 (forL tg cb (ds.drop i) s1), ⟨ds.length, w0, s0, rfl, Le.refl _, r0, Nat.zero_add _, OOk.le le0 h⟩, fun i m σ1 H1 hW => ?_⟩
    obtain ⟨w1, s1, rfl, le1, r1, hm, h1⟩ := hW
    obtain ⟨hgo, hst⟩ := hJ w1 le1 r1.mem.ext i
    by_cases hi' : i < ds.length
    · have hd : ds[i]? = some ds[i] := List.getElem?_eq_getElem hi'
      obtain ⟨g1, g2⟩ := hgo _ hd
      rw [List.drop_eq_getElem_cons hi'] at h1
      unfold forL at h1
      refine .inr ⟨g1, fun σ' H' => ∃ w' s', w'.H = H' ∧ Le w0 w' ∧ Rel ec X.K w' σ' s' ∧ (i + 1) + (m - 1) = ds.length ∧ OOk X.K ec W D w' (forL tg cb (ds.drop (i + 1)) s'), fun σ' H' ⟨w', s', a1, a2, a3, a4, a5⟩ => ⟨m - 1, by omega, w', s', a1, a2, a3, a4, a5⟩, fun x H' hy => ?_⟩
      obtain ⟨w2, gr, rfl, rp⟩ := g2 x H' hy
      have r2 := r1.grow gr
      cases et : tg ds[i] s1 with
      | none => rw [et] at h1; exact h1.elim
      | some s2 =>
        rw [et] at h1
        refine ⟨w2, s1, ds[i], rfl, r2, rp, s2, et, fun σ' _ r3 => ⟨w2, s2, rfl, r3, ?_⟩⟩
        have h2 := OOk.le gr.le h1
        dsimp only at h2
        cases eb : cb s2 with
        | nx s3 =>
          rw [eb] at h2
          exact fun σ4 w4 le4 r4 => ⟨w4, s3, rfl, (le1.trans gr.le).trans le4, r4, by omega, OOk.le le4 h2⟩
        | ct s3 =>
          rw [eb] at h2
          exact fun σ4 w4 le4 r4 => ⟨w4, s3, rfl, (le1.trans gr.le).trans le4, r4, by omega, OOk.le le4 h2⟩
        | bk s3 => rw [eb] at h2; exact h2
        | rt a s3 => rw [eb] at h2; exact h2
        | ex n s3 => rw [eb] at h2; exact h2
        | bad => rw [eb] at h2; exact h2
    · refine .inl ⟨hst (by omega), ?_⟩
      rw [List.drop_eq_nil_of_le (by omega)] at h1
      exact h1 σ1 w1 (Le.refl _) r1
def whL (t : CT) (b : CS) : Nat → S → Out
  | 0, _ => .bad
  | n + 1, s => (t s).out fun x s1 => if x = true then (match b s1 with
      | .nx s2 => whL t b n s2
      | .ct s2 => whL t b n s2
      | .bk s2 => .nx s2
      | o => o) else .nx s1
def cWh (fu : S → Nat) (t : CT) (b : CS) : CS := fun s => whL t b (fu s) s
theorem s_while {c : Expr} {body : List Stmt} {ct : CT} {cb : CS} {pos : Pos} (fu : S → Nat) (hp : PassesOwn (model X.prog X.w) X.A X.env X.xe) (hc : Tx X ec W c ct) (hb : Bx X ec W body cb) : Sx X ec W (.While c body [] pos) (cWh fu ct cb) := (ps_while hp hc hb).imp fun D σ H h => by
  obtain ⟨w, s, rfl, hr, h⟩ := h
  refine ⟨fun m σ1 H1 => ∃ w1 s1, w1.H = H1 ∧ Rel ec X.K w1 σ1 s1 ∧ OOk X.K ec W D w1 (whL ct cb m s1), ⟨fu s, w, s, rfl, hr, h⟩, fun m σ1 H1 hW => ?_⟩
  obtain ⟨w1, s1, rfl, r1, h1⟩ := hW
  cases m with
  | zero => exact h1.elim
  | succ m =>
    refine run_tS r1 (k := fun x s1 => if x = true then (match cb s1 with
      | .nx s2 => whL ct cb m s2
      | .ct s2 => whL ct cb m s2
      | .bk s2 => .nx s2
      | o => o) else .nx s1) h1 fun x w2 s2 le2 r2 h2 => ?_
    cases x with
    | false =>
      rw [if_neg Bool.false_ne_true] at h2 ⊢
      exact h2 σ1 w2 le2 r2
    | true =>
      rw [if_pos rfl] at h2 ⊢
      refine ⟨fun σ' H' => ∃ w' s', w'.H = H' ∧ Rel ec X.K w' σ' s' ∧ OOk X.K ec W D w' (whL ct cb m s'), fun σ' H' q => ⟨m, Nat.lt_succ_self m, q⟩, w2, s2, rfl, r2, ?_⟩
      have h3 := OOk.le le2 h2
      cases eb : cb s2 with
      | nx s3 =>
        rw [eb] at h3
        exact fun σ4 w4 le4 r4 => ⟨w4, s3, rfl, r4, OOk.le le4 h3⟩
      | ct s3 =>
        rw [eb] at h3
        exact fun σ4 w4 le4 r4 => ⟨w4, s3, rfl, r4, OOk.le le4 h3⟩
      | bk s3 => rw [eb] at h3; exact h3
      | rt a s3 => rw [eb] at h3; exact h3
      | ex n s3 => rw [eb] at h3; exact h3
      | bad => rw [eb] at h3; exact h3
end
end Vm
namespace Vm
open PySem L2 PySem.Spec PyProof.Rows
/-! ### defs and their calls -/
inductive RF where
  | ok (a : Rv) (m : List Cell)
  | ex (e : String) (m : List Cell)
  | bad
abbrev Fn := List Sl → List Cell → RF
def ArgsOk (ec : EC) (K : Fg) (w : Wd) : List V → List Sl → Prop := Paired fun v sl => SlOk ec K w (some (some v)) sl
def FOk (K : Fg) (ec : EC) (Q : VK) (E : XK) (w : Wd) : RF → Prop
  | .ok a m' => ∀ x w', Le w w' → Mem ec K w' m' → RvOk K w' x a → FrR w x a → Q x w'.H
  | .ex e m' => ∀ w', Le w w' → Mem ec K w' m' → E (.ref (ec e)) none w'.H
  | .bad => False
def spF (K : Fg) (ec : EC) (n : Nat) (f : Fn) : Sp := fun vs H Q E => vs.length = n ∧ ∃ w m as, w.H = H ∧ Mem ec K w m ∧ ArgsOk ec K w vs as ∧ FOk K ec Q E w (f as m)
/-- arguments of a call of a def: data, cells by themselves -/
abbrev CL := S → R (List Sl)
def lNil : CL := fun s => .ok [] s
def lCons (c : CE) (cl : CL) : CL := fun s => (cv c s).bind fun a s1 => match slOf a with
  | some sl => (cl s1).bind fun r s2 => .ok (sl :: r) s2
  | none => .bad
def rdL (K : Fg) (ec : EC) (W : WX) (c : CL) : TA := fun σ H Q => ∃ w s, w.H = H ∧ Rel ec K w σ s ∧ Res (fun as s' => ∀ vs w', Le w w' → Rel ec K w' σ s' → ArgsOk ec K w' vs as → Q vs w'.H) (okE K ec W σ w) (c s)
/-! ### defs that are called with no repr under way -/
structure Rg (k : Nat) (A : Around) : Prop where
  r : Room k A
  g : A.guards = some []
theorem Rg.mono {j k : Nat} {A : Around} (q : Rg k A) (h : j ≤ k) : Rg j A := ⟨q.r.mono h, q.g⟩
theorem Rg.units {k : Nat} {A : Around} (q : Rg k A) : A.units + 64 < cLine := q.r.units
theorem hu_of {k : Nat} {A : Around} (q : Rg k A) : A.units + 1 < cLine := L2.hu_of q.r
structure FnG (P : Program) (wo : World) (K : Fg) (mg : Str → Option Value) (base : Heap) (k : Nat) (f : Addr) (fd : FuncData) (ps : List Str) (sp : Sp) : Prop where
  len : ∀ vs H Q E, sp vs H Q E → vs.length = ps.length
  go : ∀ {A : Around} {out : List Env} {s : Shared} {H : Hp} {as : Args} {us : List Value} {vs : List V} {Q : VK} {E : XK}, Rg k A → Env0 P wo K mg base A out s H → BindsTo s fd as (ps.zip us) → Vals vs us → sp vs H Q E →
    codeAny (model P wo) A (.call (.ref f) as) (CR (L2.CX P wo) out P wo H s Q E) s
theorem FnG.imp {P : Program} {wo : World} {K : Fg} {mg : Str → Option Value} {base : Heap} {k : Nat} {f : Addr} {fd : FuncData} {ps : List Str} {sp sp' : Sp} (F : FnG P wo K mg base k f fd ps sp) (h : ∀ vs H Q E, sp' vs H Q E → sp vs H Q E) : FnG P wo K mg base k f fd ps sp' :=
  ⟨fun vs H Q E q => F.len vs H Q E (h _ _ _ _ q), fun a b c d q => F.go a b c d (h _ _ _ _ q)⟩
theorem run_fnG {X : Cx} {k : Nat} {f : Addr} {fd : FuncData} {ps : List Str} {sp : Sp} {E : L2.St → XK} {pins : List (Addr × Obj)} {σ : L2.St} {H : Hp} {s : Shared} {Q : VK} {us : List Value} {vs : List V} (F : FnG X.prog X.w X.K X.mg X.base k f fd ps sp) (hr : Rg k X.A) (bi : Binds X.K fd ps [])
    (px : PassesAt (L2.CX X.prog X.w) X σ (E σ)) (J : Inv X pins σ H s) (rv : Vals vs us) (q : sp vs H Q (E σ)) : wpAny (model X.prog X.w) X.A (call (.ref f) us) (EP X pins σ Q) X.xe s := by
  have ln : (us ++ []).length = ps.length := by rw [List.append_nil, ← rv.length]; exact F.len _ _ _ _ q
  have b2 := bi s us J.kIn (by simpa using ln)
  rw [List.append_nil] at b2
  refine wpAny_call (codeAny_mono (F.go hr J.env0 b2 rv q) fun r s2 hz => ?_)
  rcases r with e | (_ | u | _ | _)
  · exact px pins H s e s2 J hz
  · exact False.elim hz
  · first | exact J.after hz | exact False.elim hz
  · first | exact J.after hz | exact False.elim hz
  · first | exact J.after hz | exact False.elim hz
theorem pe_callG {X : Cx} {k : Nat} {f : Addr} {fd : FuncData} {ps : List Str} {sp : Sp} {E : L2.St → XK} {x : Str} {p pos : Pos} {e : Expr} {es : List Expr} {t : TA} (F : FnG X.prog X.w X.K X.mg X.base k f fd ps sp) (hr : Rg k X.A) (gl : Gl X x) (gm : X.mg x = some (.ref f)) (kp : PySem.W.keepIn X.K (.ref f) = true) (bi : Binds X.K fd ps []) (px : ∀ σ, PassesAt (L2.CX X.prog X.w) X σ (E σ))
    (ha : PA X (e :: es) t) (db : (x == ("__debug__" : Str)) = false) (st : starEach (e :: es) X.env = (false, eval e X.env) :: starEach es X.env) (pl : (backTo pos (starEach es X.env)).any (·.1) = false) : PE X (.Call (.Name x p) (e :: es) [] pos) (tCallS sp E t) := by
  constructor
  intro pins s σ H Q J h
  refine wpAny_Call_Name_kw (ld_glob J gl gm ?_ db)
  exact PySem.W.callWith_K (h₀ := X.base) J.ok.mod.kin kp (thn (ha.run pos pins s σ H _ J h) fun us s2 ⟨vs, H2, J2, rv, q⟩ => ⟨J2.kIn, run_fnG F hr bi (px σ) J2 rv q⟩) st pl
section
variable {X : Cx} {ec : EC} {W : WX}
theorem l_nil : PA X [] (rdL X.K ec W lNil) := PA.imp pa_nil fun σ H Q h => by
  obtain ⟨w, s, rfl, hr, h⟩ := h
  exact h [] w (Le.refl w) hr .nil
theorem l_cons {e : Expr} {es : List Expr} {c : CE} {cl : CL} (h1 : Ex X ec W e c) (h2 : PA X es (rdL X.K ec W cl)) (hs : starEach (e :: es) X.env = (false, eval e X.env) :: starEach es X.env := by rfl) : PA X (e :: es) (rdL X.K ec W (lCons c cl)) :=
  PA.imp (pa_cons h1 h2 hs) fun σ H Q h => by
    obtain ⟨w, s, rfl, hr, h⟩ := h
    show rd X.K ec W c σ w.H _
    refine run_cv hr h fun x w1 s1 a le1 hr1 ha hn h1 => ?_
    cases e1 : slOf a with
    | none => simp only [e1] at h1; exact h1.elim
    | some sl =>
      simp only [e1] at h1
      refine ⟨w1, s1, rfl, hr1, ?_⟩
      refine Res.mono h1.bind (fun as s2 h2 vs w2 le2 hr2 rp => ?_) fun _ _ q => okE_le le1 q
      exact h2 (x :: vs) w2 (le1.trans le2) hr2 (.cons (slOk_mono le2 (slOf_ok ha e1)) rp)
def RF.toR (v : List Sl) : RF → R Rv
  | .ok a m => .ok a ⟨v, m⟩
  | .ex e m => .ex e ⟨v, m⟩
  | .bad => .bad
def cCall (f : Fn) (cl : CL) : CE := fun s => (cl s).bind fun as s1 => (f as s1.m).toR s1.v
theorem rel_mem {K : Fg} {w w' : Wd} {σ : L2.St} {v : List Sl} {m m' : List Cell} (le : Le w w') (r : Rel ec K w σ ⟨v, m⟩) (h : Mem ec K w' m') : Rel ec K w' σ ⟨v, m'⟩ := ⟨h, r.len, fun i sl e => slOk_mono le (r.slot i sl e)⟩
theorem e_call {k : Nat} {fa : Addr} {fd : FuncData} {ps : List Str} {f : Fn} {x : Str} {p pos : Pos} {e : Expr} {es : List Expr} {cl : CL} {n : Nat} (F : FnG X.prog X.w X.K X.mg X.base k fa fd ps (spF X.K ec n f)) (hr : Rg k X.A) (hm : X.mg x = some (.ref fa)) (hk : PySem.W.keepIn X.K (.ref fa) = true) (hb : Binds X.K fd ps [])
    (tk : Takes X W) (ha : PA X (e :: es) (rdL X.K ec W cl)) (hl : ∀ s as s', cl s = .ok as s' → as.length = n) (hg : Gl X x := by rfl) (hdb : (x == ("__debug__" : Str)) = false := by decide) (he : starEach (e :: es) X.env = (false, eval e X.env) :: starEach es X.env := by rfl)
    (hpl : (backTo pos (starEach es X.env)).any (·.1) = false := by rfl) : Ex X ec W (.Call (.Name x p) (e :: es) [] pos) (cCall f cl) :=
  (pe_callG F hr hg hm hk hb (fun σ => passAt tk σ) ha hdb he hpl).imp fun σ H Q h => by
    obtain ⟨w, s, rfl, hr, h⟩ := h
    refine ⟨w, s, rfl, hr, ?_⟩
    unfold cCall at h
    cases e1 : cl s with
    | bad => rw [e1] at h; exact h
    | ex n s' => rw [e1] at h; exact h
    | ok as s1 =>
      rw [e1] at h
      intro vs w1 le1 r1 ao
      refine ⟨by rw [paired_len ao]; exact hl _ _ _ e1, w1, s1.m, as, rfl, r1.mem, ao, ?_⟩
      have h1 : Res (okV ec X.K w σ Q) (okE X.K ec W σ w) ((f as s1.m).toR s1.v) := h
      cases e2 : f as s1.m with
      | bad => rw [e2] at h1; exact h1
      | ex n m' =>
        rw [e2] at h1
        exact fun w2 le2 m2 => h1 w2 (le1.trans le2) (rel_mem le2 r1 m2)
      | ok a m' =>
        rw [e2] at h1
        exact fun x w2 le2 m2 o fr => h1 x w2 (le1.trans le2) (rel_mem le2 r1 m2) o (fr.back le1 le2 o)
/-- a written list of arguments has its length -/
def LLen (n : Nat) (cl : CL) : Prop := ∀ s as s', cl s = .ok as s' → as.length = n
theorem ll_nil : LLen 0 lNil := fun s as s' e => by
  cases e
  rfl
theorem ll_cons {n : Nat} {c : CE} {cl : CL} (h : LLen n cl) : LLen (n + 1) (lCons c cl) := fun s as s' e => by
  unfold lCons at e
  cases e1 : cv c s with
  | bad => rw [e1] at e; cases e
  | ex _ _ => rw [e1] at e; cases e
  | ok a s1 =>
    rw [e1] at e
    simp only [R.bind] at e
    cases e3 : slOf a with
    | none => rw [e3] at e; cases e
    | some sl =>
      rw [e3] at e
      dsimp only at e
      cases e2 : cl s1 with
      | bad => rw [e2] at e; cases e
      | ex _ _ => rw [e2] at e; cases e
      | ok xs s2 =>
        rw [e2] at e
        cases e
        show xs.length + 1 = n + 1
        rw [h _ _ _ e2]
end
/-- a def's run: its slots, its cells gone behind it; a list or dict of its own is handed back as new -/
def fin (m : List Cell) : Out → RF
  | .nx s => .ok (.d .none) (s.m.take m.length)
  | .rt (.ref k) s => if m.length ≤ k then (match s.m[k]? with
    | some .gone => .bad
    | some c => .ok (.new c) (s.m.take m.length)
    | none => .bad) else .bad
  | .rt (.t _ _) _ => .bad
  | .rt a s => .ok a (s.m.take m.length)
  | .ex e s => .ex e (s.m.take m.length)
  | _ => .bad
def runF (n : Nat) (c : CS) : Fn := fun as m => fin m (c ⟨as ++ List.replicate (n - as.length) .u, m⟩)
theorem nv_cut {w w' : Wd} {m m' : List Cell} {G : Hp} (hl : w.r.length = m.length) (le : Le w w') (h : NV ec w' m') : NV ec ⟨G, w.r, w.F, w'.H⟩ (m'.take m.length) := by
  refine ⟨fun t q n j ds e1 e2 => ?_, fun p hp => h.2 p (by rw [le.s]; exact hp)⟩
  have ht : t < m.length := by
    rw [← hl]
    exact (List.getElem?_eq_some_iff.mp e1).1
  rw [List.getElem?_take_of_lt ht] at e2
  obtain ⟨h1, h2⟩ := h.1 t q n j ds (le.cell e1) e2
  refine ⟨h1, fun p ks e3 e4 => ?_⟩
  rw [List.getElem?_take_of_lt (by omega)] at e4
  exact h2 p ks (le.cell e3) e4
theorem cut_mem {K : Fg} {w w' : Wd} {m m' : List Cell} (le : Le w w') (hm : Mem ec K w m) (h : Mem ec K w' m') : Mem ec K ⟨w'.G, w.r, w.F, w'.H⟩ (m'.take m.length) ∧ Le w ⟨w'.G, w.r, w.F, w'.H⟩ := by
  have hp : ∀ (n : Nat) (p : Addr), w.r[n]? = some p → w'.r[n]? = some p := fun n p e => le.cell e
  have hl : m.length ≤ m'.length := by
    rw [← hm.len, ← h.len]
    exact le.p.length_le
  have l3 : Le w ⟨w'.G, w.r, w.F, w'.H⟩ := ⟨le.g, le.k, List.prefix_refl _, fun _ q => .inl q, rfl⟩
  refine ⟨⟨h.ext, ?_, hm.nd, fun n p c h1 h2 => ?_, fun p q => ?_, hm.tab.back h.tab, hm.inv.trans (l3.ch _), h.gt, nv_cut hm.len le h.nv⟩, l3⟩
  · show w.r.length = (m'.take m.length).length
    rw [List.length_take, hm.len]
    omega
  · have h2 : (m'.take m.length)[n]? = some c := h2
    have hn : n < m.length := by
      rw [← hm.len]
      exact (List.getElem?_eq_some_iff.mp h1).1
    rw [List.getElem?_take_of_lt hn] at h2
    exact h.cell n p c (hp n p h1) h2
  · have q' : w'.F p := by rw [le.s]; exact q
    obtain ⟨a, b, c⟩ := h.fo p q'
    exact ⟨a, (hm.fo p q).2.1, c⟩
theorem start_slot {n : Nat} {vs : List V} {as : List Sl} {K : Fg} {w : Wd} {N : List Str} (hN : N.length = n) (ao : ArgsOk ec K w vs as) (i : Nat) (sl : Sl) (e : (as ++ List.replicate (n - as.length) Sl.u)[i]? = some sl) : SlOk ec K w (L2.start N vs)[i]? sl := by
  have hlen := paired_len ao
  by_cases hi : i < as.length
  · rw [List.getElem?_append_left hi] at e
    unfold L2.start
    rw [List.getElem?_append_left (by rw [List.length_map]; omega), List.getElem?_map]
    have key : ∀ {vs : List V} {as : List Sl} {i : Nat} {sl : Sl}, ArgsOk ec K w vs as → as[i]? = some sl → SlOk ec K w (Option.map some vs[i]?) sl := by
      intro vs as i sl h
      induction h generalizing i with
      | nil => intro e; simp at e
      | cons r t ih =>
        intro e
        cases i with
        | zero =>
          simp at e
          subst e
          exact r
        | succ i =>
          simp only [List.getElem?_cons_succ] at e ⊢
          exact ih e
    exact key ao e
  · rw [List.getElem?_append_right (by omega), List.getElem?_replicate] at e
    split at e
    · cases e
      trivial
    · cases e
theorem rel_start {K : Fg} {w : Wd} {m : List Cell} {vs : List V} {as : List Sl} {N : List Str} (hm : Mem ec K w m) (ao : ArgsOk ec K w vs as) : Rel ec K w (L2.start N vs) ⟨as ++ List.replicate (N.length - as.length) .u, m⟩ := by
  refine ⟨hm, ?_, fun i sl e => start_slot rfl ao i sl e⟩
  show (L2.start N vs).length = (as ++ List.replicate (N.length - as.length) Sl.u).length
  unfold L2.start
  rw [List.length_append, List.length_append, List.length_map, List.length_replicate, List.length_replicate, paired_len ao]
theorem fin_ok {K : Fg} {ec : EC} {Q : VK} {E : XK} {w : Wd} {m : List Cell} {o : Out} (hm : Mem ec K w m) (h : FOk K ec Q E w (fin m o)) : OOk K ec (fun cls d _ H => E cls d H) { nx := fun _ H' => Q .non H', rt := Q } w o := by
  cases o with
  | bad => exact h
  | bk s => exact h.elim
  | ct s => exact h.elim
  | nx s =>
    intro σ' w' le r
    obtain ⟨m2, le2⟩ := cut_mem le hm r.mem
    exact h .non ⟨w'.G, w.r, w.F, w'.H⟩ le2 m2 .non .d
  | ex e s =>
    intro σ' w' le r
    obtain ⟨m2, le2⟩ := cut_mem le hm r.mem
    exact h ⟨w'.G, w.r, w.F, w'.H⟩ le2 m2
  | rt a s =>
    intro x σ' w' le r o f
    obtain ⟨m2, le2⟩ := cut_mem le hm r.mem
    cases a with
    | d y => exact h x ⟨w'.G, w.r, w.F, w'.H⟩ le2 m2 o .d
    | t b es => exact h.elim
    | new c =>
      obtain ⟨p, ex, ⟨h1, h2⟩, hc⟩ := o
      refine h x ⟨w'.G, w.r, w.F, w'.H⟩ le2 m2 ⟨p, ex, ⟨fun z => h1 (le.mem z), fun z => h2 (by rw [le.s]; exact z)⟩, hc⟩ fun c' e' p' ep => f c' e' p' ep
    | ref k =>
      obtain ⟨p, rfl, hk⟩ := o
      unfold fin at h
      by_cases hl : m.length ≤ k
      · have h : FOk K ec Q E w (match s.m[k]? with
          | some .gone => .bad
          | some c => .ok (.new c) (s.m.take m.length)
          | none => .bad) := by
          simpa only [hl, if_true] using h
        cases ec' : s.m[k]? with
        | none => rw [ec'] at h; exact h.elim
        | some c =>
          rw [ec'] at h
          have hc := r.mem.cell k p c hk ec'
          have np : p ∉ w.r := fun z => by
            obtain ⟨j, hj⟩ := List.getElem?_of_mem z
            have hj2 := le.cell hj
            have : j = k := nd_ix r.mem.nd hj2 hk
            have hj3 := (List.getElem?_eq_some_iff.mp hj).1
            rw [hm.len] at hj3
            omega
          have fp : w.H p = none := by
            rcases le.f p (List.mem_of_getElem? hk) with z | z
            · exact absurd z np
            · exact z
          have nf : ¬ w.F p := fun z => by
            have z' : w'.F p := by rw [le.s]; exact z
            exact (r.mem.fo p z').2.1 (List.mem_of_getElem? hk)
          cases c with
          | gone => exact h.elim
          | l ds => exact h (.ref p) ⟨w'.G, w.r, w.F, w'.H⟩ le2 m2 ⟨p, rfl, ⟨np, nf⟩, hc⟩ fun _ _ q eq => by cases eq; exact fp
          | k ds => exact h (.ref p) ⟨w'.G, w.r, w.F, w'.H⟩ le2 m2 ⟨p, rfl, ⟨np, nf⟩, hc⟩ fun _ _ q eq => by cases eq; exact fp
          | t ds => exact h (.ref p) ⟨w'.G, w.r, w.F, w'.H⟩ le2 m2 ⟨p, rfl, ⟨np, nf⟩, hc⟩ fun _ _ q eq => by cases eq; exact fp
          | r ds => exact h (.ref p) ⟨w'.G, w.r, w.F, w'.H⟩ le2 m2 ⟨p, rfl, ⟨np, nf⟩, hc⟩ fun _ _ q eq => by cases eq; exact fp
          | i n j ds => exact h (.ref p) ⟨w'.G, w.r, w.F, w'.H⟩ le2 m2 ⟨p, rfl, ⟨np, nf⟩, hc⟩ fun _ _ q eq => by cases eq; exact fp
      · simp only [hl, if_false] at h
        exact h.elim
/-- THE RULE of a def -/
theorem fn_ok {P : Program} {wo : World} {K : Fg} {mg : Str → Option Value} {base : Heap} {ec : EC} {x qual : Str} {st : Stmt} {f : Addr} {fd : FuncData} {N ps : List Str} {k : Nat} (F : Fun K x qual st f fd) (S : FnScope N ps (defScope st)) (c : CS)
    (hb : ∀ (cdv : Value) (A : Around) (outer : List Env) (s : Shared) (H : Hp) (E : XK), Rg k (A.deeper (envOfC qual (defScope st) s.heap.objs.size f cdv)) → Takes (cxOf (L2.CX P wo) P wo K mg base N qual (defScope st) f cdv A outer s H E) (fun cls d _ H => E cls d H) →
      PassesOwn (model P wo) (A.deeper (envOfC qual (defScope st) s.heap.objs.size f cdv)) (envOfC qual (defScope st) s.heap.objs.size f cdv) (cxOf (L2.CX P wo) P wo K mg base N qual (defScope st) f cdv A outer s H E).xe →
      PSs (cxOf (L2.CX P wo) P wo K mg base N qual (defScope st) f cdv A outer s H E) (defBody st) (rdS K ec (fun cls d _ H => E cls d H) c)) :
    FnG P wo K mg base (k + 1) f fd ps (spF K ec ps.length (runF N.length c)) := by
  obtain ⟨oc, od, kV, doc, pm, an, cdv, ct, osl, rfl, lk, hcd⟩ := F.ex
  refine ⟨fun vs H Q E h => h.1, fun {A out s H as us vs Q E} rg e0 bd rv h => ?_⟩
  have inH : K.In s.heap := e0.mod.kin.keeps fun b o e => (e0.bs b o e).1
  have noL : s.heap.NoLimit := e0.mod.nolimit.keeps fun b o e => (e0.bs b o e).1
  refine codeAny_call_function rg.r.depth (inH _ _ lk) rfl S.co S.gen rfl (PySem.W.codeRec_of inH hcd) (bd _ _ _ _ ?_)
  refine wpAny_newFunctionEnv_cells S.kind (fun ⟨n, v⟩ hy => ?_) fun env he s1 z => ?_
  · rcases S.par n (List.of_mem_zip hy).1 with q | q
    · exact .inl q
    · exact .inr ⟨q, PySem.W.cellsFrom_some _ _ _ (.inl q)⟩
  subst he
  refine ⟨noL.keeps z.toInCall.keep, codeAny_func ?_⟩
  have body := hb cdv A out s H E ⟨rg.r.deeper _, rg.g⟩ (takes_of rfl rfl rfl rfl) (passes_of rfl)
  have J : Inv (cxOf (L2.CX P wo) P wo K mg base N qual (defScope st) f cdv A out s H E) [] (start N vs) H s1 := inv_start S rg.r.hd e0 h.1 rv z
  obtain ⟨hl, w, m, aa, rfl, hm, ao, h⟩ := h
  refine wpAny_mono (body.run [] s1 (start N vs) w.H _ J ⟨w, _, rfl, rel_start hm ao, fin_ok hm h⟩) (fun fl s2 hs => ?_) fun e s2 hs => hs
  have out : ∀ {σ' : L2.St} {H' : Hp} {v : V} {u : Value}, Inv (cxOf (L2.CX P wo) P wo K mg base N qual (defScope st) f cdv A out s w.H E) [] σ' H' s2 → RelV v u → Q v H' → L2.CE out P wo w.H s Q u s2 :=
    fun {σ' H' v u} J2 rv2 q2 => ⟨v, H', J2.os, J2.bare, J2.base, J2.hok, rv2, q2⟩
  cases fl with
  | next =>
    obtain ⟨σ', H', J2, q2⟩ := hs
    exact out (v := V.non) (u := Value.none) J2 rfl q2
  | ret u =>
    obtain ⟨v, σ', H', J2, rv2, q2⟩ := hs
    exact out J2 rv2 q2
  | brk =>
    obtain ⟨_, _, _, q2⟩ := hs
    exact q2.elim
  | cont =>
    obtain ⟨_, _, _, q2⟩ := hs
    exact q2.elim
/-! ### raise -/
structure ExcF (K : Fg) (mg : Str → Option Value) (ec : EC) (x : Str) (n : String) : Prop where
  g : mg x = some (.ref (ec n))
  x : PySem.W.excIn K (ec n) [.type "ValueError", .type "Exception", .type "BaseException", .type "object"] "ValueError.__new__" = true
  k : PySem.W.keepIn K (.ref (ec n)) = true
  b : PySem.W.subIn K (.ref (ec n)) (.type "BaseException") = some true
  t : PySem.W.typeIn K (.ref (ec n)) = some (.type "type")
section
variable {X : Cx} {ec : EC} {W : WX}
def cRaise (n : String) : CS := fun s => .ex n s
theorem s_raise {x m : Str} {n : String} {j : Nat} {p p2 pos pos2 : Pos} (F : ExcF X.K X.mg ec x n) (tk : Takes X W) (hcal : X.calm = true := by rfl) (hg : Gl X x := by rfl) (hdb : (x == ("__debug__" : Str)) = false := by decide) : Sx X ec W (.Raise (some (.Call (.Name x p) [.Constant (.str m) j p2] [] pos)) none pos2) (cRaise n) :=
  (ps_raise hcal tk (pmk_own PySem.F.excBase_ValueError F.x F.g F.k (raises_own F.b F.t) hg hdb)).imp fun D σ H h => by
    obtain ⟨w, s, rfl, hr, h⟩ := h
    exact h σ w (Le.refl w) hr
/-! ### writing into a cell -/
def Cell.plain : Cell → Bool
  | .r _ => false
  | .i _ _ _ => false
  | _ => true
theorem nv_set {w : Wd} {m : List Cell} {n : Nat} {p : Addr} {o : HO} {c : Cell} (nd : w.r.Nodup) (hl : w.r.length = m.length) (hn : w.r[n]? = some p) (hF : ∀ q, w.F q → q ≠ p) (hc : c.plain = true) (h : NV ec w m) : NV ec ⟨w.G, w.r, w.F, upd w.H p o⟩ (m.set n c) := by
  have hnm : n < m.length := by
    rw [← hl]
    exact (List.getElem?_eq_some_iff.mp hn).1
  refine ⟨fun t q n0 j ds e1 e2 => ?_, fun q hq => ?_⟩
  · have ne : n ≠ t := fun z => by
      subst z
      rw [List.getElem?_set_self hnm] at e2
      cases e2
      cases hc
    rw [List.getElem?_set_ne ne] at e2
    obtain ⟨h1, h2⟩ := h.1 t q n0 j ds e1 e2
    refine ⟨h1, fun p' ks e3 e4 => ?_⟩
    have ne2 : n ≠ n0 := fun z => by
      subst z
      rw [List.getElem?_set_self hnm] at e4
      cases e4
      cases hc
    rw [List.getElem?_set_ne ne2] at e4
    obtain ⟨ws, k, e5, e6⟩ := h2 p' ks e3 e4
    refine ⟨ws, k, ?_, e6⟩
    have hp : p' ≠ p := fun z => ne2 (nd_ix nd hn (z ▸ e3))
    show upd w.H p o p' = _
    rw [upd_ne hp]
    exact e5
  · rcases h.2 q hq with z | ⟨u, e, z⟩
    · exact .inl z
    · refine .inr ⟨u, ?_, z⟩
      show upd w.H p o q = _
      rw [upd_ne (hF q hq)]
      exact e
theorem cell_set {K : Fg} {w : Wd} {σ : L2.St} {s : S} {n : Nat} {p : Addr} {o : HO} {c : Cell} (r : Rel ec K w σ s) (hn : w.r[n]? = some p) (hg : w.G p = none) (hc : COk K w.G (upd w.H p o) p c) (hpl : c.plain = true := by rfl) :
    Rel ec K ⟨w.G, w.r, w.F, upd w.H p o⟩ σ ⟨s.v, s.m.set n c⟩ ∧ Le w ⟨w.G, w.r, w.F, upd w.H p o⟩ := by
  have le : Le w ⟨w.G, w.r, w.F, upd w.H p o⟩ := ⟨Same.refl _, fun a u e na => ⟨u, by
    show upd w.H p o a = some u
    have hne : a ≠ p := by
      intro z
      subst z
      exact na (List.mem_of_getElem? hn)
    rw [upd_ne hne]
    exact e, fun _ => rfl⟩, List.prefix_refl _, fun _ h => .inl h, rfl⟩
  refine ⟨⟨⟨fun b u e => ?_, by show w.r.length = (s.m.set n c).length; rw [List.length_set]; exact r.mem.len, r.mem.nd, fun k q c' h1 h2 => ?_, fun q hq => ?_, (let ⟨_, a, b, c⟩ := r.liveN hn hg; r.mem.tab.put a b c), r.mem.inv.trans (le.ch _), r.mem.gt, nv_set r.mem.nd r.mem.len hn (fun q hq z => (r.mem.fo q hq).2.1 (z ▸ List.mem_of_getElem? hn)) hpl r.mem.nv⟩, r.len, fun i sl e => slOk_mono le (r.slot i sl e)⟩, le⟩
  · show upd w.H p o b = some u
    have hb : b ≠ p := by
      intro z
      subst z
      have e : w.G b = some u := e
      rw [hg] at e
      cases e
    rw [upd_ne hb]
    exact r.mem.ext b u e
  · have h2 : (s.m.set n c)[k]? = some c' := h2
    by_cases hk : n = k
    · subst hk
      have hl : n < s.m.length := by rw [← r.mem.len]; exact (List.getElem?_eq_some_iff.mp hn).1
      rw [List.getElem?_set_self hl] at h2
      cases h2
      have h1 : w.r[n]? = some q := h1
      rw [hn] at h1
      cases h1
      exact hc
    · rw [List.getElem?_set_ne hk] at h2
      have hq : q ≠ p := fun z => hk (nd_ix r.mem.nd hn (z ▸ h1))
      have c0 := r.mem.cell k q c' h1 h2
      refine cOk_mono (Same.refl _) (fun hc => ?_) (fun u _ e => ?_) c0
      · show w.G q = none
        cases c' with
        | l ds => exact c0.1
        | k kvs => exact c0.1
        | t kvs => exact c0.1
        | r ks => exact c0.1
        | i n j ds => exact c0.1
        | gone => exact absurd rfl hc
      · show upd w.H p o q = some u
        rw [upd_ne hq]
        exact e
  · obtain ⟨a, b, u, hu⟩ := r.mem.fo q hq
    refine ⟨a, b, u, ?_⟩
    show upd w.H p o q = some u
    have hne : q ≠ p := by
      intro z
      subst z
      exact b (List.mem_of_getElem? hn)
    rw [upd_ne hne]
    exact hu
/-! ### dicts -/
def getD {κ : Type} [DecidableEq κ] (kvs : List (κ × D)) (k : κ) : Option D := (kvs.find? fun kv => decide (kv.1 = k)).map (·.2)
def putD {κ : Type} [DecidableEq κ] (kvs : List (κ × D)) (k : κ) (v : D) : List (κ × D) :=
  if (kvs.any fun kv => decide (kv.1 = k)) = true then kvs.map (fun kv => if kv.1 = k then (kv.1, v) else kv) else kvs ++ [(k, v)]
theorem kv_any {K : Fg} {G : Hp} {κ : Type} [DecidableEq κ] {k : κ} : ∀ {ws : List (κ × V)} {kvs : List (κ × D)}, KvAll K G ws kvs → (ws.any fun kv => decide (kv.1 = k)) = (kvs.any fun kv => decide (kv.1 = k))
  | _, _, .nil => rfl
  | (k1, v) :: ws, (k2, d2) :: kvs, .cons r t => by
    obtain ⟨e1, rp⟩ := r
    have e1 : k1 = k2 := e1
    subst e1
    rw [List.any_cons, List.any_cons, kv_any t]
theorem kv_put {K : Fg} {G : Hp} {κ : Type} [DecidableEq κ] {k : κ} {v : V} {d : D} (rv : Rp K G v d) {ws : List (κ × V)} {kvs : List (κ × D)} (h : KvAll K G ws kvs) : KvAll K G (putK ws k v) (putD kvs k d) := by
  unfold putK putD
  rw [kv_any h]
  split
  · have go : ∀ {ws : List (κ × V)} {kvs : List (κ × D)}, KvAll K G ws kvs → KvAll K G (ws.map fun kv => if kv.1 = k then (kv.1, v) else kv) (kvs.map fun kv => if kv.1 = k then (kv.1, d) else kv) := by
      intro ws kvs h
      induction h with
      | nil => exact .nil
      | cons r t ih =>
        rename_i a b l1 l2
        refine .cons ?_ ih
        obtain ⟨k1, v1⟩ := a
        obtain ⟨k2, d1⟩ := b
        obtain ⟨e1, rp⟩ := r
        have e1 : k1 = k2 := e1
        subst e1
        dsimp only
        split
        · exact ⟨rfl, rv⟩
        · exact ⟨rfl, rp⟩
    exact go h
  · have go : ∀ {ws : List (κ × V)} {kvs : List (κ × D)}, KvAll K G ws kvs → KvAll K G (ws ++ [(k, v)]) (kvs ++ [(k, d)]) := by
      intro ws kvs h
      induction h with
      | nil => exact .cons ⟨rfl, rv⟩ .nil
      | cons r t ih => exact .cons r ih
    exact go h
/-- a key from data -/
def keyOf : D → Option L2.Key
  | .int i => some (.inl i)
  | .str x => some (.inr x)
  | _ => none
def keysOf : List D → Option (List L2.Key)
  | [] => some []
  | d :: r => match keyOf d, keysOf r with
    | some k, some l => some (k :: l)
    | _, _ => none
def keyT : D → Option (List L2.Key)
  | .tuple ds => keysOf ds
  | _ => none
def getT (es : List (D × D)) (k : List L2.Key) : Option D := (es.find? fun e => decide (keyT e.1 = some k)).map (·.2)
theorem keyOf_kD {k : L2.Key} : keyOf (kD k) = some k := by
  cases k <;> rfl
theorem keysOf_kD : ∀ {ks : List L2.Key}, keysOf (ks.map kD) = some ks
  | [] => rfl
  | k :: ks => by
    show (match keyOf (kD k), keysOf (ks.map kD) with
      | some k, some l => some (k :: l)
      | _, _ => none) = _
    rw [keyOf_kD, keysOf_kD]
/-- what a look into a dict gives -/
def look : Od → Od → Option (Option D)
  | .c (.k kvs), .d x => match keyOf x with
    | some k => some (getD kvs k)
    | none => none
  | .c (.t kvs), .d (.tuple ds) => match keysOf ds with
    | some k => some (getD kvs k)
    | none => none
  | .d (.dict ((.list [], .none) :: es)), .d (.tuple ds) => match keysOf ds with
    | some k => some (getT es k)
    | none => none
  | _, _ => none
def opItem (o o' : Od) : Option Rv := match look o o' with
  | some (some d) => some (.d d)
  | _ => none
/-- a reading by the arguments' order turned -/
def cOp2r (f : Od → Od → Option Rv) (a b : CE) : CE := cOp2 (fun o o' => f o' o) a b
theorem cB_rd {c : CE} {σ : L2.St} {H : Hp} {Q : Bool → Hp → Prop} (h : rdT X.K ec W (cB c) σ H Q) : rd X.K ec W c σ H fun x H' => ∃ k, x = .bl k ∧ Q k H' := by
  obtain ⟨w, s, rfl, hr, h⟩ := h
  unfold cB at h
  refine run_cv hr h fun x w1 s1 a le1 hr1 ha hn h1 => ?_
  split at h1
  · have ha : Rp X.K w1.G x (.bool _) := ha
    cases ha
    exact ⟨_, rfl, h1 w1 le1 hr1⟩
  · exact h1.elim
/-- comparisons as tests -/
theorem t_cmp {op : CmpOp} {a b : Expr} {ca cb : CE} {r : R2} {f : Od → Od → Option Rv} {pos : Pos} (ho : OpR X (compareOp op) r) (hs : Op2S X.K r f) (ha : Ex X ec W a ca) (hb : Ex X ec W b cb) (hm : behindInMarks op b = false := by first | exact nomark _ | rfl) : Tx X ec W (.Compare a [op] [b] pos) (cB (cOp2 f ca cb)) :=
  (pt_cmpR ho ha hb hm).imp fun _ _ _ h => op2 hs (cB_rd h)
/-- d[k] = v -/
def putIn : Cell → D → D → Option Cell
  | .k kvs, x, v => match keyOf x with
    | some k => if kvs.length < 16000000 then some (.k (putD kvs k v)) else none
    | none => none
  | .t kvs, .tuple ds, v => match keysOf ds with
    | some k => if kvs.length < 16000000 then some (.t (putD kvs k v)) else none
    | none => none
  | _, _, _ => none
theorem lt16 {n : Nat} (h : n < 16000000) : n < sizeLine := Nat.lt_of_lt_of_le h (by decide)
def cPut (co ci cw : CE) : CS := fun s => (cv cw s).out fun v s1 => (cv co s1).out fun o s2 => (cv ci s2).out fun i s3 => match v, o, i with
  | .d v, .ref n, .d k => match s3.m[n]? with
    | some c => match putIn c k v with
      | some c' => .nx ⟨s3.v, s3.m.set n c'⟩
      | none => .bad
    | none => .bad
  | _, _, _ => .bad
end
end Vm
namespace Vm
open PySem L2
/-! ### what others hold -/
theorem Rel.f {K : Fg} {w : Wd} {σ : L2.St} {s : S} (r : Rel ec K w σ s) {F : Addr → Prop} (h : ∀ p, F p → w.G p = none ∧ p ∉ w.r ∧ ∃ o, w.H p = some o) (ht : TabOk ec F w.H) (hf : FT ec (w.f F)) : Rel ec K (w.f F) σ s :=
  ⟨⟨r.mem.ext, r.mem.len, r.mem.nd, r.mem.cell, h, ht, r.mem.inv, r.mem.gt, r.mem.nv.1, hf⟩, r.len, fun i sl e => by
    have q := r.slot i sl e
    cases sl with
    | u => trivial
    | d x => exact q
    | c n => exact q
    | x n => exact q
    | t _ _ => exact q
    | f => exact q⟩
/-- a new object that we hold for ourselves -/
abbrev Wd.hold (w : Wd) (p : Addr) (o : HO) : Wd := ⟨w.G, w.r, fun q => w.F q ∨ q = p, upd w.H p o⟩
theorem Rel.hold {K : Fg} {w : Wd} {σ : L2.St} {s : S} (r : Rel ec K w σ s) {p : Addr} {o : HO} (hp : w.H p = none) (n1 : NoTb o := by first | exact noTb_k | exact noTb_l | exact noTb_t) (n2 : NoTup o := by exact fun _ z => by cases z) : Rel ec K (w.hold p o) σ s := by
  have g := r.grow (gr_new (w := w) (o := o) hp)
  refine Rel.f g (F := fun q => w.F q ∨ q = p) (fun q hq => ?_) (g.mem.tab.f fun _ h => .inl h) fun q hq => hq.elim (fun hq => g.mem.nv.2 q hq) fun e => .inr ⟨o, by rw [e]; exact upd_same, n1, n2⟩
  rcases hq with hq | rfl
  · exact g.mem.fo q hq
  · refine ⟨r.mem.ext.free hp, fun m => ?_, o, upd_same⟩
    obtain ⟨u, hu⟩ := r.live m
    rw [hp] at hu
    cases hu
theorem Le.hold {w : Wd} {p : Addr} {o : HO} (hp : w.H p = none) : Le w ((w.hold p o).f w.F) := (gr_new (w := w) (o := o) hp).le
theorem Rel.new0 {K : Fg} {w : Wd} {σ : L2.St} {s : S} (r : Rel ec K w σ s) {p : Addr} (hp : w.H p = none) : ec.w.H p = none := by
  cases e : ec.w.H p with
  | none => rfl
  | some o =>
    by_cases m : p ∈ ec.w.r
    · obtain ⟨u, hu⟩ := r.live (r.mem.inv.mem m)
      rw [hp] at hu
      cases hu
    · obtain ⟨u, hu⟩ := r.mem.inv.kX e m
      rw [show w.H p = some u from hu] at hp
      cases hp
theorem nv_re {w : Wd} {m : List Cell} {p : Addr} {o : HO} (hp : p ∉ w.r) (n3 : NoTb o) (n4 : NoTup o) (h : NV ec w m) : NV ec ⟨w.G, w.r, w.F, upd w.H p o⟩ m := by
  refine ⟨fun t q n j ds e1 e2 => ?_, fun q hq => ?_⟩
  · obtain ⟨h1, h2⟩ := h.1 t q n j ds e1 e2
    refine ⟨h1, fun p' ks e3 e4 => ?_⟩
    obtain ⟨ws, k, e5, e6⟩ := h2 p' ks e3 e4
    refine ⟨ws, k, ?_, e6⟩
    show upd w.H p o p' = _
    have np : p' ≠ p := fun z => hp (z ▸ List.mem_of_getElem? e3)
    rw [upd_ne np]
    exact e5
  · by_cases e : q = p
    · exact .inr ⟨o, by rw [e]; exact upd_same, n3, n4⟩
    · rcases h.2 q hq with z | ⟨u, e2, z⟩
      · exact .inl z
      · refine .inr ⟨u, ?_, z⟩
        show upd w.H p o q = _
        rw [upd_ne e]
        exact e2
/-- what we held is changed, by us -/
theorem Rel.rehold {K : Fg} {w : Wd} {σ : L2.St} {s : S} (r : Rel ec K w σ s) {p : Addr} {o o0 : HO} (hp : w.F p) (hh : w.H p = some o0) (n1 : NoTb o0) (n2 : ∀ f, o0 ≠ .ext f) (hz : ec.w.H p = none) (n3 : NoTb o := by first | exact noTb_k | exact noTb_l | exact noTb_t) (n4 : NoTup o := by exact fun _ z => by cases z) : Rel ec K ⟨w.G, w.r, w.F, upd w.H p o⟩ σ s := by
  obtain ⟨h1, h2, u, h3⟩ := r.mem.fo p hp
  refine ⟨⟨fun b x e => ?_, r.mem.len, r.mem.nd, fun n q c e1 e2 => ?_, fun q hq => ?_, r.mem.tab.put hh n1 n2, ⟨r.mem.inv.g, fun a u e n => by
      obtain ⟨u', e1, q1⟩ := r.mem.inv.k a u e n
      refine ⟨u', ?_, q1⟩
      show upd w.H p o a = some u'
      rw [upd_ne (ne_of_none e hz)]
      exact e1, r.mem.inv.p, r.mem.inv.f, rfl⟩, r.mem.gt, nv_re h2 n3 n4 r.mem.nv⟩, r.len, fun i sl e => ?_⟩
  · show upd w.H p o b = some x
    have hb : b ≠ p := by
      intro z
      subst z
      have e : w.G b = some x := e
      rw [h1] at e
      cases e
    rw [upd_ne hb]
    exact r.mem.ext b x e
  · have hq : q ≠ p := fun z => by
      subst z
      exact h2 (List.mem_of_getElem? e1)
    have c0 := r.mem.cell n q c e1 e2
    refine cOk_mono (Same.refl _) (fun hc => ?_) (fun x _ e => ?_) c0
    · show w.G q = none
      cases c with
      | l ds => exact c0.1
      | k kvs => exact c0.1
      | t kvs => exact c0.1
      | r ks => exact c0.1
      | i n j ds => exact c0.1
      | gone => exact absurd rfl hc
    · show upd w.H p o q = some x
      rw [upd_ne hq]
      exact e
  · obtain ⟨a, b, x, hx⟩ := r.mem.fo q hq
    refine ⟨a, b, ?_⟩
    by_cases e : q = p
    · subst e
      exact ⟨o, upd_same⟩
    · refine ⟨x, ?_⟩
      show upd w.H p o q = some x
      rw [upd_ne e]
      exact hx
  · have q := r.slot i sl e
    cases sl with
    | u => trivial
    | d x => exact q
    | c n => exact q
    | f => exact q
    | t _ _ => exact q
    | x n =>
      obtain ⟨z1, a, z2, z3, z4⟩ := q
      refine ⟨z1, a, z2, z3, ?_⟩
      show upd w.H p o a = some _
      have na : a ≠ p := fun z => by
        subst z
        rw [hh] at z4
        unfold ExO at z4
        exact n2 _ (Option.some.inj z4)
      rw [upd_ne na]
      exact z4
section
variable {X : Cx} {ec : EC} {W : WX}
/-! ### a written dict -/
def mergeD (acc : List (L2.Key × D)) : List L2.Key → List D → List (L2.Key × D)
  | k :: ks, d :: ds => mergeD (putD acc k d) ks ds
  | _, _ => acc
theorem kv_merge {K : Fg} {G : Hp} : ∀ (ks : List L2.Key) {vs : List V} {ds : List D} {acc : List (L2.Key × V)} {acd : List (L2.Key × D)}, RpAll K G vs ds → KvAll K G acc acd → KvAll K G (mergeK acc (ks.zip vs)) (mergeD acd ks ds)
  | [], vs, ds, acc, acd, h, q => by
    cases ds <;> exact q
  | k :: ks, _, _, acc, acd, .nil, q => q
  | k :: ks, _, _, acc, acd, .cons r t, q => by
    show KvAll K G (mergeK (putK acc k _) (ks.zip _)) (mergeD (putD acd k _) ks _)
    exact kv_merge ks t (kv_put r q)
structure DP (X : Cx) (ec : EC) (W : WX) (pos : Pos) (keys : List (Option Expr)) (values : List Expr) (ks : List L2.Key) (ca : CA) : Prop where
  ex : ∃ trs, PPs X pos keys values trs ∧ ∀ σ H (Q : List (V × V) → Hp → Prop), rdA X.K ec W ca σ H (fun vs H1 => vs.length = ks.length → Q ((ks.map kV).zip vs) H1) → (∀ s ds s', ca s = .ok ds s' → ds.length = ks.length) → tPairs trs σ H Q
theorem dp_nil {pos : Pos} : DP X ec W pos [] [] [] cNil := ⟨[], pps_nil, fun σ H Q h _ => by
  obtain ⟨w, s, rfl, hr, h⟩ := h
  exact h [] w (Le.refl w) hr .nil rfl⟩
theorem rd_cons {c : CE} {ca : CA} {σ : L2.St} {H : Hp} {Q : List V → Hp → Prop} (h : rdA X.K ec W (cCons c ca) σ H Q) : rd X.K ec W c σ H fun x H1 => rdA X.K ec W ca σ H1 fun vs H2 => Q (x :: vs) H2 := by
  obtain ⟨w, s, rfl, hr, h⟩ := h
  refine run_cv hr h fun x w1 s1 a le1 hr1 ha hn h1 => ?_
  cases a with
  | ref n => exact h1.elim
  | t _ _ => exact h1.elim
  | new c => exact absurd rfl (hn c)
  | d y =>
    refine ⟨w1, s1, rfl, hr1, ?_⟩
    refine Res.mono h1.bind (fun ds s2 h2 vs w2 le2 hr2 rp => ?_) fun _ _ q => okE_le le1 q
    exact h2 (x :: vs) w2 (le1.trans le2) hr2 (.cons (Rp.mono le2.g _ _ ha) rp)
theorem dp_cons {pos : Pos} {k : Expr} {key : L2.Key} {v : Expr} {kes : List (Option Expr)} {vs : List Expr} {ks : List L2.Key} {c : CE} {ca : CA} {n : Nat} (hk : PE X k (tC (kV key))) (hv : Ex X ec W v c) (hr : DP X ec W pos kes vs ks ca) (hl : CLen n ca) (hn : ks.length = n) : DP X ec W pos (some k :: kes) (v :: vs) (key :: ks) (cCons c ca) := by
  obtain ⟨trs, h1, h2⟩ := hr.ex
  refine ⟨(tC (kV key), rd X.K ec W c) :: trs, pps_cons hk hv h1, fun σ H Q h _ => ?_⟩
  show rd X.K ec W c σ H fun y H2 => tPairs trs σ H2 fun ps H3 => Q ((kV key, y) :: ps) H3
  obtain ⟨w, s, e, hr, h3⟩ := rd_cons h
  refine ⟨w, s, e, hr, Res.mono h3 (fun rv s' q x w' le r' o f => ?_) fun _ _ q => q⟩
  refine h2 σ w'.H _ ?_ fun s ds s' e => by rw [hl s ds s' e, hn]
  obtain ⟨w2, s2, e2, r2, h4⟩ := q x w' le r' o f
  refine ⟨w2, s2, e2, r2, Res.mono h4 (fun ds s3 q3 vs w3 le3 r3 rp hlen => ?_) fun _ _ q => q⟩
  have e5 : (key :: ks).map kV = kV key :: ks.map kV := rfl
  have q4 := q3 vs w3 le3 r3 rp (by rw [List.length_cons, List.length_cons, hlen])
  rw [e5, List.zip_cons_cons] at q4
  exact q4
def cDisp (ks : List L2.Key) (ca : CA) : CE := fun s => (ca s).bind fun ds s1 => .ok (.new (.k (mergeD [] ks ds))) s1
theorem e_disp {keys : List (Option Expr)} {values : List Expr} {ks : List L2.Key} {ca : CA} {pos : Pos} (h : DP X ec W pos keys values ks ca) (hl : CLen ks.length ca) (h15 : ks.length ≤ 15) (hall : keys.all (·.isSome) = true := by rfl) (hle : keys.length = values.length := by rfl) (h0 : keys ≠ [] := by exact fun z => by cases z) (h15' : keys.length ≤ 15 := by decide) :
    Ex X ec W (.Dict keys values pos) (cDisp ks ca) := by
  obtain ⟨trs, h1, h2⟩ := h.ex
  refine (pe_disp h1 hall hle h0 h15').imp fun σ H Q h => ?_
  obtain ⟨w, s, rfl, hr, h⟩ := h
  intro p hp
  refine h2 σ _ _ ?_ fun s ds s' e => hl s ds s' e
  have hh := hr.hold (o := .dK []) hp
  refine ⟨w.hold p (.dK []), s, rfl, hh, ?_⟩
  have back : ∀ {w' : Wd} {s' : S}, Le (w.hold p (.dK [])) w' → Rel ec X.K w' σ s' → Le w (w'.f w.F) ∧ Rel ec X.K (w'.f w.F) σ s' := fun {w' s'} le r => by
    have hq' : ∀ q, w.F q → w'.F q := fun q hq => by
      rw [le.s]
      exact .inl hq
    exact ⟨(Le.hold hp).trans (le.ch w.F), r.f (fun q hq => r.mem.fo q (hq' q hq)) (hr.mem.tab.back r.mem.tab) fun q hq => r.mem.nv.2 q (hq' q hq)⟩
  unfold cDisp at h
  refine Res.mono h.bind (fun ds s1 q vs w1 le1 r1 ra hlen => ?_) fun e s' q w' le r => by
    obtain ⟨a, b⟩ := back le r
    exact q (w'.f w.F) a b
  have hF : w1.F p := by
    rw [le1.s]
    exact .inr rfl
  have hH : w1.H p = some (.dK []) := le1.kN (p := p) upd_same (fun m => by
    have m : p ∈ w.r := m
    obtain ⟨u, hu⟩ := hr.live m
    rw [hp] at hu
    cases hu) noTb_k
  refine ⟨hH, ks.zip vs, ?_, ?_, ?_⟩
  · have go : ∀ (ks : List L2.Key) (vs : List V), (ks.map kV).zip vs = (ks.zip vs).map fun kv => (kV kv.1, kv.2) := by
      intro ks
      induction ks with
      | nil => intro vs; rfl
      | cons k ks ih =>
        intro vs
        cases vs with
        | nil => rfl
        | cons v vs =>
          show (kV k, v) :: (ks.map kV).zip vs = (kV k, v) :: (ks.zip vs).map _
          rw [ih]
    exact go ks vs
  · rw [List.length_zip]
    exact Nat.le_trans (Nat.min_le_left _ _) h15
  · have r2 := r1.rehold (o := .dK (mergeK [] (ks.zip vs))) hF hH noTb_k (fun _ z => by cases z) (hr.new0 hp)
    obtain ⟨h3, h4, _⟩ := r1.mem.fo p hF
    have r3 : Rel ec X.K ⟨w1.G, w1.r, w.F, upd w1.H p (.dK (mergeK [] (ks.zip vs)))⟩ σ s1 := r2.f (fun q hq => r2.mem.fo q (by
      show w1.F q
      rw [le1.s]
      exact .inl hq)) (hr.mem.tab.back r2.mem.tab) fun q hq => r2.mem.nv.2 q (by
      show w1.F q
      rw [le1.s]
      exact .inl hq)
    have l3 : Le w ⟨w1.G, w1.r, w.F, upd w1.H p (.dK (mergeK [] (ks.zip vs)))⟩ := by
      have l1 := (Le.hold (o := .dK []) hp).trans (le1.ch w.F)
      refine ⟨l1.g, fun a u e n => ?_, l1.p, l1.f, rfl⟩
      obtain ⟨u', e', q'⟩ := l1.k a u e n
      refine ⟨u', ?_, q'⟩
      show upd w1.H p _ a = some u'
      rw [upd_ne (ne_of_none e hp)]
      exact e'
    have nf : ¬ w.F p := fun z => by
      obtain ⟨_, _, u, hu⟩ := hr.mem.fo p z
      rw [hp] at hu
      cases hu
    exact q (.ref p) ⟨w1.G, w1.r, w.F, upd w1.H p (.dK (mergeK [] (ks.zip vs)))⟩ l3 r3 ⟨p, rfl, ⟨h4, nf⟩, h3, _, upd_same, kv_merge ks ra .nil⟩ fun _ _ p' e => by
      cases e
      exact hp
/-! ### lists by their methods -/
/-- f takes the list and gives the answer and the list behind -/
def cMut (f : List D → List D → Option (D × List D)) (co : CE) (ca : CA) : CE := fun s => (cv co s).bind fun o s1 => match o with
  | .ref n => match s1.m[n]? with
    | some (.l _) => (ca s1).bind fun ds s2 => match s2.m[n]? with
      | some (.l xs) => match f xs ds with
        | some (d, ys) => .ok (.d d) ⟨s2.v, s2.m.set n (.l ys)⟩
        | none => .bad
      | _ => .bad
    | _ => .bad
  | _ => .bad
/-- the rule of a method by values does what f says -/
def MutS (K : Fg) (r : V → List V → Hp → VK → Prop) (f : List D → List D → Option (D × List D)) : Prop := ∀ (w : Wd) (p : Addr) (vs : List V) (xs : List D) (us : List V) (ds : List D) (d : D) (ys : List D) (Q : VK), Same w.G w.H → w.G p = none → w.H p = some (.lst vs) → RpAll K w.G vs xs → RpAll K w.G us ds →
  f xs ds = some (d, ys) → (∀ x zs, Rp K w.G x d → RpAll K w.G zs ys → Q x (upd w.H p (.lst zs))) → r (.ref p) us w.H Q
theorem mut_ok {r : V → List V → Hp → VK → Prop} {f : List D → List D → Option (D × List D)} (hs : MutS X.K r f) {co : CE} {ca : CA} {σ : L2.St} {H : Hp} {Q : VK} (h : rd X.K ec W (cMut f co ca) σ H Q) : rd X.K ec W co σ H fun x H1 => tyV X.K "list" x H1 ∧ rdA X.K ec W ca σ H1 fun us H2 => r x us H2 Q := by
  obtain ⟨w, s, rfl, hr, h⟩ := h
  refine run_cv hr h fun x w1 s1 o le1 r1 ho hn h1 => ?_
  cases o with
  | d y => exact h1.elim
  | t _ _ => exact h1.elim
  | new c => exact absurd rfl (hn c)
  | ref n =>
    dsimp only at h1
    obtain ⟨p, rfl, hp⟩ := ho
    split at h1
    · rename_i xs0 e0
      obtain ⟨hg0, vs0, hv0, _⟩ := r1.mem.cell n p _ hp e0
      refine ⟨.inl ⟨rfl, vs0, SqL.of hv0⟩, w1, s1, rfl, r1, ?_⟩
      refine Res.mono h1.bind (fun ds s2 h2 us w2 le2 r2 ra => ?_) fun _ _ q => okE_le le1 q
      split at h2
      · rename_i xs e1
        split at h2
        · rename_i d ys e2
          have hp2 := le2.cell hp
          obtain ⟨hg, vs, hv, rx⟩ := r2.mem.cell n p _ hp2 e1
          refine hs w2 p vs xs us ds d ys Q r2.mem.ext hg hv rx ra e2 fun x zs rd' rz => ?_
          obtain ⟨r3, le3⟩ := cell_set (c := .l ys) (o := .lst zs) r2 hp2 hg ⟨hg, zs, upd_same, rz⟩
          exact h2 x ⟨w2.G, w2.r, w2.F, upd w2.H p (.lst zs)⟩ ((le1.trans le2).trans le3) r3 rd' .d
        · exact h2.elim
      · exact h2.elim
    · exact h1.elim
theorem e_mut {r : V → List V → Hp → VK → Prop} {f : List D → List D → Option (D × List D)} {m : Str} {id : String} {o e : Expr} {es : List Expr} {apos cpos : Pos} {co : CE} {ca : CA} (hs : MutS X.K r f) (hm : MtR X id r) (slot : Slot "list" m id) (hty : typeOf (.builtin id) = pure (.type "method_descriptor"))
    (ho : Ex X ec W o co) (ha : PA X (e :: es) (rdA X.K ec W ca)) (hpe : ∀ {to : TE} {t : TA}, PE X o to → PA X (e :: es) t → PE X (.Call (.Attribute o m apos) (e :: es) [] cpos) (tBM X.K "list" r to t)) : Ex X ec W (.Call (.Attribute o m apos) (e :: es) [] cpos) (cMut f co ca) :=
  (hpe ho ha).imp fun σ H Q h => mut_ok hs h
def fApp : List D → List D → Option (D × List D)
  | xs, [d] => if xs.length < 16000000 then some (.none, xs ++ [d]) else none
  | _, _ => none
theorem m_append {K : Fg} : MutS K rAppend fApp := by
  intro w p vs xs us ds d ys Q hx hg hv rx ru e q
  unfold fApp at e
  split at e
  · split at e
    · rename_i d' hl
      cases e
      cases ru with
      | cons r1 r2 =>
        cases r2
        exact ⟨p, vs, _, rfl, rfl, hv, by rw [rx.length]; exact lt16 hl, q .non _ .non (rx.append (.cons r1 .nil))⟩
    · cases e
  · cases e
def fRev : List D → List D → Option (D × List D)
  | xs, [] => some (.none, xs.reverse)
  | _, _ => none
def fClr : List D → List D → Option (D × List D)
  | _, [] => some (.none, [])
  | _, _ => none
/-- xs[i] = e -/
def cPutL (co ci cw : CE) : CS := fun s => (cv cw s).out fun v s1 => (cv co s1).out fun o s2 => (cv ci s2).out fun i s3 => match v, o, i with
  | .d v, .ref n, .d (.int k) => match s3.m[n]? with
    | some (.l xs) => match ixN xs.length k with
      | some j => .nx ⟨s3.v, s3.m.set n (.l (xs.set j v))⟩
      | none => .bad
    | _ => .bad
  | _, _, _ => .bad
theorem s_putL {o i e : Expr} {co ci ce : CE} {pos' pos : Pos} (ho : Ex X ec W o co) (hi : Ex X ec W i ci) (he : Ex X ec W e ce) (hs : swapsWithSole [.Subscript o i pos'] e pos.line X.env = pure false := by rfl) (hw : swappedStores [.Subscript o i pos'] e X.env = pure none := by rfl) (h1 : (assignEach [.Subscript o i pos'] X.env).map (·.2) = [assign (.Subscript o i pos') X.env] := by rfl)
    (ha : ∀ v, assign (.Subscript o i pos') X.env v = (do
      let ov ← holding [v] (eval o X.env)
      let iv ← holding [v, ov] (eval i X.env)
      standAt pos'
      holding [v, ov, iv] (setItem ov iv v)
      release [v, ov, iv] []) := by intro _; rfl) : Sx X ec W (.Assign [.Subscript o i pos'] e pos) (cPutL co ci ce) :=
  (ps_asg he (pg_sub ho hi set_list ha) hs hw h1).imp fun D σ H h => by
    obtain ⟨w, s, rfl, hr, h⟩ := h
    refine run_ev hr h fun xv w1 s1 v le1 r1 o1 hn1 h1 => ?_
    refine run_ev r1 (h1.le le1) fun xo w2 s2 o le2 r2 o2 hn2 h2 => ?_
    refine run_ev r2 (h2.le le2) fun xi w3 s3 i le3 r3 o3 hn3 h3 => ?_
    split at h3
    · rename_i d n k
      split at h3
      · rename_i xs em
        split at h3
        · rename_i j ej
          obtain ⟨p, rfl, hp⟩ := o2
          have o3 : Rp X.K w3.G xi (.int k) := o3
          cases o3
          have hp3 := le3.cell hp
          obtain ⟨hg, vs, hv, ra⟩ := r3.mem.cell n p _ hp3 em
          have rd' : Rp X.K w3.G xv d := Rp.mono (le2.trans le3).g _ _ o1
          obtain ⟨r4, le4⟩ := cell_set (c := .l (xs.set j d)) (o := .lst (vs.set j xv)) r3 hp3 hg ⟨hg, _, upd_same, ra.set rd' j⟩
          refine ⟨p, vs, k, j, rfl, rfl, hv, by rw [ra.length]; exact ej, ?_⟩
          exact h3 σ ⟨w3.G, w3.r, w3.F, upd w3.H p (.lst (vs.set j xv))⟩ (le3.trans le4) r4
        · exact h3.elim
      · exact h3.elim
    · exact h3.elim
/-! ### comprehensions -/
def R.nx {α : Type} : R α → R α
  | .ex _ _ => .bad
  | r => r
def wipeV (v : List Sl) : List Nat → List Sl
  | [] => v
  | i :: is => (wipeV v is).set i .u
abbrev W0 : WX := fun _ _ _ _ => False
def ctYes : CT := fun s => .ok true s
/-- the turns: what was kept so far, what is to come -/
def lcL (own : List Nat) (v0 : List Sl) (tg : Tg) (tt : CT) (el : CE) : List D → List D → List Cell → R Rv
  | [], acc, m => .ok (.new (.l acc)) ⟨v0, m⟩
  | d :: ds, acc, m => match tg d ⟨wipeV v0 own, m⟩ with
    | none => .bad
    | some s1 => (tt s1).nx.bind fun b s2 => if b = true then ((cv el s2).nx.bind fun a s3 => match a with
        | .d x => lcL own v0 tg tt el ds (acc ++ [x]) s3.m
        | _ => .bad) else lcL own v0 tg tt el ds acc s2.m
def cLc (own : List Nat) (ci : CI) (tg : Tg) (tt : CT) (el : CE) : CE := fun s => (ci s).bind fun ds s1 => if ds.length ≤ 16000000 then lcL own s1.v tg tt el ds [] s1.m else .bad
theorem rel_wipe {K : Fg} {w : Wd} {σ : L2.St} {v : List Sl} {m : List Cell} (r : Rel ec K w σ ⟨v, m⟩) : ∀ own : List Nat, Rel ec K w (wipe σ own) ⟨wipeV v own, m⟩
  | [] => r
  | i :: is => by
    have q := rel_wipe r is
    refine ⟨q.mem, by show ((wipe σ is).set i none).length = ((wipeV v is).set i .u).length; rw [List.length_set, List.length_set]; exact q.len, fun j sl e => ?_⟩
    have e : ((wipeV v is).set i .u)[j]? = some sl := e
    show SlOk ec K w ((wipe σ is).set i none)[j]? sl
    by_cases hj : i = j
    · subst hj
      by_cases hl : i < (wipeV v is).length
      · rw [List.getElem?_set_self hl] at e
        cases e
        trivial
      · rw [List.getElem?_eq_none (by rw [List.length_set]; omega)] at e
        cases e
    · rw [List.getElem?_set_ne hj] at e
      rw [List.getElem?_set_ne hj]
      exact q.slot j sl e
theorem wipe_off {own : List Nat} {σ σ' : L2.St} (h : Off own (wipe σ own) σ') : wipe σ' own = wipe σ own := by
  have key : ∀ (is : List Nat) (τ τ' : L2.St), τ'.length = τ.length → (∀ j, j ∉ is → τ'[j]? = τ[j]?) → wipe τ' is = wipe τ is := by
    intro is τ τ' hl hj
    refine List.ext_getElem? fun j => ?_
    by_cases hm : j ∈ is
    · have go : ∀ (is : List Nat) (τ : L2.St), j ∈ is → (wipe τ is)[j]? = if j < τ.length then some none else none := by
        intro is
        induction is with
        | nil => intro τ h; cases h
        | cons i is ih =>
          intro τ h
          show ((wipe τ is).set i none)[j]? = _
          by_cases hi : i = j
          · subst hi
            by_cases hl : i < τ.length
            · rw [List.getElem?_set_self (by rw [wipe_length]; exact hl), if_pos hl]
            · rw [List.getElem?_eq_none (by rw [List.length_set, wipe_length]; omega), if_neg hl]
          · rw [List.getElem?_set_ne hi]
            refine ih τ ?_
            rcases List.mem_cons.mp h with z | z
            · exact absurd z.symm hi
            · exact z
      rw [go is τ' hm, go is τ hm, hl]
    · rw [wipe_out hm, wipe_out hm]
      exact hj j hm
  have h2 : wipe σ' own = wipe (wipe σ own) own := key own _ _ h.1 h.2
  rw [h2]
  refine key own σ (wipe σ own) (wipe_length _ _) fun j hj => wipe_out hj
theorem t_yes {K : Fg} {σ : L2.St} {H : Hp} {Q : Bool → Hp → Prop} (h : rdT K ec W0 ctYes σ H Q) : tYes σ H Q := by
  obtain ⟨w, s, rfl, hr, h⟩ := h
  exact h w (Le.refl w) hr
theorem ts_nil {X : Cx} : PTs X [] (rdT X.K ec W0 ctYes) := ⟨fun pins s σ H Q I h => pts_nil.run pins s σ H Q I (t_yes h)⟩
theorem ts_one {X : Cx} {c : Expr} {ct : CT} (h : Tx X ec W0 c ct) : PTs X [c] (rdT X.K ec W0 ct) := pts_one h
theorem lc_read {σ : L2.St} {H : Hp} {Q : VK} {own : List Nat} {ci : CI} {tg : Tg} {tt : CT} {el : CE} (h : rd X.K ec W (cLc own ci tg tt el) σ H Q) :
    tLc (rdI X.K ec W ci) (rdG ec X.K own tg) (rdT X.K ec W0 tt) (rd X.K ec W0 el) own σ H Q := by
  obtain ⟨w, s, rfl, hr, h⟩ := h
  refine ⟨w, s, rfl, hr, ?_⟩
  unfold cLc at h
  cases e0 : ci s with
  | bad => rw [e0] at h; exact h
  | ex n s' => rw [e0] at h; exact h
  | ok ds s0 =>
    rw [e0] at h
    by_cases hz : ds.length ≤ 16000000
    · simp only [R.bind, hz, if_true] at h
      intro J w0 le0 r0 hJ Dp hD
      have h0 : FinV X.K ec W σ Q w0 (lcL own s0.v tg tt el ds [] s0.m) := FinV.le le0 h
      -- what holds between two turns
      refine ⟨fun i m H1 => ∃ w1 m1 acc vs, w1.H = H1 ∧ w1.F = (fun q => w0.F q ∨ q = Dp) ∧ Le w0 (w1.f w0.F) ∧ Rel ec X.K w1 σ ⟨s0.v, m1⟩ ∧ w1.H Dp = some (.lst vs) ∧ RpAll X.K w1.G vs acc ∧ acc.length ≤ i ∧ i + m = ds.length ∧ FinV X.K ec W σ Q w0 (lcL own s0.v tg tt el (ds.drop i) acc m1),
        ⟨ds.length, w0.hold Dp (.lst []), s0.m, [], [], rfl, rfl, Le.hold hD, r0.hold hD, upd_same, .nil, Nat.le_refl _, Nat.zero_add _, h0⟩, fun i m H1 hW => ?_⟩
      obtain ⟨w1, m1, acc, vs, rfl, hF, le1, r1, hd, ra, hacc, hm, h1⟩ := hW
      have r1f : Rel ec X.K (w1.f w0.F) σ ⟨s0.v, m1⟩ := r1.f (fun q hq => r1.mem.fo q (by rw [hF]; exact .inl hq)) (r0.mem.tab.back r1.mem.tab) fun q hq => r1.mem.nv.2 q (by rw [hF]; exact .inl hq)
      obtain ⟨hgo, hst⟩ := hJ (w1.f w0.F) le1 r1.mem.ext i
      have gD : w1.G Dp = none := (r1.mem.fo Dp (by rw [hF]; exact .inr rfl)).1
      have rD : Dp ∉ w1.r := (r1.mem.fo Dp (by rw [hF]; exact .inr rfl)).2.1
      have fD : ¬ w0.F Dp := fun z => by
        obtain ⟨_, _, o, ho⟩ := r0.mem.fo Dp z
        rw [hD] at ho
        cases ho
      by_cases hi : i < ds.length
      · have hdi : ds[i]? = some ds[i] := List.getElem?_eq_getElem hi
        obtain ⟨g1, g2⟩ := hgo _ hdi
        rw [List.drop_eq_getElem_cons hi] at h1
        unfold lcL at h1
        refine .inr ⟨g1, fun H' => ∃ w' m' acc' vs', w'.H = H' ∧ w'.F = (fun q => w0.F q ∨ q = Dp) ∧ Le w0 (w'.f w0.F) ∧ Rel ec X.K w' σ ⟨s0.v, m'⟩ ∧ w'.H Dp = some (.lst vs') ∧ RpAll X.K w'.G vs' acc' ∧ acc'.length ≤ i + 1 ∧ (i + 1) + (m - 1) = ds.length ∧ FinV X.K ec W σ Q w0 (lcL own s0.v tg tt el (ds.drop (i + 1)) acc' m'),
          fun H' ⟨w', m', acc', vs', a1, a2, a3, a4, a5, a6, a7, a8, a9⟩ => ⟨m - 1, by omega, w', m', acc', vs', a1, a2, a3, a4, a5, a6, a7, a8, a9⟩, fun x H' hy => ?_⟩
        obtain ⟨w2, gr, rfl, rp⟩ := g2 x H' hy
        have gr' : Gr w1 (w2.f w1.F) := ⟨gr.r, rfl, gr.g, gr.h, gr.e, gr.n, gr.t⟩
        have r2 : Rel ec X.K (w2.f w1.F) σ ⟨s0.v, m1⟩ := r1.grow gr'
        cases et : tg ds[i] ⟨wipeV s0.v own, m1⟩ with
        | none => rw [et] at h1; exact h1.elim
        | some s2 =>
          rw [et] at h1
          refine ⟨w2.f w1.F, ⟨wipeV s0.v own, m1⟩, ds[i], rfl, rel_wipe r2 own, rp, s2, et, fun σ' off r3 => ⟨wipe_off off, ?_⟩⟩
          dsimp only at h1
          -- the test
          refine ⟨w2.f w1.F, s2, rfl, r3, ?_⟩
          cases ett : tt s2 with
          | bad => rw [ett] at h1; exact h1.elim
          | ex n s' => rw [ett] at h1; exact h1.elim
          | ok b s3 =>
            rw [ett] at h1
            intro w3 le3 r4
            have hF3 : w3.F = (fun q => w0.F q ∨ q = Dp) := by rw [le3.s, ← hF]
            have lw3 : Le w0 (w3.f w0.F) := (le1.trans (gr'.le.ch w0.F)).trans (le3.ch w0.F)
            have d2 : (w2.f w1.F).H Dp = some (.lst vs) := gr.h _ _ hd
            have d3 : w3.H Dp = some (.lst vs) := le3.kN (p := Dp) d2 (by
              show Dp ∉ w2.r
              rw [gr.r]
              exact rD) noTb_l
            have ra3 : RpAll X.K w3.G vs acc := ra.mono (gr'.g.trans le3.g)
            have r4' : Rel ec X.K w3 σ ⟨s0.v, s3.m⟩ := rel_mem (m := m1) le3 r2 r4.mem
            cases b with
            | false =>
              rw [if_neg Bool.false_ne_true]
              simp only [R.nx, R.bind, Bool.false_eq_true, if_false] at h1
              exact ⟨w3, s3.m, acc, vs, rfl, hF3, lw3, r4', d3, ra3, by omega, by omega, h1⟩
            | true =>
              rw [if_pos rfl]
              simp only [R.nx, R.bind, if_true] at h1
              refine ⟨w3, s3, rfl, r4, ?_⟩
              unfold cv at h1
              cases eel : el s3 with
              | bad => simp only [eel, R.bind] at h1; exact h1.elim
              | ex n s' => simp only [eel, R.bind] at h1; exact h1.elim
              | ok a s4 =>
                simp only [eel, R.bind] at h1
                intro y w4 le4 r5 oa fr
                -- the element became data
                have go : ∀ (d : D) (w5 : Wd), w5.H = w4.H → Le w3 w5 → Rel ec X.K w5 σ' s4 → Rp X.K w5.G y d → FinV X.K ec W σ Q w0 (lcL own s0.v tg tt el (ds.drop (i + 1)) (acc ++ [d]) s4.m) → ∃ acc', w4.H Dp = some (.lst acc') ∧ acc'.length < sizeLine ∧ ∃ w' m' acc'' vs', w'.H = upd w4.H Dp (.lst (acc' ++ [y])) ∧ w'.F = (fun q => w0.F q ∨ q = Dp) ∧ Le w0 (w'.f w0.F) ∧ Rel ec X.K w' σ ⟨s0.v, m'⟩ ∧ w'.H Dp = some (.lst vs') ∧ RpAll X.K w'.G vs' acc'' ∧ acc''.length ≤ i + 1 ∧ (i + 1) + (m - 1) = ds.length ∧ FinV X.K ec W σ Q w0 (lcL own s0.v tg tt el (ds.drop (i + 1)) acc'' m') := by
                  intro d w5 eH le5 r6 rpd h4
                  have hF5 : w5.F = (fun q => w0.F q ∨ q = Dp) := by rw [le5.s, hF3]
                  have d5 : w5.H Dp = some (.lst vs) := le5.kN d3 (r4'.mem.fo Dp (by rw [hF3]; exact .inr rfl)).2.1 noTb_l
                  have ra5 : RpAll X.K w5.G vs acc := ra3.mono le5.g
                  have r6' : Rel ec X.K w5 σ ⟨s0.v, s4.m⟩ := rel_mem (m := s3.m) le5 r4' r6.mem
                  have fD5 : w5.F Dp := by rw [hF5]; exact .inr rfl
                  have r7 := r6'.rehold (o := .lst (vs ++ [y])) fD5 d5 noTb_l (fun _ z => by cases z) (r0.new0 hD)
                  have lw5 : Le w0 (w5.f w0.F) := lw3.trans (le5.ch w0.F)
                  have lw7 : Le w0 ((⟨w5.G, w5.r, w5.F, upd w5.H Dp (.lst (vs ++ [y]))⟩ : Wd).f w0.F) := ⟨lw5.g, fun q u e n => by
                    obtain ⟨u', e', q'⟩ := lw5.k q u e n
                    refine ⟨u', ?_, q'⟩
                    show upd w5.H Dp _ q = some u'
                    rw [upd_ne (ne_of_none e hD)]
                    exact e', lw5.p, lw5.f, rfl⟩
                  rw [← eH]
                  refine ⟨vs, d5, ?_, ⟨w5.G, w5.r, w5.F, upd w5.H Dp (.lst (vs ++ [y]))⟩, s4.m, acc ++ [d], vs ++ [y], rfl, hF5, lw7, r7, upd_same, ra5.append (.cons rpd .nil), ?_, by omega, h4⟩
                  · rw [ra5.length]
                    exact lt16 (by omega)
                  · rw [List.length_append]
                    show acc.length + 1 ≤ i + 1
                    omega
                cases a with
                | ref n => exact h1.elim
                | t _ _ => exact h1.elim
                | d d => exact go d w4 rfl le4 r5 oa h1
                | new c =>
                  cases ed : c.D? with
                  | none => simp only [ed] at h1; exact h1.elim
                  | some d =>
                    simp only [ed] at h1
                    obtain ⟨G', r6, le6, rp6⟩ := freeze r5 oa (d := d) ed
                    exact go d ⟨G', w4.r, w4.F, w4.H⟩ rfl (le4.trans le6) r6 rp6 h1
      · refine .inl ⟨hst (by omega), ?_⟩
        rw [List.drop_eq_nil_of_le (by omega)] at h1
        exact h1 (.ref Dp) (w1.f w0.F) le1 r1f ⟨Dp, rfl, ⟨rD, fD⟩, gD, vs, hd, ra⟩ fun _ _ p e => by
          cases e
          exact hD
    · simp only [R.bind, hz, if_false] at h
      exact h.elim
theorem e_lc {elt tgt iter : Expr} {ifs : List Expr} {scope : Scope} {own : List (Str × Nat)} {pos : Pos} {ci : CI} {tg : Tg} {tt : CT} {el : CE} (hN : X.N.Nodup) (ok : BlkOk X.N X.env.scope scope own) (hi : Ix X ec W tgt iter ci)
    (hg : ∀ (s : Shared) (H : Hp) (C : Addr) (cl : List (Str × Addr)) (fp : List Addr), PG (X.blk s H scope (compEnvC scope cl C X.env) fp) tgt (rdG ec X.K (own.map (·.2)) tg))
    (ht : ∀ (s : Shared) (H : Hp) (C : Addr) (cl : List (Str × Addr)) (fp : List Addr), PTs (X.blk s H scope (compEnvC scope cl C X.env) fp) ifs (rdT X.K ec W0 tt))
    (he : ∀ (s : Shared) (H : Hp) (C : Addr) (cl : List (Str × Addr)) (fp : List Addr), PE (X.blk s H scope (compEnvC scope cl C X.env) fp) elt (rd X.K ec W0 el)) (hcal : X.calm = true := by rfl) (hs : ∀ x, foldedSetIterable iter X.env x = pure x := by intro _; rfl) :
    Ex X ec W (.ListComp elt [⟨tgt, iter, ifs, 0⟩] scope pos) (cLc (own.map (·.2)) ci tg tt el) := (pe_lc hcal hN hi ok hg ht he hs).imp fun σ H Q h => lc_read h
end
end Vm
namespace Vm
open PySem L2
section
variable {X : Cx} {ec : EC} {W : WX}
/-! ### slices -/
def cutD {α : Type} (xs : List α) (lo hi : Option Int) : List α := (xs.drop (HT.sIx xs.length 0 lo)).take (HT.sIx xs.length xs.length hi - HT.sIx xs.length 0 lo)
theorem rp_cut {K : Fg} {G : Hp} {vs : List V} {ds : List D} (lo hi : Option Int) (h : RpAll K G vs ds) : RpAll K G (cutV vs lo hi) (cutD ds lo hi) := by
  unfold cutV cutD
  rw [h.length]
  exact (h.drop _).take _
theorem SlR.or {r r' : V → Option Int → Option Int → Hp → VK → Prop} (h : SlR X r) (h' : SlR X r') : SlR X (fun x lo hi H Q => r x lo hi H Q ∨ r' x lo hi H Q) := by
  intro pins s σ H x v vl vu lo hi sl Q I rx hs pl pu hh
  rcases hh with hh | hh
  · exact h pins s σ H x v vl vu lo hi sl Q I rx hs pl pu hh
  · exact h' pins s σ H x v vl vu lo hi sl Q I rx hs pl pu hh
def rSlV (K : Fg) : V → Option Int → Option Int → Hp → VK → Prop := fun x lo hi H Q => rSlL K x lo hi H Q ∨ rSlA K x lo hi H Q
theorem slr_V : SlR X (rSlV X.K) := SlR.or sl_list sl_tupA
def opSl : Od → Option Int → Option Int → Option Rv
  | .d (.list ds), lo, hi => some (.new (.l (cutD ds lo hi)))
  | .d (.tuple ds), lo, hi => some (.d (.tuple (cutD ds lo hi)))
  | _, _, _ => none
theorem cut_whole {α : Type} {xs : List α} {lo hi : Option Int} (h : HT.sIx xs.length 0 lo = 0 ∧ HT.sIx xs.length xs.length hi = xs.length) : cutD xs lo hi = xs := by
  unfold cutD
  rw [h.1, h.2, List.drop_zero, Nat.sub_zero, List.take_length]
theorem s_sl {K : Fg} {w : Wd} {x : V} {o : Od} {lo hi : Option Int} {rv : Rv} {Q : VK} (hx : Same w.G w.H) (h : OdOk K w x o) (e : opSl o lo hi = some rv) (q : Post K w rv Q) : rSlV K x lo hi w.H Q := by
  unfold opSl at e
  split at e
  · cases e
    obtain ⟨p, vs, rfl, hs, ra⟩ := h.list hx
    exact .inl ⟨p, vs, rfl, hs, fun a ha => post_lst q (rp_cut lo hi ra) ha hx⟩
  · cases e
    obtain ⟨p, vs, rfl, hs, ra⟩ := h.tup
    refine .inr ⟨p, vs, rfl, SqT.of (hx _ _ hs), fun hw => ?_, fun hw a ha => post_tup q (rp_cut lo hi ra) ha hx⟩
    rw [ra.length] at hw
    rw [cut_whole hw] at q
    exact post_d q (.tup hs ra)
  · cases e
def cI (c : CE) : S → R Int := fun s => (cv c s).bind fun a s1 => match a with
  | .d (.int i) => .ok i s1
  | _ => .bad
def cPt : Option CE → S → R (Option Int)
  | none => fun s => .ok none s
  | some c => fun s => (cI c s).bind fun i s1 => .ok (some i) s1
def rdO (K : Fg) (ec : EC) (W : WX) (c : S → R (Option Int)) : TO := fun σ H Q => ∃ w s, w.H = H ∧ Rel ec K w σ s ∧ Res (fun o s' => ∀ w', Le w w' → Rel ec K w' σ s' → Q o w'.H) (okE K ec W σ w) (c s)
theorem PO.imp {e : Option Expr} {t t' : TO} (h : PO X e t) (i : ∀ σ H Q, t' σ H Q → t σ H Q) : PO X e t' := ⟨fun pins s σ H Q I q => h.run pins s σ H Q I (i _ _ _ q)⟩
theorem o_none : PO X none (rdO X.K ec W (cPt none)) := PO.imp po_none fun σ H Q h => by
  obtain ⟨w, s, rfl, hr, h⟩ := h
  exact h w (Le.refl w) hr
theorem run_i {K : Fg} {σ : L2.St} {w : Wd} {s : S} {α : Type} {c : CE} {k : Int → S → R α} {P : α → S → Prop} {Q : VK} (hr : Rel ec K w σ s) (h : Res P (okE K ec W σ w) ((cI c s).bind k))
    (hk : ∀ i w1 s1, Le w w1 → Rel ec K w1 σ s1 → Res P (okE K ec W σ w) (k i s1) → Q (.int i) w1.H) : rd K ec W c σ w.H Q := by
  have h' : Res P (okE K ec W σ w) ((cv c s).bind fun a s1 => (match a with
    | .d (.int b) => R.ok b s1
    | _ => R.bad).bind k) := by
    unfold cI at h
    cases e : cv c s with
    | bad => rw [e] at h; exact h
    | ex n s' => rw [e] at h; exact h
    | ok a s' => rw [e] at h; exact h
  refine run_cv hr h' fun x w1 s1 a le1 hr1 ha hn h1 => ?_
  cases a with
  | ref n => exact h1.elim
  | t _ _ => exact h1.elim
  | new c => exact h1.elim
  | d y =>
    cases y with
    | int b =>
      have e : x = .int b := by
        have ha : Rp K w1.G x (.int b) := ha
        cases ha
        rfl
      rw [e]
      exact hk b w1 s1 le1 hr1 h1
    | none => exact h1.elim
    | bool _ => exact h1.elim
    | str _ => exact h1.elim
    | list _ => exact h1.elim
    | tuple _ => exact h1.elim
    | dict _ => exact h1.elim
theorem o_some {e : Expr} {c : CE} (h : Ex X ec W e c) : PO X (some e) (rdO X.K ec W (cPt (some c))) := PO.imp (po_some h) fun σ H Q h => by
  obtain ⟨w, s, rfl, hr, h⟩ := h
  exact run_i hr h fun i w1 s1 le1 r1 h1 => ⟨i, rfl, h1 w1 le1 r1⟩
def cSl (c : CE) (lo hi : S → R (Option Int)) : CE := fun s => (cv c s).bind fun a s1 => (lo s1).bind fun l s2 => (hi s2).bind fun u s3 => opt (a.od s3.m) fun o => opt (opSl o l u) fun rv => .ok rv s3
theorem run_o {K : Fg} {σ : L2.St} {w : Wd} {s : S} {α : Type} {c : S → R (Option Int)} {k : Option Int → S → R α} {P : α → S → Prop} {Q : Option Int → Hp → Prop} (hr : Rel ec K w σ s) (h : Res P (okE K ec W σ w) ((c s).bind k))
    (hk : ∀ b w1 s1, Le w w1 → Rel ec K w1 σ s1 → Res P (okE K ec W σ w) (k b s1) → Q b w1.H) : rdO K ec W c σ w.H Q := by
  refine ⟨w, s, rfl, hr, ?_⟩
  cases e : c s with
  | bad => rw [e] at h; exact h
  | ex n s' => rw [e] at h; exact h
  | ok b s' =>
    rw [e] at h
    exact fun w' le r' => hk b w' s' le r' h
theorem e_sl {e : Expr} {lo hi : Option Expr} {c : CE} {cl ch : S → R (Option Int)} {p2 pos : Pos} (he : Ex X ec W e c) (hl : PO X lo (rdO X.K ec W cl)) (hh : PO X hi (rdO X.K ec W ch)) : Ex X ec W (.Subscript e (.Slice lo hi none p2) pos) (cSl c cl ch) :=
  (pe_slice slr_V he hl hh).imp fun σ H Q h => by
    obtain ⟨w, s, rfl, hr, h⟩ := h
    refine run_cv hr h fun x w1 s1 a le1 r1 ha hn h1 => ?_
    refine run_o r1 (Res.mono h1 (fun _ _ q => q) fun _ _ q => okE_le le1 q) fun l w2 s2 le2 r2 h2 => ?_
    refine run_o r2 (Res.mono h2 (fun _ _ q => q) fun _ _ q => okE_le le2 q) fun u w3 s3 le3 r3 h3 => ?_
    obtain ⟨o, e1, h4⟩ := h3.opt
    obtain ⟨rv, e2, h5⟩ := h4.opt
    exact s_sl r3.mem.ext (od_of r3 (ha.le hn (le2.trans le3)) e1) e2 (post_of r3 fun z w' le r' o f => h5 z w' (((le1.trans le2).trans le3).trans le) r' o (f.back ((le1.trans le2).trans le3) le o))
/-! ### a < b < c -/
def cChain (f g : Od → Od → Option Rv) (a b c : CE) : CE := fun s => (cv a s).bind fun x s1 => (cv b s1).bind fun y s2 => opt (x.od s2.m) fun o => opt (y.od s2.m) fun o' => opt (f o o') fun rv => match rv with
  | .d (.bool true) => (cv c s2).bind fun z s3 => opt (y.od s3.m) fun p => opt (z.od s3.m) fun p' => opt (g p p') fun rv' => .ok rv' s3
  | .d (.bool false) => .ok (.d (.bool false)) s2
  | _ => .bad
end
end Vm
namespace Vm
open PySem L2 PySem.Spec PyProof.Rows
/-! ### defs of the text and their promises -/
structure DefF (K : Fg) (mg : Str → Option Value) (x : Str) (st : Stmt) (ps : List Str) : Prop where
  ex : ∃ f fd, Fun K x x st f fd ∧ mg x = some (.ref f) ∧ ∀ us : List Value, us.length = ps.length → bindArgs fd ⟨us, []⟩ = pure (ps.zip us)
theorem defF_mk {K : Fg} {mg : Str → Option Value} {x : Str} {st : Stmt} {ps : List Str} {f : Addr} {oc : Value} {od an : Option Addr} {osl : Array (Option Value)} {kV doc pm cdv ct : Value} (hm : mg x = some (.ref f))
    (l : K.lookup f = some ⟨oc, od, .func (PySem.W.fnOf x x (defArgs st) (defBody st) (defScope st) .none kV doc pm an cdv ct), osl⟩) (c : PySem.W.codeIn K cdv x = true) (k : PySem.W.keepIn K (.ref f) = true)
    (h : ∀ (kV doc pm : Value) (an : Option Addr) (cdv ct : Value) (us : List Value), us.length = ps.length → bindArgs (PySem.W.fnOf x x (defArgs st) (defBody st) (defScope st) .none kV doc pm an cdv ct) ⟨us, []⟩ = pure (ps.zip us)) : DefF K mg x st ps :=
  ⟨f, _, fun_mk l c k, hm, h _ _ _ _ _ _⟩
def Cal (P : Program) (wo : World) (K : Fg) (mg : Str → Option Value) (base : Heap) (ec : EC) (x : Str) (ps : List Str) (f : Fn) (k : Nat) : Prop :=
  ∃ fa fd oc od osl, K.lookup fa = some ⟨oc, od, .func fd, osl⟩ ∧ FnG P wo K mg base k fa fd ps (spF K ec ps.length f) ∧ mg x = some (.ref fa) ∧ PySem.W.keepIn K (.ref fa) = true ∧ Binds K fd ps []
section
variable {P : Program} {wo : World} {K : Fg} {mg : Str → Option Value} {base : Heap} {ec : EC} {x : Str} {st : Stmt} {ps : List Str} {k : Nat} {f : Fn}
theorem DefF.cal (D : DefF K mg x st ps) (h : ∀ {fa : Addr} {fd : FuncData}, Fun K x x st fa fd → FnG P wo K mg base k fa fd ps (spF K ec ps.length f)) : Cal P wo K mg base ec x ps f k := by
  obtain ⟨fa, fd, F, hm, hb⟩ := D.ex
  obtain ⟨oc, od, kV, doc, pm, an, cdv, ct, osl, e, lk, _⟩ := F.ex
  exact ⟨fa, fd, oc, od, osl, lk, h F, hm, F.kp, .all hb⟩
end
section
variable {X : Cx} {ec : EC} {W : WX}
theorem e_callC {k : Nat} {ps : List Str} {f : Fn} {x : Str} {p pos : Pos} {e : Expr} {es : List Expr} {cl : CL} (C : Cal X.prog X.w X.K X.mg X.base ec x ps f k) (hr : Rg k X.A)
    (tk : Takes X W) (ha : PA X (e :: es) (rdL X.K ec W cl)) (hl : LLen ps.length cl) (hg : Gl X x := by rfl) (hdb : (x == ("__debug__" : Str)) = false := by decide) (he : starEach (e :: es) X.env = (false, eval e X.env) :: starEach es X.env := by rfl)
    (hpl : (backTo pos (starEach es X.env)).any (·.1) = false := by rfl) : Ex X ec W (.Call (.Name x p) (e :: es) [] pos) (cCall f cl) := by
  obtain ⟨fa, fd, oc, od, osl, lk, F, hm, hk, hb⟩ := C
  exact e_call F hr hm hk hb tk ha hl hg hdb he hpl
/-- a call that is handed data alone: it runs by itself, our cells held back -/
def Sl.isD : Sl → Bool
  | .d _ => true
  | _ => false
def RF.pure (s : S) : RF → R Rv
  | .ok (.d x) _ => .ok (.d x) s
  | .ok (.new c) _ => .ok (.new c) s
  | .ex e _ => .ex e s
  | _ => .bad
def cCallP (f : Fn) (cl : CL) : CE := fun s => (cl s).bind fun as s1 => if as.all Sl.isD = true then (f as []).pure s1 else .bad
theorem args_data {K : Fg} {w w' : Wd} (g : w.G = w'.G) {vs : List V} {as : List Sl} (h : ArgsOk ec K w vs as) : as.all Sl.isD = true → ArgsOk ec K w' vs as := by
  induction h with
  | nil => exact fun _ => .nil
  | cons r t ih =>
    intro hd
    rw [List.all_cons, Bool.and_eq_true] at hd
    refine .cons ?_ (ih hd.2)
    rename_i v sl vs as
    cases sl with
    | u => trivial
    | d x =>
      obtain ⟨u, e, q⟩ := r
      exact ⟨u, e, g ▸ q⟩
    | c n => exact absurd hd.1 (by simp [Sl.isD])
    | x n => exact absurd hd.1 (by simp [Sl.isD])
    | f => exact absurd hd.1 (by simp [Sl.isD])
    | t _ _ => exact absurd hd.1 (by simp [Sl.isD])
theorem nv_back {w1 w' : Wd} {m : List Cell} {G : Hp} (hk : ∀ a o, w1.H a = some o → ∃ o', w'.H a = some o' ∧ (NoTb o → o' = o)) (h : NV ec w1 m) (hf : ∀ p, w1.F p → p ∈ ec.T.map (·.1) ∨ ∃ o, w'.H p = some o ∧ NoTb o ∧ NoTup o) : NV ec ⟨G, w1.r, w1.F, w'.H⟩ m := by
  refine ⟨fun t q n j ds e1 e2 => ?_, hf⟩
  obtain ⟨h1, h2⟩ := h.1 t q n j ds e1 e2
  refine ⟨h1, fun p' ks e3 e4 => ?_⟩
  obtain ⟨ws, k, e5, e6⟩ := h2 p' ks e3 e4
  obtain ⟨o', e7, z⟩ := hk p' _ e5
  exact ⟨ws, k, by rw [z noTb_t] at e7; exact e7, e6⟩
theorem mem_out {K : Fg} {w1 w' : Wd} {σ : L2.St} {s : S} {m' : List Cell} (r1 : Rel ec K w1 σ s) (le : Le ⟨w1.G, [], fun p => w1.F p ∨ (p ∈ w1.r ∧ w1.G p = none), w1.H⟩ w') (mm : Mem ec K w' m') : Rel ec K ⟨w'.G, w1.r, w1.F, w'.H⟩ σ s ∧ Le w1 ⟨w'.G, w1.r, w1.F, w'.H⟩ := by
  have hk : ∀ a o, w1.H a = some o → ∃ o', w'.H a = some o' ∧ (NoTb o → o' = o) := fun a o e => le.k a o e (by simp)
  have le' : Le w1 ⟨w'.G, w1.r, w1.F, w'.H⟩ := ⟨le.g, fun a o e _ => hk a o e, List.prefix_refl _, fun _ h => .inl h, rfl⟩
  refine ⟨⟨⟨mm.ext, r1.mem.len, r1.mem.nd, fun n p c h1 h2 => ?_, fun p hp => ?_, r1.mem.tab.back mm.tab, r1.mem.inv.trans (le'.ch _), mm.gt, nv_back hk r1.mem.nv fun p hp => mm.nv.2 p (by rw [le.s]; exact .inl hp)⟩, r1.len, fun i sl e => slOk_mono le' (r1.slot i sl e)⟩, le'⟩
  · have c0 := r1.mem.cell n p c h1 h2
    refine cOk_mono le.g (fun hc => ?_) (fun o hc e => ?_) c0
    rotate_left
    · obtain ⟨o', e1, q⟩ := hk p o e
      have hn : NoTb o := by
        cases c with
        | l ds =>
          obtain ⟨_, vs, hv, _⟩ := c0
          rw [hv] at e
          cases e
          exact noTb_l
        | k kvs =>
          obtain ⟨_, vs, hv, _⟩ := c0
          rw [hv] at e
          cases e
          exact noTb_k
        | t kvs =>
          obtain ⟨_, vs, hv, _⟩ := c0
          rw [hv] at e
          cases e
          exact noTb_t
        | r kvs =>
          obtain ⟨_, vs, hv, _⟩ := c0
          rw [hv] at e
          cases e
          exact noTb_t
        | i n' j' kvs =>
          obtain ⟨_, vs, hv, _⟩ := c0
          rw [hv] at e
          cases e
          exact noTb_l
        | gone => exact absurd rfl hc
      rw [e1, q hn]
    have hg : w1.G p = none := by
      cases c with
      | l ds => exact c0.1
      | k kvs => exact c0.1
      | t kvs => exact c0.1
      | r ks => exact c0.1
      | i n' j' ds => exact c0.1
      | gone => exact absurd rfl hc
    exact (mm.fo p (by rw [le.s]; exact .inr ⟨List.mem_of_getElem? h1, hg⟩)).1
  · obtain ⟨a, b, c⟩ := mm.fo p (by rw [le.s]; exact .inl hp)
    exact ⟨a, (r1.mem.fo p hp).2.1, c⟩
/-- a start: what is there stays -/
structure Bas (b : Wd) : Prop where
  r : b.r = []
  g : ∀ a o, b.H a = some o → b.G a = some o
theorem bas_bot : Bas bot := ⟨rfl, fun _ _ e => e⟩
theorem Bas.le {b w : Wd} (h : Bas b) (g : Same b.G w.G) (e : Same w.G w.H) (hr : w.r = []) : Le b (w.f b.F) :=
  ⟨g, fun a o x _ => ⟨o, e _ _ (g _ _ (h.g a o x)), fun _ => rfl⟩, by rw [h.r]; exact List.nil_prefix, (fun p hp => absurd (show p ∈ w.r from hp) (by rw [hr]; exact List.not_mem_nil)), rfl⟩
theorem e_callP {k : Nat} {ps : List Str} {f : Fn} {x : Str} {p pos : Pos} {e : Expr} {es : List Expr} {cl : CL} (C : Cal X.prog X.w X.K X.mg X.base ec x ps f k) (hr : Rg k X.A)
    (tk : Takes X W) (ha : PA X (e :: es) (rdL X.K ec W cl)) (hl : LLen ps.length cl) (hg : Gl X x := by rfl) (hdb : (x == ("__debug__" : Str)) = false := by decide) (he : starEach (e :: es) X.env = (false, eval e X.env) :: starEach es X.env := by rfl)
    (hpl : (backTo pos (starEach es X.env)).any (·.1) = false := by rfl) (hw : Bas ec.w := by assumption) : Ex X ec W (.Call (.Name x p) (e :: es) [] pos) (cCallP f cl) := by
  obtain ⟨fa, fd, oc, od, osl, lk, F, hm, hk, hb⟩ := C
  exact (pe_callG F hr hg hm hk hb (fun σ => passAt tk σ) ha hdb he hpl).imp fun σ H Q h => by
    obtain ⟨w, s, rfl, hr, h⟩ := h
    refine ⟨w, s, rfl, hr, ?_⟩
    unfold cCallP at h
    cases e1 : cl s with
    | bad => rw [e1] at h; exact h
    | ex n s' => rw [e1] at h; exact h
    | ok as s1 =>
      rw [e1] at h
      intro vs w1 le1 r1 ao
      have h1 : Res (okV ec X.K w σ Q) (okE X.K ec W σ w) (if as.all Sl.isD = true then (f as []).pure s1 else .bad) := h
      by_cases hd : as.all Sl.isD = true
      · rw [if_pos hd] at h1
        refine ⟨by rw [paired_len ao]; exact hl _ _ _ e1, ⟨w1.G, [], fun p => w1.F p ∨ (p ∈ w1.r ∧ w1.G p = none), w1.H⟩, [], as, rfl, ⟨r1.mem.ext, rfl, List.nodup_nil, fun n p c h _ => by simp at h, fun p hp => ?_, r1.mem.tab.f fun _ h => .inl h, hw.le r1.mem.inv.g r1.mem.ext rfl, r1.mem.gt, ⟨fun t q n j ds e1 => by simp at e1, fun p hp => hp.elim (fun hp => r1.mem.nv.2 p hp) fun hp => .inr (by obtain ⟨n, e⟩ := List.getElem?_of_mem hp.1; exact r1.liveT e hp.2)⟩⟩, args_data (w := w1) (w' := ⟨w1.G, [], fun p => w1.F p ∨ (p ∈ w1.r ∧ w1.G p = none), w1.H⟩) rfl ao hd, ?_⟩
        · rcases hp with hp | hp
          · obtain ⟨a, b, c⟩ := r1.mem.fo p hp
            exact ⟨a, by simp, c⟩
          · exact ⟨hp.2, by simp, r1.live hp.1⟩
        · cases e2 : f as [] with
          | bad => rw [e2] at h1; exact h1
          | ex n m' =>
            rw [e2] at h1
            intro w2 le2 m2
            obtain ⟨r3, le3⟩ := mem_out r1 le2 m2
            exact h1 ⟨w2.G, w1.r, w1.F, w2.H⟩ (le1.trans le3) r3
          | ok a m' =>
            rw [e2] at h1
            intro x w2 le2 m2 o fr
            obtain ⟨r3, le3⟩ := mem_out r1 le2 m2
            cases a with
            | ref n => exact h1.elim
            | t _ _ => exact h1.elim
            | d y => exact h1 x ⟨w2.G, w1.r, w1.F, w2.H⟩ (le1.trans le3) r3 o .d
            | new c =>
              obtain ⟨p, ex, ⟨hp1, hp2⟩, hc⟩ := o
              have hf : w1.H p = none := fr c rfl p ex
              have hnr : p ∉ w1.r := fun hm => by
                obtain ⟨o, ho⟩ := r1.live hm
                rw [hf] at ho
                cases ho
              have hnF : ¬ w1.F p := fun hF => hp2 (by rw [le2.s]; exact .inl hF)
              have o3 : RvOk X.K ⟨w2.G, w1.r, w1.F, w2.H⟩ x (.new c) := ⟨p, ex, ⟨hnr, hnF⟩, hc⟩
              have f3 : FrR w1 x (.new c) := fun c' ec p' ep => fr c' ec p' ep
              exact h1 x ⟨w2.G, w1.r, w1.F, w2.H⟩ (le1.trans le3) r3 o3 (FrR.back le1 le3 o3 f3)
      · rw [if_neg hd] at h1
        exact h1.elim
end
/-! ### the law -/
def spLaw (K : Fg) (f : Fn) (T : List (Addr × Str)) : Sp := fun vs H Q E => (∀ q ∈ T, H q.1 = some (.tbl #[]) ∧ K.lookup q.1 = none) ∧ ∃ (a : Addr) (ns : List Int), vs = [.ref a] ∧ SqL K H a (ns.map V.int) ∧ f [.d (.list (ns.map PyData.int))] [] = .ok (.d (.bool true)) [] ∧ ∀ H', Q (.bl true) H'
theorem spLaw_in {K : Fg} {f : Fn} {H : Hp} {a : Addr} {ns : List Int} (hS : SqL K H a (ns.map V.int)) (h : f [.d (.list (ns.map PyData.int))] [] = .ok (.d (.bool true)) []) : spLaw K f [] [.ref a] H (fun v _ => v = .bl true) fun _ _ _ => False :=
  ⟨(fun q hq => nomatch hq), a, ns, rfl, hS, h, fun _ => rfl⟩
theorem cx_none {P : Program} {w : World} {H : Hp} {s : Shared} {e : Value} {s' : Shared} (h : L2.CX P w [] H s (fun _ _ _ => False) e s') : False := by
  obtain ⟨_, _, _, _, _, _, _, _, _, _, _, _, z⟩ := h
  exact z
/-- the ground at the start: all but the tables -/
def gndT (H : Hp) : Hp := fun b => match H b with
  | some (.tbl _) => none
  | x => x
theorem gndT_no {H : Hp} {b : Addr} {o : HO} (h : H b = some o) (n : NoTb o) : gndT H b = some o := by
  unfold gndT
  rw [h]
  split
  · rename_i ps e
    exact absurd (Option.some.inj e) (n ps)
  · rfl
theorem gndT_t {H : Hp} {b : Addr} {ps : Array Value} (h : H b = some (.tbl ps)) : gndT H b = none := by
  unfold gndT
  rw [h]
theorem gndT_of {H : Hp} {b : Addr} {o : HO} (h : gndT H b = some o) : H b = some o ∧ NoTb o := by
  unfold gndT at h
  split at h
  · cases h
  · rename_i x e
    exact ⟨h, fun ps z => e ps (by rw [h, z])⟩
theorem spLaw_spF {K : Fg} {ec : EC} (hw : ec.w = bot) {f : Fn} {vs : List V} {H : Hp} {Q : VK} {E : XK} (h : spLaw K f ec.T vs H Q E) : spF K ec 1 f vs H Q E := by
  obtain ⟨hT, a, ns, rfl, hS, hf, q⟩ := h
  have hS' : SqL K (gndT H) a (ns.map V.int) := by
    rcases hS with (h | ⟨o, h⟩) | h
    · exact .inl (.inl (gndT_no h noTb_l))
    · exact .inl (.inr ⟨o, gndT_no h fun _ z => by cases z⟩)
    · exact .inr h
  refine ⟨rfl, ⟨gndT H, [], fun b => b ∈ ec.T.map (·.1), H⟩, [], [.d (.list (ns.map PyData.int))], rfl, ⟨fun b u e => (gndT_of e).1, rfl, List.nodup_nil, fun n p c h _ => by simp at h, fun p h => ?_, fun q hq => ?_, ?_, fun b o e => (gndT_of e).2, ⟨fun t q n j ds e1 => by simp at e1, fun p hp => .inl hp⟩⟩, .cons ⟨.ref a, rfl, .lst hS' (rpAll_ints ns)⟩ .nil, ?_⟩
  · obtain ⟨q, hq, e⟩ := List.mem_map.mp h
    exact ⟨by rw [← e]; exact gndT_t (hT q hq).1, by simp, _, by rw [← e]; exact (hT q hq).1⟩
  · exact ⟨List.mem_map.mpr ⟨q, hq, rfl⟩, LamX.TabS.nil (hT q hq).1⟩
  · rw [hw]
    exact Le.bot _
  rw [hf]
  intro x w' _ _ hx _
  have hx : Rp K w'.G x (.bool true) := hx
  cases hx
  exact q _
theorem spLaw_of {P : Program} {wo : World} {K : Fg} {mg : Str → Option Value} {ec : EC} (hw : ec.w = bot) {x : Str} {st : Stmt} {k : Nat} {f : Fn} {fa : Addr} (D : DefF K mg x st ["_law_script"]) (hfa : mg x = some (.ref fa))
    (C : ∀ base : Heap, K.In base → base.Ns mainGlobals mg → Cal P wo K mg base ec x ["_law_script"] f k) :
    ∃ fd : FuncData, (∀ (s : Shared) (v : Value), BindsTo s fd ⟨[v], []⟩ [("_law_script", v)]) ∧ ∀ base : Heap, K.In base → base.Ns mainGlobals mg → FnG P wo K mg base k fa fd ["_law_script"] (spLaw K f ec.T) := by
  obtain ⟨fa', fd, F, hm, hb⟩ := D.ex
  rw [hfa] at hm
  cases hm
  obtain ⟨oc, od, kV, doc, pm, an, cdv, ct, osl, e, lk, _⟩ := F.ex
  refine ⟨fd, fun s v => .of_eq (hb [v] rfl), fun base h1 h2 => ?_⟩
  obtain ⟨fa2, fd2, oc2, od2, osl2, lk2, F2, hm2, _, _⟩ := C base h1 h2
  rw [hfa] at hm2
  cases hm2
  rw [lk] at lk2
  cases lk2
  exact F2.imp fun vs H Q E q => spLaw_spF hw q
/-- the law's call, from the caller's place -/
theorem walkG {l : PySem.W.OpenLaw} {n k : Nat} {q : Program} {loose : List Str} {XP : (Str → Option Value) → Heap → Prop} {YP : World → Heap → Prop} {d : DefRec} {K : Params → PySem.W.Frag} {f : Fn}
    (hn : l.most = some n) (hn2 : n ≤ sizeLine) (hdf : d.params.defaults = []) (hr : Room k callerA) (hY : ∀ (w : World) (h : Heap), YP w h → (K w.params).In h)
    (F : ∀ (w : World) (mg : Str → Option Value) (fa : Addr) (h : Heap), (K w.params).In h → h.Ns mainGlobals mg → mg d.name = some (.ref fa) →
      ∃ fd : FuncData, (∀ (s : Shared) (u : Value), BindsTo s fd ⟨[u], []⟩ [("_law_script", u)]) ∧ ∀ base : Heap, (K w.params).In base → base.Ns mainGlobals mg → FnG l.prog w (K w.params) mg base k fa fd ["_law_script"] (spLaw (K w.params) f []))
    (hf : ∀ ns : List Int, ns.length ≤ n → f [.d (.list (ns.map PyData.int))] [] = .ok (.d (.bool true)) []) : PySem.W.WalkO q loose XP YP l.row.toRowW d [] (fun g vs => PySem.call g vs) := by
  refine Att.attach_call hn hdf fun w s₀ s₁ mg mb fa o pm cd doc a vs ns G Y _ _ _ hmg hobj hints hlen hg => ?_
  have KX := hY w _ Y
  obtain ⟨fd, hb, FF⟩ := F w mg fa _ KX G.T.g hmg
  have T := G.T
  have rv := vals_ints hints
  have lz := hints.length
  have l16 := Nat.le_trans hlen hn2
  have main : ∀ H : Hp, Only H → SqL (K w.params) H a (ns.map V.int) → HOk l.prog w H s₁.heap → (∀ b, H b ≠ none → b = a) → (H a ≠ none → (K w.params).lookup a = none) →
      codeAny (model l.prog w) callerA (.call (.ref fa) ⟨[.ref a], []⟩) (fun r s' => r = .ok (.ret (.bool true)) ∧ OldK s₁.heap s'.heap ∧ s'.os = s₁.os ∧ AllBare s'.gens) s₁ := by
    intro H only seq ok1 own1 own2
    have hid : ∀ {b : Addr} {o : Obj}, s₁.heap.get? b = some o → H b = none → (hidT s₁.heap H).get? b = some o := fun e z => hidT_get e z
    have dic : ∀ {b : Addr} {o : Obj} {es : Array DictEntry} {ep : Nat}, s₁.heap.get? b = some o → o.data = .dict es ep → H b = none := fun {b o es ep} e dd => by
      rcases z : H b with _ | u
      · rfl
      · have eb : b = a := own1 b (by rw [z]; simp)
        subst eb
        rw [hobj] at e
        cases e
        exact nomatch (show Data.seq vs.toArray _ = Data.dict es ep from dd)
    have nsT : ∀ {b : Addr} {mm : Str → Option Value}, s₁.heap.Ns b mm → (hidT s₁.heap H).Ns b mm := fun {b mm} ⟨o, es, ep, e, dd, r⟩ => ⟨o, es, ep, hid e (dic e dd), dd, r⟩
    have inB : (K w.params).In (hidT s₁.heap H) := fun b o e => hid (KX b o e) (by
      rcases z : H b with _ | u
      · rfl
      · have eb : b = a := own1 b (by rw [z]; simp)
        subst eb
        rw [own2 (by rw [z]; simp)] at e
        cases e)
    have md : Mod (K w.params) mg (hidT s₁.heap H) := ⟨inB, nsT T.g, ⟨mb, nsT T.b, T.builtins⟩, let ⟨mc, z1, z2⟩ := T.nolimit; ⟨mc, nsT z1, z2⟩⟩
    have e0 : Env0 l.prog w (K w.params) mg (hidT s₁.heap H) callerA [] s₁ H := ⟨rfl, md, fun b o e => of_hidT e, Nat.le_of_eq (hidT_size _ _), trivial, fun b z => absurd (show b ∈ ([] : List Addr) from z) (by simp), ok1, .of_eq hg⟩
    refine codeAny_mono ((FF _ inB (nsT T.g)).go (us := [.ref a]) (vs := [.ref a]) ⟨hr, rfl⟩ e0 (hb s₁ (.ref a)) (.cons rfl .nil) (spLaw_in seq (hf ns hlen))) fun r s2 z => ?_
    rcases r with e | fl
    · exact (cx_none z).elim
    cases fl with
    | next => exact z.elim
    | brk => exact z.elim
    | cont => exact z.elim
    | ret u =>
      obtain ⟨v, H2, os, bare, un, ok2, rv2, ve⟩ := z
      have ve : v = .bl true := ve
      subst ve
      obtain rfl : u = Value.bool true := rv2
      refine ⟨rfl, OldK.of_keep fun b o e => ?_, os, bare⟩
      rcases z : H b with _ | u
      · exact un.keep b o e z (by intro zz; exact absurd (show b ∈ ([] : List Addr) from zz) (by simp)) (by simp)
      · rcases only b with y | ⟨ob, xs, y⟩
        · rw [z] at y
          cases y
        · obtain ⟨e1, _⟩ := ok1 b _ y
          obtain ⟨e2, _⟩ := ok2 b _ (un.frzs b ob _ y)
          rw [e] at e1
          cases e1
          exact e2
  rcases lk : (K w.params).lookup a with _ | o1
  · refine main (fun b => if b = a then some (.frz { cls := .type "list", data := .seq vs.toArray } (.lst (ns.map V.int))) else none) (fun b => ?_) (.inl (.inr ⟨{ cls := .type "list", data := .seq vs.toArray }, if_pos rfl⟩)) (fun b u z => ?_) (fun b z => ?_) fun _ => lk
    · by_cases e : b = a
      · exact .inr ⟨_, _, if_pos e⟩
      · exact .inl (if_neg e)
    · by_cases e : b = a
      · have z := (if_pos e).symm.trans z
        cases z
        subst e
        exact ⟨hobj, by rw [List.length_map]; exact l16, vs, _, rv, hobj⟩
      · exact nomatch (if_neg e).symm.trans z
    · by_cases e : b = a
      · exact e
      · exact absurd (if_neg e) z
  · have e := KX a o1 lk
    rw [hobj] at e
    cases e
    exact main (fun _ => none) (fun _ => .inl rfl) (.inr ⟨_, vs.toArray, _, lk, rfl, rfl, rfl, by rw [List.size_toArray, lz]; exact l16, by simpa using rv⟩) (fun b u z => nomatch (show (none : Option HO) = some u from z)) (fun b z => absurd rfl z) fun z => absurd rfl z
/-! ### exceptions by name -/
def ecOf (mg : Str → Option Value) (T : List (Addr × Str) := []) (L : List String := []) : EC := ⟨fun n => match mg (Str.ofString n) with
  | some (.ref a) => a
  | _ => 0, T, L, bot, 0⟩
theorem exc_g {mg : Str → Option Value} {T : List (Addr × Str)} {L : List String} {n : String} {a : Addr} (h : mg (Str.ofString n) = some (.ref a)) : mg (Str.ofString n) = some (.ref ((ecOf mg T L).f n)) := by
  show mg (Str.ofString n) = some (.ref (match mg (Str.ofString n) with
    | some (.ref a) => a
    | _ => 0))
  rw [h]
theorem exc_e {mg : Str → Option Value} {T : List (Addr × Str)} {L : List String} {n : String} {a : Addr} {P : Addr → Prop} (h : mg (Str.ofString n) = some (.ref a)) (q : P a) : P ((ecOf mg T L).f n) := by
  show P (match mg (Str.ofString n) with
    | some (.ref a) => a
    | _ => 0)
  rw [h]
  exact q
section
variable {X : Cx} {ec : EC} {W : WX}
/-! ### times: ints, a list or a tuple so many times -/
theorem op_repV : OpR X (binaryOp .Mult) (rRepV X.K) := by
  intro pins s σ H x y v u Q I rx ry h
  obtain ⟨l, k, xs, rfl, rfl, hH, h1, h2, hz, q⟩ := h
  cases rx
  obtain ⟨t, rfl⟩ := ry
  obtain ⟨its, r, p, z⟩ := I.list hH
  obtain ⟨⟨cls, dd, data, sl⟩, n, e, hc, hd, hs⟩ := p
  dsimp only at hc hd hs
  subst hc
  subst hd
  subst hs
  have hl : xs.length = its.length := r.length
  have hlen : its.toArray.size * k.toNat ≤ sizeLine := by rw [List.size_toArray, ← hl]; exact hz
  have hcap : ¬ its.toArray.size * k.toNat > (2 ^ 63 - 1) / 8 := by
    have : (sizeLine : Nat) ≤ (2 ^ 63 - 1) / 8 := by decide
    omega
  have hfit : ¬ (!Builtin.List.listFitsIndex k) = true := by
    rw [fitsIndex_both h1 h2]
    exact Bool.false_ne_true
  have hlong : ¬ Builtin.List.listTooLong (its.toArray.size * k.toNat) = true := by
    rw [notLongL hlen]
    exact Bool.false_ne_true
  have hnew : List.foldl (fun x1 x2 => x1 ++ x2) #[] (List.replicate (if its.toArray.isEmpty = true then 0 else k.toNat) its.toArray) = (List.replicate k.toNat its).flatten.toArray := by
    have f0 : ∀ m : Nat, List.foldl (fun x1 x2 => x1 ++ x2) #[] (List.replicate m its.toArray) = (List.replicate m its).flatten.toArray := fun m => by
      have := foldl_rep its m []
      rw [List.nil_append] at this
      exact this
    rw [f0]
    cases its with
    | nil => simp
    | cons a r' => rw [if_neg (by simp)]
  refine wpAny_binaryOp_repeat_ref (T := "list") (U := "int") (by decide) ⟨_, e, rfl⟩ (fun s' => typeIs_int s' k t) noFill_list_mul F.fills_int_mul F.slot_int_rmul repeat_list F.slot_int_index.lookup
    (call_meets F.slot_int_rmul (typeIs_int s k t) F.entry_int_rmul (F.args_int_rmul_2 _ _) (lm_int_rmul_list_any k t l its.toArray n _ _)
      ⟨e, rfl, ⟨_, e, rfl⟩, call_meets F.slot_list_mul ⟨_, e, rfl⟩ F.entry_list_mul (F.args_list_mul_2 _ _) (lm_list_mul_any l its.toArray n _ _ k t hfit hcap hlong) ⟨e, ?_⟩⟩)
  rw [hnew]
  exact ⟨.ref _, _, I.lnew (t' := s.toks) (r.rep k.toNat) (by rw [PyProof.Rows.lm_len_rep_flat, Nat.mul_comm]; rw [List.size_toArray] at hlen; omega), rfl, q _ I.fresh⟩
theorem tuple_mul1 (l : Addr) (items : Array Value) (n : Nat) (dd : Option Addr) (sl : Array (Option Value)) (x : Int) (u : Tok) (c0 : (decide (x < -(2 ^ 63)) || decide (x ≥ 2 ^ 63)) = false) (c1 : (items.isEmpty || x == 1) = true) :
    Meets (Builtin.«tuple.__mul__» ⟨[.ref l, .int x u], []⟩) (fun _ R s => s.heap.get? l = some { cls := .type "tuple", dict := dd, data := .seq items n, slots := sl } ∧ R (.ok (.ret (Value.ref l))) s) :=
  .of_wp fun prog w A R s h => by
    obtain ⟨hp, g, d, tk, os⟩ := s
    obtain ⟨hl, h⟩ := h
    have f1 := AutoSeq1.idx_int
    wp_walk using wpAny_loadPart' hl
    repeat (first
      | (refine wpAny_ite_false (decide_eq_false (by rw [c0]; exact Bool.false_ne_true)) ?_; wp_walk using wpAny_loadPart' hl)
      | (refine wpAny_ite_true (decide_eq_true c1) ?_; wp_walk using wpAny_loadPart' hl))
    exact ⟨_, rfl, h⟩
def rRepT1 (K : Fg) : R2 := fun x y H Q => ∃ l xs, x = .ref l ∧ y = .int 1 ∧ SqT K H l xs ∧ Q (.ref l) H
theorem op_repT1 : OpR X (binaryOp .Mult) (rRepT1 X.K) := by
  intro pins s σ H x y v u Q I rx ry h
  obtain ⟨l, xs, rfl, rfl, hT, q⟩ := h
  cases rx
  obtain ⟨t, rfl⟩ := ry
  obtain ⟨its, r, ⟨⟨cls, dd, data, sl⟩, ho, hc, n, hd⟩, hs⟩ := I.tuple hT
  simp only at hc hd
  subst hc hd
  refine wpAny_binaryOp_repeat_ref (T := "tuple") (U := "int") (by decide) ⟨_, ho, rfl⟩ (fun s' => typeIs_int s' 1 t) noFill_tuple_mul F.fills_int_mul F.slot_int_rmul repeat_tuple F.slot_int_index.lookup
    (call_meets F.slot_int_rmul (typeIs_int s 1 t) F.entry_int_rmul (F.args_int_rmul_2 _ _) (int_rmul_tuple 1 t l its.toArray n dd sl)
      ⟨ho, rfl, ⟨_, ho, rfl⟩, call_meets F.slot_tuple_mul ⟨_, ho, rfl⟩ F.entry_tuple_mul (F.args_tuple_mul_2 _ _) (tuple_mul1 l its.toArray n dd sl 1 t (by decide) (by simp)) ⟨ho, ?_⟩⟩)
  exact ⟨.ref l, _, I.kept (t' := s.toks) (fun _ _ e => e), rfl, q⟩
theorem tuple_mul0 (l : Addr) (items : Array Value) (n : Nat) (dd : Option Addr) (sl : Array (Option Value)) (x : Int) (u : Tok) (c0 : (decide (x < -(2 ^ 63)) || decide (x ≥ 2 ^ 63)) = false) (c1 : (items.isEmpty || x == 1) = false) (c2 : (decide (x ≤ 0) || items.isEmpty) = true) :
    Meets (Builtin.«tuple.__mul__» ⟨[.ref l, .int x u], []⟩) (fun _ R s => s.heap.get? l = some { cls := .type "tuple", dict := dd, data := .seq items n, slots := sl } ∧
      R (.ok (.ret (Value.ref s.heap.objs.size))) { s with heap := s.heap.push { cls := Value.type "tuple", data := Data.seq #[] }, toks := s.toks }) :=
  .of_wp fun prog w A R s h => by
    obtain ⟨hp, g, d, tk, os⟩ := s
    obtain ⟨hl, h⟩ := h
    have f1 := AutoSeq1.idx_int
    wp_walk using wpAny_loadPart' hl
    repeat (first
      | (refine wpAny_ite_false (decide_eq_false (by rw [c0]; exact Bool.false_ne_true)) ?_; wp_walk using wpAny_loadPart' hl)
      | (refine wpAny_ite_false (decide_eq_false (by rw [c1]; exact Bool.false_ne_true)) ?_; wp_walk using wpAny_loadPart' hl)
      | (refine wpAny_ite_true (decide_eq_true c2) ?_; wp_walk using wpAny_loadPart' hl))
    exact ⟨_, rfl, h⟩
def rRepT0 (K : Fg) : R2 := fun x y H Q => ∃ l k xs, x = .ref l ∧ y = .int k ∧ SqT K H l xs ∧ xs ≠ [] ∧ k ≤ 0 ∧ -1000 ≤ k ∧ ∀ p, H p = none → Q (.ref p) (upd H p (.tup []))
theorem op_repT0 : OpR X (binaryOp .Mult) (rRepT0 X.K) := by
  intro pins s σ H x y v u Q I rx ry h
  obtain ⟨l, k, xs, rfl, rfl, hT, hne, h1, h2, q⟩ := h
  cases rx
  obtain ⟨t, rfl⟩ := ry
  obtain ⟨its, r, ⟨⟨cls, dd, data, sl⟩, ho, hc, n, hd⟩, hs⟩ := I.tuple hT
  simp only at hc hd
  subst hc hd
  have hle : its.length = xs.length := r.length.symm
  have hn : its ≠ [] := fun e => hne (by
    rw [e] at hle
    exact List.eq_nil_of_length_eq_zero hle.symm)
  have hi : its.toArray.isEmpty = false := by
    cases its with
    | nil => exact absurd rfl hn
    | cons a b => rfl
  have c0 : (decide (k < -(2 ^ 63)) || decide (k ≥ 2 ^ 63)) = false := by
    rw [decide_eq_false (by omega), decide_eq_false (by omega)] <;> rfl
  have c1 : (its.toArray.isEmpty || k == 1) = false := by
    rw [hi, Bool.false_or]
    exact beq_eq_false_iff_ne.mpr (by omega)
  have c2 : (decide (k ≤ 0) || its.toArray.isEmpty) = true := by
    rw [decide_eq_true h1, Bool.true_or]
  refine wpAny_binaryOp_repeat_ref (T := "tuple") (U := "int") (by decide) ⟨_, ho, rfl⟩ (fun s' => typeIs_int s' k t) noFill_tuple_mul F.fills_int_mul F.slot_int_rmul repeat_tuple F.slot_int_index.lookup
    (call_meets F.slot_int_rmul (typeIs_int s k t) F.entry_int_rmul (F.args_int_rmul_2 _ _) (int_rmul_tuple k t l its.toArray n dd sl)
      ⟨ho, rfl, ⟨_, ho, rfl⟩, call_meets F.slot_tuple_mul ⟨_, ho, rfl⟩ F.entry_tuple_mul (F.args_tuple_mul_2 _ _) (tuple_mul0 l its.toArray n dd sl k t c0 c1 c2) ⟨ho, ?_⟩⟩)
  refine ⟨.ref s.heap.objs.size, _, I.laid (t' := s.toks) (o := .tup []) (fun b ob q => Heap.get?_push_of_some _ q) (Nat.le_refl _) ?_, rfl, q _ (I.hok.fresh (Nat.le_refl _))⟩
  exact ⟨Nat.zero_le _, _, .nil, IsTup.new _ _⟩
def rMulV (K : Fg) : R2 := fun x y H Q => (rI (fun i j => mulOk i j = true) (fun i j => .int (i * j))) x y H Q ∨ rRepV K x y H Q ∨ rRepT K x y H Q ∨ rRepT1 K x y H Q ∨ rRepT0 K x y H Q
theorem or_mul : OpR X (binaryOp .Mult) (rMulV X.K) := OpR.or op_mulV (OpR.or op_repV (OpR.or op_repT (OpR.or op_repT1 op_repT0)))
def opMulV : Od → Od → Option Rv
  | .d (.int i), .d (.int j) => if mulOk i j = true then some (.d (.int (i * j))) else none
  | .d (.list ds), .d (.int k) => if decide (k < 2 ^ 63) && decide (-(2 ^ 63) ≤ k) && decide (ds.length * k.toNat ≤ 16000000) then some (.new (.l (List.replicate k.toNat ds).flatten)) else none
  | .d (.tuple ds), .d (.int k) => if k = 1 then some (.d (.tuple ds)) else if !ds.isEmpty && decide (2 ≤ k) && decide (k ≤ 1000) && decide (ds.length ≤ 1000) then some (.d (.tuple (List.replicate k.toNat ds).flatten)) else if !ds.isEmpty && decide (k ≤ 0) && decide (-1000 ≤ k) then some (.d (.tuple [])) else none
  | _, _ => none
theorem rp_rep {K : Fg} {H : Hp} {vs : List V} {ds : List D} (r : RpAll K H vs ds) : ∀ n, RpAll K H (List.replicate n vs).flatten (List.replicate n ds).flatten
  | 0 => .nil
  | n + 1 => by
    rw [List.replicate_succ, List.flatten_cons, List.replicate_succ, List.flatten_cons]
    exact r.append (rp_rep r n)
theorem s_mulV {K : Fg} : Op2S K (rMulV K) opMulV := by
  intro w x y o o' rv Q hx h h' e q
  unfold opMulV at e
  split at e
  · split at e
    · rename_i hm
      cases e
      exact .inl ⟨_, _, h.int, h'.int, hm, post_int q⟩
    · cases e
  · split at e
    · rename_i ds k hc
      cases e
      simp only [Bool.and_eq_true, decide_eq_true_eq] at hc
      obtain ⟨p, vs, rfl, hl, r⟩ := h.list hx
      refine .inr (.inl ⟨p, k, vs, rfl, h'.int, hl, hc.1.2, hc.1.1, sz16 (by rw [r.length]; exact hc.2), fun a ha => post_lst q (rp_rep r _) ha hx⟩)
    · cases e
  · split at e
    · rename_i ds k hk
      subst hk
      cases e
      obtain ⟨p, vs, rfl, hg, r⟩ := h.tup
      exact .inr (.inr (.inr (.inl ⟨p, vs, rfl, h'.int, .inl (.inl (hx _ _ hg)), post_d q (.tup hg r)⟩)))
    · split at e
      · rename_i ds k hk hc
        cases e
        simp only [Bool.and_eq_true, decide_eq_true_eq, Bool.not_eq_true', List.isEmpty_eq_false_iff] at hc
        obtain ⟨p, vs, rfl, hg, r⟩ := h.tup
        refine .inr (.inr (.inl ⟨p, k, vs, rfl, h'.int, .inl (.inl (hx _ _ hg)), fun e => hc.1.1.1 ?_, hc.1.1.2, hc.1.2, by rw [r.length]; exact hc.2, fun a ha => post_tup q (rp_rep r _) ha hx⟩))
        subst e
        cases r
        rfl
      · split at e
        · rename_i ds k hk hc2 hc
          cases e
          simp only [Bool.and_eq_true, decide_eq_true_eq, Bool.not_eq_true', List.isEmpty_eq_false_iff] at hc
          obtain ⟨p, vs, rfl, hg, r⟩ := h.tup
          refine .inr (.inr (.inr (.inr ⟨p, k, vs, rfl, h'.int, .inl (.inl (hx _ _ hg)), fun e => hc.1.1 ?_, hc.1.2, hc.2, fun a ha => post_tup q .nil ha hx⟩)))
          subst e
          cases r
          rfl
        · cases e
  · cases e
/-! ### methods of a list -/
section
variable {o e : Expr} {es : List Expr} {apos cpos : Pos} {co : CE} {ca : CA}
theorem e_append (ho : Ex X ec W o co) (ha : PA X (e :: es) (rdA X.K ec W ca)) (hbase : attributeBase o "append" X.env (eval o X.env) = eval o X.env := by rfl)
    (hfew : ((backTo cpos (starEach (e :: es) X.env)).all (fun x => !x.1) && (backToKw cpos (keywordEach [] X.env)).all (fun x => x.1.isSome) && decide ((e :: es).length + ([] : List Keyword).length + (if ([] : List Keyword).isEmpty then 0 else 1) < 30)) = true := by rfl)
    (hline : (apos.endLine == cpos.line) = true := by rfl) (hs : starEach (e :: es) X.env = (false, eval e X.env) :: starEach es X.env := by rfl) (hplain : (backTo cpos (starEach es X.env)).any (·.1) = false := by rfl) :
    Ex X ec W (.Call (.Attribute o "append" apos) (e :: es) [] cpos) (cMut fApp co ca) :=
  e_mut m_append mt_append F.slot_list_append F.type_list_append ho ha fun h1 h2 => pe_bm F.plainAttrs_list F.slot_list_append F.type_list_append mt_append h1 h2 hbase hfew hline hs hplain
end
end
end Vm
namespace Vm
open PySem L2
/-! ### runs step by step, for simp -/
def frz : Rv → S → R Rv
  | .d x, s => .ok (.d x) s
  | .ref n, s => .ok (.ref n) s
  | .t b es, s => .ok (.t b es) s
  | .new (.l ds), s => .ok (.d (.list ds)) s
  | .new (.k kvs), s => .ok (.d (.dict (kvs.map fun p => (kD p.1, p.2)))) s
  | .new _, _ => .bad
@[simp] theorem frz_d {x : D} {s : S} : frz (.d x) s = .ok (.d x) s := Eq.trans rfl rfl
@[simp] theorem frz_t {b : Bool} {es : List El} {s : S} : frz (.t b es) s = .ok (.t b es) s := Eq.trans rfl rfl
@[simp] theorem frz_ref {n : Nat} {s : S} : frz (.ref n) s = .ok (.ref n) s := Eq.trans rfl rfl
@[simp] theorem frz_l {ds : List D} {s : S} : frz (.new (.l ds)) s = .ok (.d (.list ds)) s := Eq.trans rfl rfl
@[simp] theorem frz_k {kvs : List (L2.Key × D)} {s : S} : frz (.new (.k kvs)) s = .ok (.d (.dict (kvs.map fun p => (kD p.1, p.2)))) s := Eq.trans rfl rfl
section
variable {α β : Type}
@[simp] theorem bind_ok {a : α} {s : S} {k : α → S → R β} : (R.ok a s).bind k = k a s := Eq.trans rfl rfl
@[simp] theorem bind_ex {e : String} {s : S} {k : α → S → R β} : (R.ex e s).bind k = .ex e s := Eq.trans rfl rfl
@[simp] theorem out_ok {a : α} {s : S} {k : α → S → Out} : (R.ok a s).out k = k a s := Eq.trans rfl rfl
@[simp] theorem out_ex {e : String} {s : S} {k : α → S → Out} : (R.ex e s : R α).out k = .ex e s := Eq.trans rfl rfl
@[simp] theorem opt_some {a : α} {k : α → R β} : opt (some a) k = k a := Eq.trans rfl rfl
end
@[simp] theorem cv_s {c : CE} {s : S} : cv c s = (c s).bind frz := by
  unfold cv
  congr 1
  funext rv s1
  cases rv with
  | d x => rfl
  | t b es => rfl
  | ref n => rfl
  | new c => cases c <;> rfl
def slR : Option Sl → S → R Rv
  | some (.d x), s => .ok (.d x) s
  | some (.c n), s => .ok (.ref n) s
  | some (.t b es), s => .ok (.t b es) s
  | _, _ => .bad
@[simp] theorem slR_t {b : Bool} {es : List El} {s : S} : slR (some (.t b es)) s = .ok (.t b es) s := Eq.trans rfl rfl
@[simp] theorem slR_d {x : D} {s : S} : slR (some (.d x)) s = .ok (.d x) s := Eq.trans rfl rfl
@[simp] theorem slR_c {n : Nat} {s : S} : slR (some (.c n)) s = .ok (.ref n) s := Eq.trans rfl rfl
@[simp] theorem cVar_r {i : Nat} {s : S} : cVar i s = slR s.v[i]? s := by
  unfold cVar
  generalize s.v[i]? = o
  rcases o with _ | (_ | _ | _) <;> rfl
@[simp] theorem cC_s {d : D} {s : S} : cC d s = .ok (.d d) s := Eq.trans rfl rfl
def odC : Option Cell → Option Od
  | some (.l ds) => some (.d (.list ds))
  | some (.k kvs) => some (.c (.k kvs))
  | some (.t kvs) => some (.c (.t kvs))
  | some (.r ks) => some (.c (.r ks))
  | _ => none
@[simp] theorem odC_l {ds : List D} : odC (some (.l ds)) = some (.d (.list ds)) := Eq.trans rfl rfl
@[simp] theorem odC_k {kvs : List (L2.Key × D)} : odC (some (.k kvs)) = some (.c (.k kvs)) := Eq.trans rfl rfl
@[simp] theorem odC_t {kvs : List (List L2.Key × D)} : odC (some (.t kvs)) = some (.c (.t kvs)) := Eq.trans rfl rfl
@[simp] theorem odC_r {ks : List (List L2.Key)} : odC (some (.r ks)) = some (.c (.r ks)) := Eq.trans rfl rfl
@[simp] theorem od_d {x : D} {m : List Cell} : (Rv.d x).od m = some (.d x) := Eq.trans rfl rfl
@[simp] theorem od_ref {n : Nat} {m : List Cell} : (Rv.ref n).od m = odC m[n]? := by
  unfold Rv.od
  dsimp only
  generalize m[n]? = o
  rcases o with _ | (_ | _ | _ | _ | _ | _) <;> rfl
/-! what comes behind has a name: simp stays out of it -/
def rvK : Option Rv → S → R Rv
  | some rv, s => .ok rv s
  | none, _ => .bad
@[simp] theorem rvK_s {rv : Rv} {s : S} : rvK (some rv) s = .ok rv s := Eq.trans rfl rfl
theorem opt_rv {o : Option Rv} {s : S} : (opt o fun rv => .ok rv s) = rvK o s := by cases o <;> rfl
def odK1 (f : Od → Option Rv) : Option Od → S → R Rv
  | some o, s => rvK (f o) s
  | none, _ => .bad
@[simp] theorem odK1_s {f : Od → Option Rv} {o : Od} {s : S} : odK1 f (some o) s = rvK (f o) s := Eq.trans rfl rfl
def kOp1 (f : Od → Option Rv) (x : Rv) (s1 : S) : R Rv := odK1 f (x.od s1.m) s1
@[simp] theorem kOp1_s {f : Od → Option Rv} {x : Rv} {s1 : S} : kOp1 f x s1 = odK1 f (x.od s1.m) s1 := Eq.trans rfl rfl
@[simp] theorem cOp1_s {f : Od → Option Rv} {a : CE} {s : S} : cOp1 f a s = (cv a s).bind (kOp1 f) := by
  unfold cOp1
  congr 1
  funext x s1
  rw [kOp1_s]
  cases x.od s1.m with
  | none => rfl
  | some o => exact opt_rv
def odK2 (f : Od → Od → Option Rv) : Option Od → Option Od → S → R Rv
  | some o, some o', s => rvK (f o o') s
  | _, _, _ => .bad
@[simp] theorem odK2_s {f : Od → Od → Option Rv} {o o' : Od} {s : S} : odK2 f (some o) (some o') s = rvK (f o o') s := Eq.trans rfl rfl
def kOp2b (f : Od → Od → Option Rv) (x y : Rv) (s2 : S) : R Rv := odK2 f (x.od s2.m) (y.od s2.m) s2
@[simp] theorem kOp2b_s {f : Od → Od → Option Rv} {x y : Rv} {s2 : S} : kOp2b f x y s2 = odK2 f (x.od s2.m) (y.od s2.m) s2 := Eq.trans rfl rfl
def kOp2 (f : Od → Od → Option Rv) (b : CE) (x : Rv) (s1 : S) : R Rv := (cv b s1).bind (kOp2b f x)
@[simp] theorem kOp2_s {f : Od → Od → Option Rv} {b : CE} {x : Rv} {s1 : S} : kOp2 f b x s1 = (cv b s1).bind (kOp2b f x) := Eq.trans rfl rfl
theorem opt_od2 {f : Od → Od → Option Rv} {a b : Option Od} {s : S} : (opt a fun o => opt b fun o' => opt (f o o') fun rv => .ok rv s) = odK2 f a b s := by
  cases a with
  | none => rfl
  | some o =>
    cases b with
    | none => rfl
    | some o' => exact opt_rv
@[simp] theorem cOp2_s {f : Od → Od → Option Rv} {a b : CE} {s : S} : cOp2 f a b s = (cv a s).bind (kOp2 f b) := by
  unfold cOp2
  congr 1
  funext x s1
  rw [kOp2_s]
  congr 1
  funext y s2
  exact opt_od2
@[simp] theorem cOp2r_s {f : Od → Od → Option Rv} {a b : CE} {s : S} : cOp2r f a b s = cOp2 (fun o o' => f o' o) a b s := Eq.trans rfl rfl
def boolR : Rv → S → R Bool
  | .d (.bool b), s => .ok b s
  | _, _ => .bad
@[simp] theorem boolR_b {b : Bool} {s : S} : boolR (.d (.bool b)) s = .ok b s := Eq.trans rfl rfl
@[simp] theorem cB_s {c : CE} {s : S} : cB c s = (cv c s).bind boolR := by
  unfold cB
  congr 1
  funext a s1
  rcases a with (_ | _ | _ | _ | _ | _ | _) | _ | _ <;> rfl
def bK : Option Bool → S → R Bool
  | some b, s => .ok b s
  | none, _ => .bad
@[simp] theorem bK_s {b : Bool} {s : S} : bK (some b) s = .ok b s := Eq.trans rfl rfl
def truK : Option Od → S → R Bool
  | some o, s => bK (truthy o) s
  | none, _ => .bad
@[simp] theorem truK_s {o : Od} {s : S} : truK (some o) s = bK (truthy o) s := Eq.trans rfl rfl
def kTru (a : Rv) (s1 : S) : R Bool := truK (a.od s1.m) s1
@[simp] theorem kTru_s {a : Rv} {s1 : S} : kTru a s1 = truK (a.od s1.m) s1 := Eq.trans rfl rfl
@[simp] theorem cTru_s {c : CE} {s : S} : cTru c s = (cv c s).bind kTru := by
  unfold cTru
  congr 1
  funext a s1
  rw [kTru_s]
  cases a.od s1.m with
  | none => rfl
  | some o =>
    show (opt (truthy o) fun b => R.ok b s1) = bK (truthy o) s1
    cases truthy o <;> rfl
@[simp] theorem truthy_b {b : Bool} : truthy (.d (.bool b)) = some b := Eq.trans rfl rfl
@[simp] theorem truthy_i {i : Int} : truthy (.d (.int i)) = some (i != 0) := Eq.trans rfl rfl
@[simp] theorem truthy_l {ds : List D} : truthy (.d (.list ds)) = some (!ds.isEmpty) := Eq.trans rfl rfl
@[simp] theorem truthy_t {ds : List D} : truthy (.d (.tuple ds)) = some (!ds.isEmpty) := Eq.trans rfl rfl
@[simp] theorem truthy_n : truthy (.d .none) = some false := Eq.trans rfl rfl
def kAndT (b : CT) (x : Bool) (s1 : S) : R Bool := if x = true then b s1 else .ok false s1
@[simp] theorem kAndT_s {b : CT} {x : Bool} {s1 : S} : kAndT b x s1 = if x = true then b s1 else .ok false s1 := Eq.trans rfl rfl
@[simp] theorem tAnd_s {a b : CT} {s : S} : tAnd' a b s = (a s).bind (kAndT b) := Eq.trans rfl rfl
def kOrT (b : CT) (x : Bool) (s1 : S) : R Bool := if x = true then .ok true s1 else b s1
@[simp] theorem kOrT_s {b : CT} {x : Bool} {s1 : S} : kOrT b x s1 = if x = true then .ok true s1 else b s1 := Eq.trans rfl rfl
@[simp] theorem tOr_s {a b : CT} {s : S} : tOr' a b s = (a s).bind (kOrT b) := Eq.trans rfl rfl
def kNotT (x : Bool) (s1 : S) : R Bool := .ok (!x) s1
@[simp] theorem kNotT_s {x : Bool} {s1 : S} : kNotT x s1 = .ok (!x) s1 := Eq.trans rfl rfl
@[simp] theorem tNot_s {a : CT} {s : S} : tNot' a s = (a s).bind kNotT := Eq.trans rfl rfl
def kAndE (b : CE) (x : Bool) (s1 : S) : R Rv := if x = true then b s1 else .ok (.d (.bool false)) s1
@[simp] theorem kAndE_s {b : CE} {x : Bool} {s1 : S} : kAndE b x s1 = if x = true then b s1 else .ok (.d (.bool false)) s1 := Eq.trans rfl rfl
@[simp] theorem cAnd_s {a b : CE} {s : S} : cAnd a b s = (cB a s).bind (kAndE b) := Eq.trans rfl rfl
def kOrE (b : CE) (x : Bool) (s1 : S) : R Rv := if x = true then .ok (.d (.bool true)) s1 else b s1
@[simp] theorem kOrE_s {b : CE} {x : Bool} {s1 : S} : kOrE b x s1 = if x = true then .ok (.d (.bool true)) s1 else b s1 := Eq.trans rfl rfl
@[simp] theorem cOr_s {a b : CE} {s : S} : cOr a b s = (cB a s).bind (kOrE b) := Eq.trans rfl rfl
def kNotE (x : Bool) (s1 : S) : R Rv := .ok (.d (.bool (!x))) s1
@[simp] theorem kNotE_s {x : Bool} {s1 : S} : kNotE x s1 = .ok (.d (.bool (!x))) s1 := Eq.trans rfl rfl
@[simp] theorem cNot_s {a : CE} {s : S} : cNot a s = (cB a s).bind kNotE := Eq.trans rfl rfl
def kIf (a b : CE) (x : Bool) (s1 : S) : R Rv := if x = true then a s1 else b s1
@[simp] theorem kIf_s {a b : CE} {x : Bool} {s1 : S} : kIf a b x s1 = if x = true then a s1 else b s1 := Eq.trans rfl rfl
@[simp] theorem cIf_s {t : CT} {a b : CE} {s : S} : cIf t a b s = (t s).bind (kIf a b) := Eq.trans rfl rfl
@[simp] theorem cNil_s {s : S} : cNil s = .ok [] s := Eq.trans rfl rfl
def kCons (x : D) (xs : List D) (s2 : S) : R (List D) := .ok (x :: xs) s2
@[simp] theorem kCons_s {x : D} {xs : List D} {s2 : S} : kCons x xs s2 = .ok (x :: xs) s2 := Eq.trans rfl rfl
def consR (ca : CA) : Rv → S → R (List D)
  | .d x, s1 => (ca s1).bind (kCons x)
  | _, _ => .bad
@[simp] theorem consR_d {ca : CA} {x : D} {s1 : S} : consR ca (.d x) s1 = (ca s1).bind (kCons x) := Eq.trans rfl rfl
@[simp] theorem cCons_s {c : CE} {ca : CA} {s : S} : cCons c ca s = (cv c s).bind (consR ca) := by
  unfold cCons
  congr 1
  funext a s1
  cases a <;> rfl
def kTup (ds : List D) (s1 : S) : R Rv := .ok (.d (.tuple ds)) s1
@[simp] theorem kTup_s {ds : List D} {s1 : S} : kTup ds s1 = .ok (.d (.tuple ds)) s1 := Eq.trans rfl rfl
@[simp] theorem cTup_s {ca : CA} {s : S} : cTup ca s = (ca s).bind kTup := Eq.trans rfl rfl
def kLst (ds : List D) (s1 : S) : R Rv := .ok (.new (.l ds)) s1
@[simp] theorem kLst_s {ds : List D} {s1 : S} : kLst ds s1 = .ok (.new (.l ds)) s1 := Eq.trans rfl rfl
@[simp] theorem cLst_s {ca : CA} {s : S} : cLst ca s = (ca s).bind kLst := Eq.trans rfl rfl
/-! statements -/
def Out.then (o : Out) (b : CS) : Out := match o with
  | .nx s1 => b s1
  | o => o
@[simp] theorem then_nx {s : S} {b : CS} : (Out.nx s).then b = b s := Eq.trans rfl rfl
@[simp] theorem then_rt {a : Rv} {s : S} {b : CS} : (Out.rt a s).then b = .rt a s := Eq.trans rfl rfl
@[simp] theorem then_bk {s : S} {b : CS} : (Out.bk s).then b = .bk s := Eq.trans rfl rfl
@[simp] theorem then_ct {s : S} {b : CS} : (Out.ct s).then b = .ct s := Eq.trans rfl rfl
@[simp] theorem then_ex {e : String} {s : S} {b : CS} : (Out.ex e s).then b = .ex e s := Eq.trans rfl rfl
@[simp] theorem cSeq_s {a b : CS} {s : S} : cSeq a b s = (a s).then b := by
  unfold cSeq
  generalize a s = o
  cases o <;> rfl
@[simp] theorem cNx_s {s : S} : cNx s = .nx s := Eq.trans rfl rfl
@[simp] theorem cBk_s {s : S} : cBk s = .bk s := Eq.trans rfl rfl
@[simp] theorem cCt_s {s : S} : cCt s = .ct s := Eq.trans rfl rfl
def kExp (_ : Rv) (s1 : S) : Out := .nx s1
@[simp] theorem kExp_s {a : Rv} {s1 : S} : kExp a s1 = .nx s1 := Eq.trans rfl rfl
@[simp] theorem cExp_s {c : CE} {s : S} : cExp c s = (c s).out kExp := Eq.trans rfl rfl
@[simp] theorem cRet_s {c : CE} {s : S} : cRet c s = (c s).out .rt := Eq.trans rfl rfl
@[simp] theorem cRetN_s {s : S} : cRetN s = .rt (.d .none) s := Eq.trans rfl rfl
def kIfS (a b : CS) (x : Bool) (s1 : S) : Out := if x = true then a s1 else b s1
@[simp] theorem kIfS_s {a b : CS} {x : Bool} {s1 : S} : kIfS a b x s1 = if x = true then a s1 else b s1 := Eq.trans rfl rfl
@[simp] theorem cIfS_s {t : CT} {a b : CS} {s : S} : cIfS t a b s = (t s).out (kIfS a b) := Eq.trans rfl rfl
def setR (i : Nat) : Rv → S → Out
  | .d x, s1 => .nx ⟨s1.v.set i (.d x), s1.m⟩
  | .ref n, s1 => .nx ⟨s1.v.set i (.c n), s1.m⟩
  | .t b es, s1 => .nx ⟨s1.v.set i (.t b es), s1.m⟩
  | .new _, _ => .bad
@[simp] theorem setR_t {i : Nat} {b : Bool} {es : List El} {s1 : S} : setR i (.t b es) s1 = .nx ⟨s1.v.set i (.t b es), s1.m⟩ := Eq.trans rfl rfl
@[simp] theorem setR_d {i : Nat} {x : D} {s1 : S} : setR i (.d x) s1 = .nx ⟨s1.v.set i (.d x), s1.m⟩ := Eq.trans rfl rfl
@[simp] theorem setR_ref {i : Nat} {x : Nat} {s1 : S} : setR i (.ref x) s1 = .nx ⟨s1.v.set i (.c x), s1.m⟩ := Eq.trans rfl rfl
@[simp] theorem cSet_s {i : Nat} {c : CE} {s : S} : cSet i c s = (cv c s).out (setR i) := by
  unfold cSet
  congr 1
  funext a s1
  cases a <;> rfl
def setMR (i : Nat) : Rv → S → Out
  | .new .gone, _ => .bad
  | .new (.i _ _ _), _ => .bad
  | .new cell, s1 => .nx ⟨s1.v.set i (.c s1.m.length), s1.m ++ [cell]⟩
  | .ref n, s1 => .nx ⟨s1.v.set i (.c n), s1.m⟩
  | .t b es, s1 => .nx ⟨s1.v.set i (.t b es), s1.m⟩
  | .d _, _ => .bad
@[simp] theorem setMR_t' {i : Nat} {b : Bool} {es : List El} {s1 : S} : setMR i (.t b es) s1 = .nx ⟨s1.v.set i (.t b es), s1.m⟩ := Eq.trans rfl rfl
@[simp] theorem setMR_l {i : Nat} {ds : List D} {s1 : S} : setMR i (.new (.l ds)) s1 = .nx ⟨s1.v.set i (.c s1.m.length), s1.m ++ [.l ds]⟩ := Eq.trans rfl rfl
@[simp] theorem setMR_k {i : Nat} {ds : List (L2.Key × D)} {s1 : S} : setMR i (.new (.k ds)) s1 = .nx ⟨s1.v.set i (.c s1.m.length), s1.m ++ [.k ds]⟩ := Eq.trans rfl rfl
@[simp] theorem setMR_t {i : Nat} {ds : List (List L2.Key × D)} {s1 : S} : setMR i (.new (.t ds)) s1 = .nx ⟨s1.v.set i (.c s1.m.length), s1.m ++ [.t ds]⟩ := Eq.trans rfl rfl
@[simp] theorem setMR_r {i : Nat} {ds : List (List L2.Key)} {s1 : S} : setMR i (.new (.r ds)) s1 = .nx ⟨s1.v.set i (.c s1.m.length), s1.m ++ [.r ds]⟩ := Eq.trans rfl rfl
@[simp] theorem setMR_ref {i : Nat} {n : Nat} {s1 : S} : setMR i (.ref n) s1 = .nx ⟨s1.v.set i (.c n), s1.m⟩ := Eq.trans rfl rfl
@[simp] theorem cSetM_s {i : Nat} {c : CE} {s : S} : cSetM i c s = (c s).out (setMR i) := by
  unfold cSetM
  congr 1
  funext a s1
  cases a with
  | d x => rfl
  | t b es => rfl
  | ref n => rfl
  | new c => cases c <;> rfl
def putR (i o v : Rv) (s3 : S) : Out := match v, o, i with
  | .d v, .ref n, .d k => match s3.m[n]? with
    | some c => match putIn c k v with
      | some c' => .nx ⟨s3.v, s3.m.set n c'⟩
      | none => .bad
    | none => .bad
  | _, _, _ => .bad
def kPut3 (o v i : Rv) (s3 : S) : Out := putR i o v s3
@[simp] theorem kPut3_s {o v i : Rv} {s3 : S} : kPut3 o v i s3 = putR i o v s3 := Eq.trans rfl rfl
def kPut2 (ci : CE) (v o : Rv) (s2 : S) : Out := (cv ci s2).out (kPut3 o v)
@[simp] theorem kPut2_s {ci : CE} {v o : Rv} {s2 : S} : kPut2 ci v o s2 = (cv ci s2).out (kPut3 o v) := Eq.trans rfl rfl
def kPut1 (co ci : CE) (v : Rv) (s1 : S) : Out := (cv co s1).out (kPut2 ci v)
@[simp] theorem kPut1_s {co ci : CE} {v : Rv} {s1 : S} : kPut1 co ci v s1 = (cv co s1).out (kPut2 ci v) := Eq.trans rfl rfl
@[simp] theorem cPut_s {co ci cw : CE} {s : S} : cPut co ci cw s = (cv cw s).out (kPut1 co ci) := Eq.trans rfl rfl
def putK (v : List Sl) (m : List Cell) (n : Nat) : Option Cell → Out
  | some c => .nx ⟨v, m.set n c⟩
  | none => .bad
@[simp] theorem putK_s {v : List Sl} {m : List Cell} {n : Nat} {c : Cell} : putK v m n (some c) = .nx ⟨v, m.set n c⟩ := Eq.trans rfl rfl
@[simp] theorem putR_s {n : Nat} {k v : D} {s3 : S} {c : Cell} (h : s3.m[n]? = some c) : putR (.d k) (.ref n) (.d v) s3 = putK s3.v s3.m n (putIn c k v) := by
  unfold putR
  dsimp only
  rw [h]
  dsimp only
  generalize putIn c k v = o
  cases o <;> rfl
/-! calls -/
@[simp] theorem lNil_s {s : S} : lNil s = .ok [] s := Eq.trans rfl rfl
def kLc (x : Sl) (r : List Sl) (s2 : S) : R (List Sl) := .ok (x :: r) s2
@[simp] theorem kLc_s {x : Sl} {r : List Sl} {s2 : S} : kLc x r s2 = .ok (x :: r) s2 := Eq.trans rfl rfl
def lconsR (cl : CL) : Rv → S → R (List Sl)
  | .d x, s1 => (cl s1).bind (kLc (.d x))
  | .ref n, s1 => (cl s1).bind (kLc (.c n))
  | .t b es, s1 => (cl s1).bind (kLc (.t b es))
  | _, _ => .bad
@[simp] theorem lconsR_t {cl : CL} {b : Bool} {es : List El} {s1 : S} : lconsR cl (.t b es) s1 = (cl s1).bind (kLc (.t b es)) := Eq.trans rfl rfl
@[simp] theorem lconsR_d {cl : CL} {x : D} {s1 : S} : lconsR cl (.d x) s1 = (cl s1).bind (kLc (.d x)) := Eq.trans rfl rfl
@[simp] theorem lconsR_r {cl : CL} {x : Nat} {s1 : S} : lconsR cl (.ref x) s1 = (cl s1).bind (kLc (.c x)) := Eq.trans rfl rfl
@[simp] theorem lCons_s {c : CE} {cl : CL} {s : S} : lCons c cl s = (cv c s).bind (lconsR cl) := by
  unfold lCons
  congr 1
  funext a s1
  cases a <;> rfl
def kCall (f : Fn) (as : List Sl) (s1 : S) : R Rv := (f as s1.m).toR s1.v
@[simp] theorem kCall_s {f : Fn} {as : List Sl} {s1 : S} : kCall f as s1 = (f as s1.m).toR s1.v := Eq.trans rfl rfl
@[simp] theorem cCall_s {f : Fn} {cl : CL} {s : S} : cCall f cl s = (cl s).bind (kCall f) := Eq.trans rfl rfl
@[simp] theorem toR_ok {a : Rv} {m : List Cell} {v : List Sl} : (RF.ok a m).toR v = .ok a ⟨v, m⟩ := Eq.trans rfl rfl
@[simp] theorem toR_ex {a : String} {m : List Cell} {v : List Sl} : (RF.ex a m).toR v = .ex a ⟨v, m⟩ := Eq.trans rfl rfl
def kCallP (f : Fn) (as : List Sl) (s1 : S) : R Rv := if as.all Sl.isD = true then (f as []).pure s1 else .bad
@[simp] theorem kCallP_s {f : Fn} {as : List Sl} {s1 : S} : kCallP f as s1 = if as.all Sl.isD = true then (f as []).pure s1 else .bad := Eq.trans rfl rfl
@[simp] theorem cCallP_s {f : Fn} {cl : CL} {s : S} : cCallP f cl s = (cl s).bind (kCallP f) := Eq.trans rfl rfl
@[simp] theorem isD_d {x : D} : (Sl.d x).isD = true := Eq.trans rfl rfl
@[simp] theorem pure_d {x : D} {m : List Cell} {s : S} : (RF.ok (.d x) m).pure s = .ok (.d x) s := Eq.trans rfl rfl
@[simp] theorem pure_new {x : Cell} {m : List Cell} {s : S} : (RF.ok (.new x) m).pure s = .ok (.new x) s := Eq.trans rfl rfl
@[simp] theorem pure_ex {x : String} {m : List Cell} {s : S} : (RF.ex x m).pure s = .ex x s := Eq.trans rfl rfl
theorem runF_s {n : Nat} {c : CS} {as : List Sl} {m : List Cell} : runF n c as m = fin m (c ⟨as ++ List.replicate (n - as.length) .u, m⟩) := rfl
@[simp] theorem fin_d {m : List Cell} {x : D} {s : S} : fin m (.rt (.d x) s) = .ok (.d x) (s.m.take m.length) := Eq.trans rfl rfl
@[simp] theorem fin_new {m : List Cell} {x : Cell} {s : S} : fin m (.rt (.new x) s) = .ok (.new x) (s.m.take m.length) := Eq.trans rfl rfl
@[simp] theorem fin_ex {m : List Cell} {x : String} {s : S} : fin m (.ex x s) = .ex x (s.m.take m.length) := Eq.trans rfl rfl
@[simp] theorem fin_nx {m : List Cell} {s : S} : fin m (.nx s) = .ok (.d .none) (s.m.take m.length) := Eq.trans rfl rfl
/-! operations -/
section
variable {i j : Int}
@[simp] theorem opAdd_i : opAdd (.d (.int i)) (.d (.int j)) = some (.d (.int (i + j))) := Eq.trans rfl rfl
@[simp] theorem opSub_i : opSub (.d (.int i)) (.d (.int j)) = some (.d (.int (i - j))) := Eq.trans rfl rfl
@[simp] theorem opNeg_i : opNeg (.d (.int i)) = some (.d (.int (-i))) := Eq.trans rfl rfl
@[simp] theorem opAbs_i : opAbs (.d (.int i)) = some (.d (.int (if i < 0 then -i else i))) := Eq.trans rfl rfl
theorem opMul_i (h : mulOk i j = true) : opMulV (.d (.int i)) (.d (.int j)) = some (.d (.int (i * j))) := by
  show (if mulOk i j = true then _ else _) = _
  rw [if_pos h]
theorem opMod_i (h : 0 < j) : opMod (.d (.int i)) (.d (.int j)) = some (.d (.int (i % j))) := by
  show (if j ≠ 0 then some (Rv.d (.int (fmd i j))) else none) = _
  rw [if_pos (by omega)]
  unfold fmd
  rw [if_pos h]
theorem opDiv_i (h : 0 < j) (h2 : j.natAbs.log2 < 9000) : opDiv (.d (.int i)) (.d (.int j)) = some (.d (.int (i / j))) := by
  show (if j ≠ 0 ∧ j.natAbs.log2 < 9000 then some (Rv.d (.int (fdv i j))) else none) = _
  rw [if_pos ⟨by omega, h2⟩]
  unfold fdv
  rw [if_pos h]
theorem opPow_i (h : 0 ≤ j) (h2 : j ≤ 1000000) (h3 : i.natAbs < 2 ^ 64) : opPow (.d (.int i)) (.d (.int j)) = some (.d (.int (i ^ j.toNat))) := by
  show (if 0 ≤ j ∧ j ≤ 1000000 ∧ i.natAbs < 2 ^ 64 then some (Rv.d (.int (i ^ j.toNat))) else none) = _
  rw [if_pos ⟨h, h2, h3⟩]
@[simp] theorem opLt_i : opLt (.d (.int i)) (.d (.int j)) = some (.d (.bool (decide (i < j)))) := Eq.trans rfl rfl
@[simp] theorem opLe_i : opLe (.d (.int i)) (.d (.int j)) = some (.d (.bool (decide (i ≤ j)))) := Eq.trans rfl rfl
@[simp] theorem opGt_i : opGt (.d (.int i)) (.d (.int j)) = some (.d (.bool (decide (j < i)))) := Eq.trans rfl rfl
@[simp] theorem opGe_i : opGe (.d (.int i)) (.d (.int j)) = some (.d (.bool (decide (j ≤ i)))) := Eq.trans rfl rfl
@[simp] theorem opEq_i : opEq (.d (.int i)) (.d (.int j)) = some (.d (.bool (decide (i = j)))) := Eq.trans rfl rfl
@[simp] theorem opNe_i : opNe (.d (.int i)) (.d (.int j)) = some (.d (.bool (!decide (i = j)))) := Eq.trans rfl rfl
@[simp] theorem opLen_l {ds : List D} : opLen (.d (.list ds)) = some (.d (.int ds.length)) := Eq.trans rfl rfl
@[simp] theorem opLen_t {ds : List D} : opLen (.d (.tuple ds)) = some (.d (.int ds.length)) := Eq.trans rfl rfl
end
theorem atI_nat {α : Type} {xs : List α} {i : Int} {x : α} (h0 : 0 ≤ i) (h : xs[i.toNat]? = some x) : atI xs i = some x := by
  have hl : i.toNat < xs.length := (List.getElem?_eq_some_iff.mp h).1
  unfold atI ixN
  rw [if_pos h0, if_pos (by omega)]
  exact h
theorem opIx_l {ds : List D} {i : Int} {x : D} (h : atI ds i = some x) : opIx (.d (.list ds)) (.d (.int i)) = some (.d x) := by
  show (match atI ds i with | some d => some (Rv.d d) | none => none) = _
  rw [h]
theorem opIx_t {ds : List D} {i : Int} {x : D} (h : atI ds i = some x) : opIx (.d (.tuple ds)) (.d (.int i)) = some (.d x) := by
  show (match atI ds i with | some d => some (Rv.d d) | none => none) = _
  rw [h]
theorem log2_lt {n k : Nat} (h : n < 2 ^ k) : n.log2 < k + 1 := by
  by_cases h0 : n = 0
  · subst h0
    show 0 < k + 1
    omega
  · have := (Nat.log2_lt h0).mpr h
    omega
theorem mulOk_small {i j : Int} (hi : i.natAbs < 2 ^ 200) (hj : j.natAbs < 2 ^ 200) : mulOk i j = true := by
  unfold mulOk
  rw [decide_eq_true_eq]
  have h1 := log2_lt hi
  have h2 := log2_lt hj
  omega
theorem log2_many {j : Int} (h0 : 0 < j) (h : j < 2 ^ 200) : j.natAbs.log2 < 9000 := by
  have := log2_lt (n := j.natAbs) (k := 200) (by omega)
  omega
theorem opDiv_s {i j : Int} (h : 0 < j) (h2 : j < 18446744073709551616) : opDiv (.d (.int i)) (.d (.int j)) = some (.d (.int (i / j))) := opDiv_i h (log2_many h (by omega))
/-! loops -/
def Out.loop (o : Out) (k : S → Out) : Out := match o with
  | .nx s => k s
  | .ct s => k s
  | .bk s => .nx s
  | o => o
@[simp] theorem loop_nx {s : S} {k : S → Out} : (Out.nx s).loop k = k s := Eq.trans rfl rfl
@[simp] theorem loop_ct {s : S} {k : S → Out} : (Out.ct s).loop k = k s := Eq.trans rfl rfl
@[simp] theorem loop_bk {s : S} {k : S → Out} : (Out.bk s).loop k = .nx s := Eq.trans rfl rfl
@[simp] theorem loop_rt {a : Rv} {s : S} {k : S → Out} : (Out.rt a s).loop k = .rt a s := Eq.trans rfl rfl
@[simp] theorem forL_nil {tg : Tg} {body : CS} {s : S} : forL tg body [] s = .nx s := Eq.trans rfl rfl
theorem forL_cons {tg : Tg} {body : CS} {d : D} {ds : List D} {s s1 : S} (h : tg d s = some s1) : forL tg body (d :: ds) s = (body s1).loop (forL tg body ds) := by
  show (match tg d s with | none => Out.bad | some s1 => (match body s1 with
      | .nx s2 => forL tg body ds s2
      | .ct s2 => forL tg body ds s2
      | .bk s2 => .nx s2
      | o => o)) = _
  rw [h]
  dsimp only
  generalize body s1 = o
  cases o <;> rfl
theorem forL_from {tg : Tg} {body : CS} (I : Nat → S → Prop) : ∀ (ds : List D) (k : Nat) (s : S), (∀ i s d, ds[i]? = some d → I (k + i) s → ∃ s1 s2, tg d s = some s1 ∧ (body s1 = .nx s2 ∨ body s1 = .ct s2) ∧ I (k + i + 1) s2) → I k s → ∃ s', forL tg body ds s = .nx s' ∧ I (k + ds.length) s'
  | [], k, s, _, h0 => ⟨s, rfl, h0⟩
  | d :: ds, k, s, h, h0 => by
    obtain ⟨s1, s2, e1, e2, h1⟩ := h 0 s d rfl h0
    have r : forL tg body (d :: ds) s = forL tg body ds s2 := by
      rw [forL_cons e1]
      rcases e2 with e2 | e2 <;> rw [e2] <;> rfl
    rw [r]
    obtain ⟨s', e, h2⟩ := forL_from I ds (k + 1) s2 (fun i s d hd hi => by
      have := h (i + 1) s d (by simpa using hd) (by rw [show k + (i + 1) = k + 1 + i by omega]; exact hi)
      rw [show k + (i + 1) + 1 = k + 1 + i + 1 by omega] at this
      exact this) h1
    refine ⟨s', e, ?_⟩
    rw [List.length_cons, show k + (ds.length + 1) = k + 1 + ds.length by omega]
    exact h2
/-- a for loop that keeps I -/
theorem forL_inv {tg : Tg} {body : CS} (I : Nat → S → Prop) {ds : List D} {s : S} (h0 : I 0 s) (h : ∀ i s d, ds[i]? = some d → I i s → ∃ s1 s2, tg d s = some s1 ∧ (body s1 = .nx s2 ∨ body s1 = .ct s2) ∧ I (i + 1) s2) : ∃ s', forL tg body ds s = .nx s' ∧ I ds.length s' := by
  obtain ⟨s', e, h1⟩ := forL_from I ds 0 s (fun i s d hd hi => by
    rw [Nat.zero_add] at hi ⊢
    exact h i s d hd hi) h0
  rw [Nat.zero_add] at h1
  exact ⟨s', e, h1⟩
theorem rangeD_at : ∀ (n : Nat) (lo : Int) (i : Nat), i < n → (rangeD lo n)[i]? = some (.int (lo + i))
  | 0, _, _, h => by omega
  | n + 1, lo, 0, _ => by
    show some (PyData.int lo) = _
    rw [show lo + ((0 : Nat) : Int) = lo by omega]
  | n + 1, lo, i + 1, h => by
    show (rangeD (lo + 1) n)[i]? = _
    rw [rangeD_at n (lo + 1) i (by omega), show lo + 1 + (i : Int) = lo + ((i + 1 : Nat) : Int) by omega]
theorem rangeD_lt {n : Nat} {lo : Int} {i : Nat} {d : D} (h : (rangeD lo n)[i]? = some d) : i < n ∧ d = .int (lo + i) := by
  have hl : i < (rangeD lo n).length := (List.getElem?_eq_some_iff.mp h).1
  rw [rangeD_len] at hl
  refine ⟨hl, ?_⟩
  rw [rangeD_at n lo i hl] at h
  cases h
  rfl
@[simp] theorem cFor_s {ci : CI} {tg : Tg} {body : CS} {s : S} : cFor ci tg body s = (ci s).out fun ds s1 => forL tg body ds s1 := Eq.trans rfl rfl
theorem ciR1_s {c : CE} {s s1 : S} {n : Int} (h : c s = .ok (.d (.int n)) s1) (hn : -4611686018427387904 ≤ n) (hn2 : n < 4611686018427387904) : ciR1 c s = .ok (rangeD 0 n.toNat) s1 := by
  unfold ciR1
  rw [cv_s, h, bind_ok, frz_d, bind_ok]
  dsimp only
  rw [if_pos (by unfold small62; simp; omega)]
def seqR : Rv → S → R (List D)
  | .d (.list ds), s1 => .ok ds s1
  | .d (.tuple ds), s1 => .ok ds s1
  | _, _ => .bad
@[simp] theorem seqR_l {ds : List D} {s : S} : seqR (.d (.list ds)) s = .ok ds s := Eq.trans rfl rfl
@[simp] theorem seqR_t {ds : List D} {s : S} : seqR (.d (.tuple ds)) s = .ok ds s := Eq.trans rfl rfl
@[simp] theorem ciSeq_s {c : CE} {s : S} : ciSeq c s = (cv c s).bind seqR := by
  unfold ciSeq
  congr 1
  funext a s1
  rcases a with (_ | _ | _ | _ | _ | _ | _) | _ | _ <;> rfl
@[simp] theorem tgN_s {i : Nat} {d : D} {s : S} : tgN i d s = some ⟨s.v.set i (.d d), s.m⟩ := Eq.trans rfl rfl
/-! checks that the kernel runs -/
def isT : RF → Bool
  | .ok (.d (.bool b)) _ => b
  | _ => false
end Vm
namespace Vm
open PySem L2
/-! ### the pen that is a dict -/
def penC (cells : List Int) (at' left : Int) : Cell := .k [(.inr "cells", .list (cells.map PyData.int)), (.inr "at", .int at'), (.inr "left", .int left)]
section
variable {cells : List Int} {at' left v : Int}
@[simp] theorem odC_pen : odC (some (penC cells at' left)) = some (.c (penC cells at' left)) := rfl
@[simp] theorem pen_cells : opItem (.c (penC cells at' left)) (.d (.str "cells")) = some (.d (.list (cells.map PyData.int))) := by
  simp [opItem, penC, look, keyOf, getD]
@[simp] theorem pen_at : opItem (.c (penC cells at' left)) (.d (.str "at")) = some (.d (.int at')) := by
  have h : ((Sum.inr ("cells" : Str) : L2.Key) = Sum.inr ("at" : Str)) = False := eq_false (by decide)
  simp [opItem, penC, look, keyOf, getD, List.find?, h]
@[simp] theorem pen_left : opItem (.c (penC cells at' left)) (.d (.str "left")) = some (.d (.int left)) := by
  have h : ((Sum.inr ("cells" : Str) : L2.Key) = Sum.inr ("left" : Str)) = False := eq_false (by decide)
  have h2 : ((Sum.inr ("at" : Str) : L2.Key) = Sum.inr ("left" : Str)) = False := eq_false (by decide)
  simp [opItem, penC, look, keyOf, getD, List.find?, h, h2]
@[simp] theorem pen_put_at : putIn (penC cells at' left) (.str "at") (.int v) = some (penC cells v left) := by
  have h : ((Sum.inr ("cells" : Str) : L2.Key) = Sum.inr ("at" : Str)) = False := eq_false (by decide)
  have h2 : ((Sum.inr ("left" : Str) : L2.Key) = Sum.inr ("at" : Str)) = False := eq_false (by decide)
  simp [penC, putIn, keyOf, putD, h, h2]
@[simp] theorem pen_put_left : putIn (penC cells at' left) (.str "left") (.int v) = some (penC cells at' v) := by
  have h : ((Sum.inr ("cells" : Str) : L2.Key) = Sum.inr ("left" : Str)) = False := eq_false (by decide)
  have h2 : ((Sum.inr ("at" : Str) : L2.Key) = Sum.inr ("left" : Str)) = False := eq_false (by decide)
  simp [penC, putIn, keyOf, putD, h, h2]
end
structure IsPen (B : Nat) (p : Cell) : Prop where
  ex : ∃ cells at' left, p = penC cells at' left ∧ cells.length ≤ 63 ∧ 0 ≤ at' ∧ at' ≤ B ∧ 0 ≤ left
theorem IsPen.mono {B C : Nat} {p : Cell} (h : IsPen B p) (hb : B ≤ C) : IsPen C p := by
  obtain ⟨a, b, c, h1, h2, h3, h4, h5⟩ := h.ex
  exact ⟨a, b, c, h1, h2, h3, by omega, h5⟩
/-- a draw from many -/
def IsDraw (f : Fn) (P : Nat → Cell → Prop) : Prop := ∀ (B : Nat) (p : Cell) (r : List Cell) (many : Int), P B p → B < 1000000 → 0 < many → many.natAbs.log2 < 9000 → ∃ v p', f [.c 0, .d (.int many)] (p :: r) = .ok (.d (.int v)) (p' :: r) ∧ 0 ≤ v ∧ v < many ∧ P (B + 1) p'
end Vm
namespace Vm
open PySem L2
/-! ### more runs step by step -/
/-- the cell of a list -/
def mutR (f : List D → List D → Option (D × List D)) (ca : CA) : Rv → S → R Rv
  | .ref n, s1 => match s1.m[n]? with
    | some (.l _) => (ca s1).bind fun ds s2 => match s2.m[n]? with
      | some (.l xs) => match f xs ds with
        | some (d, ys) => .ok (.d d) ⟨s2.v, s2.m.set n (.l ys)⟩
        | none => .bad
      | _ => .bad
    | _ => .bad
  | _, _ => .bad
@[simp] theorem cMut_s {f : List D → List D → Option (D × List D)} {co : CE} {ca : CA} {s : S} : cMut f co ca s = (cv co s).bind (mutR f ca) := by
  unfold cMut
  congr 1
  funext a s1
  cases a <;> rfl
def mutK (v : List Sl) (m : List Cell) (n : Nat) : Option (D × List D) → R Rv
  | some (d, ys) => .ok (.d d) ⟨v, m.set n (.l ys)⟩
  | none => .bad
@[simp] theorem mutK_s {v : List Sl} {m : List Cell} {n : Nat} {d : D} {ys : List D} : mutK v m n (some (d, ys)) = .ok (.d d) ⟨v, m.set n (.l ys)⟩ := Eq.trans rfl rfl
def mutA (f : List D → List D → Option (D × List D)) (n : Nat) (ds : List D) (s2 : S) : R Rv := match s2.m[n]? with
  | some (.l xs) => mutK s2.v s2.m n (f xs ds)
  | _ => .bad
@[simp] theorem mutA_s {f : List D → List D → Option (D × List D)} {n : Nat} {ds xs : List D} {s2 : S} (h : s2.m[n]? = some (.l xs)) : mutA f n ds s2 = mutK s2.v s2.m n (f xs ds) := by
  unfold mutA
  rw [h]
@[simp] theorem mutR_s {f : List D → List D → Option (D × List D)} {ca : CA} {n : Nat} {s1 : S} {xs : List D} (h : s1.m[n]? = some (.l xs)) : mutR f ca (.ref n) s1 = (ca s1).bind (mutA f n) := by
  unfold mutR
  dsimp only
  rw [h]
  dsimp only
  congr 1
@[simp] theorem fRev_s {xs : List D} : fRev xs [] = some (.none, xs.reverse) := Eq.trans rfl rfl
@[simp] theorem fClr_s {xs : List D} : fClr xs [] = some (.none, []) := Eq.trans rfl rfl
theorem fApp_s {xs : List D} {d : D} (h : xs.length < 16000000) : fApp xs [d] = some (.none, xs ++ [d]) := by
  show (if xs.length < 16000000 then _ else _) = _
  rw [if_pos h]
/-- xs[i] = e -/
def putLR (i o v : Rv) (s3 : S) : Out := match v, o, i with
  | .d v, .ref n, .d (.int k) => match s3.m[n]? with
    | some (.l xs) => match ixN xs.length k with
      | some j => .nx ⟨s3.v, s3.m.set n (.l (xs.set j v))⟩
      | none => .bad
    | _ => .bad
  | _, _, _ => .bad
def kPutL3 (o v i : Rv) (s3 : S) : Out := putLR i o v s3
@[simp] theorem kPutL3_s {o v i : Rv} {s3 : S} : kPutL3 o v i s3 = putLR i o v s3 := Eq.trans rfl rfl
def kPutL2 (ci : CE) (v o : Rv) (s2 : S) : Out := (cv ci s2).out (kPutL3 o v)
@[simp] theorem kPutL2_s {ci : CE} {v o : Rv} {s2 : S} : kPutL2 ci v o s2 = (cv ci s2).out (kPutL3 o v) := Eq.trans rfl rfl
def kPutL1 (co ci : CE) (v : Rv) (s1 : S) : Out := (cv co s1).out (kPutL2 ci v)
@[simp] theorem kPutL1_s {co ci : CE} {v : Rv} {s1 : S} : kPutL1 co ci v s1 = (cv co s1).out (kPutL2 ci v) := Eq.trans rfl rfl
@[simp] theorem cPutL_s {co ci cw : CE} {s : S} : cPutL co ci cw s = (cv cw s).out (kPutL1 co ci) := Eq.trans rfl rfl
theorem putLR_s {n : Nat} {k : Int} {v : D} {s3 : S} {xs : List D} (h : s3.m[n]? = some (.l xs)) (h0 : 0 ≤ k) (h1 : k < xs.length) : putLR (.d (.int k)) (.ref n) (.d v) s3 = .nx ⟨s3.v, s3.m.set n (.l (xs.set k.toNat v))⟩ := by
  unfold putLR
  dsimp only
  rw [h]
  dsimp only
  unfold ixN
  rw [if_pos h0, if_pos (by omega)]
/-! slices -/
@[simp] theorem cPt_n {s : S} : cPt none s = .ok none s := Eq.trans rfl rfl
def intR : Rv → S → R Int
  | .d (.int i), s => .ok i s
  | _, _ => .bad
@[simp] theorem intR_i {i : Int} {s : S} : intR (.d (.int i)) s = .ok i s := Eq.trans rfl rfl
@[simp] theorem cI_s {c : CE} {s : S} : cI c s = (cv c s).bind intR := by
  unfold cI
  congr 1
  funext a s1
  rcases a with (_ | _ | _ | _ | _ | _ | _) | _ | _ <;> rfl
def kPt (i : Int) (s1 : S) : R (Option Int) := .ok (some i) s1
@[simp] theorem kPt_s {i : Int} {s1 : S} : kPt i s1 = .ok (some i) s1 := Eq.trans rfl rfl
@[simp] theorem cPt_s {c : CE} {s : S} : cPt (some c) s = (cI c s).bind kPt := Eq.trans rfl rfl
def kSl3 (a : Rv) (l u : Option Int) (s3 : S) : R Rv := odK1 (fun o => opSl o l u) (a.od s3.m) s3
@[simp] theorem kSl3_s {a : Rv} {l u : Option Int} {s3 : S} : kSl3 a l u s3 = odK1 (fun o => opSl o l u) (a.od s3.m) s3 := Eq.trans rfl rfl
def kSl2 (hi : S → R (Option Int)) (a : Rv) (l : Option Int) (s2 : S) : R Rv := (hi s2).bind (kSl3 a l)
@[simp] theorem kSl2_s {hi : S → R (Option Int)} {a : Rv} {l : Option Int} {s2 : S} : kSl2 hi a l s2 = (hi s2).bind (kSl3 a l) := Eq.trans rfl rfl
def kSl1 (lo hi : S → R (Option Int)) (a : Rv) (s1 : S) : R Rv := (lo s1).bind (kSl2 hi a)
@[simp] theorem kSl1_s {lo hi : S → R (Option Int)} {a : Rv} {s1 : S} : kSl1 lo hi a s1 = (lo s1).bind (kSl2 hi a) := Eq.trans rfl rfl
@[simp] theorem cSl_s {c : CE} {lo hi : S → R (Option Int)} {s : S} : cSl c lo hi s = (cv c s).bind (kSl1 lo hi) := by
  unfold cSl
  congr 1
  funext a s1
  rw [kSl1_s]
  congr 1
  funext l s2
  rw [kSl2_s]
  congr 1
  funext u s3
  rw [kSl3_s]
  cases a.od s3.m with
  | none => rfl
  | some o => exact opt_rv
@[simp] theorem opSl_l {ds : List D} {lo hi : Option Int} : opSl (.d (.list ds)) lo hi = some (.new (.l (cutD ds lo hi))) := Eq.trans rfl rfl
@[simp] theorem opSl_t {ds : List D} {lo hi : Option Int} : opSl (.d (.tuple ds)) lo hi = some (.d (.tuple (cutD ds lo hi))) := Eq.trans rfl rfl
theorem cutD_to {α : Type} {xs : List α} {k : Int} (h : 0 ≤ k) : cutD xs none (some k) = xs.take k.toNat := by
  unfold cutD HT.sIx
  dsimp only
  rw [if_neg (by omega), List.drop_zero, Nat.sub_zero]
  by_cases hl : k.toNat ≤ xs.length
  · rw [Nat.min_eq_left hl]
  · rw [Nat.min_eq_right (by omega), List.take_length, List.take_of_length_le (by omega)]
theorem cutD_from {α : Type} {xs : List α} {k : Int} (h : 0 ≤ k) : cutD xs (some k) none = xs.drop k.toNat := by
  unfold cutD HT.sIx
  dsimp only
  rw [if_neg (by omega)]
  by_cases hl : k.toNat ≤ xs.length
  · rw [Nat.min_eq_left hl, List.take_of_length_le (by rw [List.length_drop]; omega)]
  · rw [Nat.min_eq_right (by omega), List.drop_length, List.drop_of_length_le (by omega), List.take_nil]
/-! dicts -/
def kDisp (ks : List L2.Key) (ds : List D) (s1 : S) : R Rv := .ok (.new (.k (mergeD [] ks ds))) s1
@[simp] theorem kDisp_s {ks : List L2.Key} {ds : List D} {s1 : S} : kDisp ks ds s1 = .ok (.new (.k (mergeD [] ks ds))) s1 := Eq.trans rfl rfl
@[simp] theorem cDisp_s {ks : List L2.Key} {ca : CA} {s : S} : cDisp ks ca s = (ca s).bind (kDisp ks) := Eq.trans rfl rfl
@[simp] theorem setMR_pen {i : Nat} {a : List Int} {b c : Int} {s1 : S} : setMR i (.new (penC a b c)) s1 = .nx ⟨s1.v.set i (.c s1.m.length), s1.m ++ [penC a b c]⟩ := Eq.trans rfl rfl
@[simp] theorem pure_pen {a : List Int} {b c : Int} {m : List Cell} {s : S} : (RF.ok (.new (penC a b c)) m).pure s = .ok (.new (penC a b c)) s := Eq.trans rfl rfl
/-! comprehensions -/
/-- a comprehension that changes the cells: I k acc m -/
theorem lcL_inv {own : List Nat} {v0 : List Sl} {tg : Tg} {tt : CT} {el : CE} (I : Nat → List D → List Cell → Prop) : ∀ (ds : List D) (k : Nat) (acc : List D) (m : List Cell), (∀ i acc m d, ds[i]? = some d → I (k + i) acc m → ∃ t, tg d ⟨wipeV v0 own, m⟩ = some t ∧ ∃ b t2, tt t = .ok b t2 ∧ (b = false → I (k + i + 1) acc t2.m) ∧ (b = true → ∃ x s3, cv el t2 = .ok (.d x) s3 ∧ I (k + i + 1) (acc ++ [x]) s3.m)) →
    I k acc m → ∃ acc' m', lcL own v0 tg tt el ds acc m = .ok (.new (.l acc')) ⟨v0, m'⟩ ∧ I (k + ds.length) acc' m'
  | [], k, acc, m, _, h0 => ⟨acc, m, rfl, h0⟩
  | d :: ds, k, acc, m, h, h0 => by
    obtain ⟨t, h1, b, t2, h2, h3, h4⟩ := h 0 acc m d rfl h0
    have go : ∀ acc2 m2, I (k + 1) acc2 m2 → ∃ acc' m', lcL own v0 tg tt el ds acc2 m2 = .ok (.new (.l acc')) ⟨v0, m'⟩ ∧ I (k + (ds.length + 1)) acc' m' := fun acc2 m2 hi => by
      obtain ⟨a, b, e, q⟩ := lcL_inv I ds (k + 1) acc2 m2 (fun i acc m d hd hi => by
        have := h (i + 1) acc m d (by simpa using hd) (by rw [show k + (i + 1) = k + 1 + i by omega]; exact hi)
        rw [show k + (i + 1) + 1 = k + 1 + i + 1 by omega] at this
        exact this) hi
      exact ⟨a, b, e, by rw [show k + (ds.length + 1) = k + 1 + ds.length by omega]; exact q⟩
    unfold lcL
    rw [h1]
    dsimp only
    rw [h2]
    cases b with
    | false =>
      obtain ⟨a, b, e, q⟩ := go acc t2.m (h3 rfl)
      exact ⟨a, b, e, q⟩
    | true =>
      obtain ⟨x, s3, h5, h6⟩ := h4 rfl
      obtain ⟨a, b, e, q⟩ := go (acc ++ [x]) s3.m h6
      refine ⟨a, b, ?_, q⟩
      show ((cv el t2).nx.bind _) = _
      rw [h5]
      exact e
theorem lc_inv {own : List Nat} {ci : CI} {tg : Tg} {tt : CT} {el : CE} {s s1 : S} {ds : List D} (I : Nat → List D → List Cell → Prop) (h : ci s = .ok ds s1) (hl : ds.length ≤ 16000000) (h0 : I 0 [] s1.m)
    (hb : ∀ i acc m d, ds[i]? = some d → I i acc m → ∃ t, tg d ⟨wipeV s1.v own, m⟩ = some t ∧ ∃ b t2, tt t = .ok b t2 ∧ (b = false → I (i + 1) acc t2.m) ∧ (b = true → ∃ x s3, cv el t2 = .ok (.d x) s3 ∧ I (i + 1) (acc ++ [x]) s3.m)) :
    ∃ acc' m', cLc own ci tg tt el s = .ok (.new (.l acc')) ⟨s1.v, m'⟩ ∧ I ds.length acc' m' := by
  obtain ⟨a, b, e, q⟩ := lcL_inv (own := own) (v0 := s1.v) (tg := tg) (tt := tt) (el := el) I ds 0 [] s1.m (fun i acc m d hd hi => by
    rw [Nat.zero_add] at hi ⊢
    exact hb i acc m d hd hi) h0
  rw [Nat.zero_add] at q
  refine ⟨a, b, ?_, q⟩
  unfold cLc
  rw [h, bind_ok, if_pos hl]
  exact e
@[simp] theorem ctYes_s {s : S} : ctYes s = .ok true s := Eq.trans rfl rfl
/-! two names at once -/
def parR (i j : Nat) (x y : Rv) (s2 : S) : Out := match slOf x, slOf y with
  | some p, some q => .nx ⟨(s2.v.set i p).set j q, s2.m⟩
  | _, _ => .bad
@[simp] theorem parR_d {i j : Nat} {x y : D} {s : S} : parR i j (.d x) (.d y) s = .nx ⟨(s.v.set i (.d x)).set j (.d y), s.m⟩ := Eq.trans rfl rfl
def kPar (i j : Nat) (b : CE) (x : Rv) (s1 : S) : Out := (cv b s1).out (parR i j x)
@[simp] theorem kPar_s {i j : Nat} {b : CE} {x : Rv} {s1 : S} : kPar i j b x s1 = (cv b s1).out (parR i j x) := Eq.trans rfl rfl
@[simp] theorem cPar_s {i j : Nat} {a b : CE} {s : S} : cPar i j a b s = (cv a s).out (kPar i j b) := Eq.trans rfl rfl
theorem ciR1_c {n : Int} {s : S} (hn : -4611686018427387904 ≤ n) (hn2 : n < 4611686018427387904) : ciR1 (cC (.int n)) s = .ok (rangeD 0 n.toNat) s := ciR1_s rfl hn hn2
/-! while -/
theorem whL_s {t : CT} {b : CS} {n : Nat} {s : S} : whL t b (n + 1) s = (t s).out fun x s1 => if x = true then (b s1).loop (whL t b n) else .nx s1 := by
  show (t s).out _ = _
  congr 1
/-- a while loop: the variant falls, the invariant stays -/
theorem whL_inv {t : CT} {b : CS} (I : Nat → S → Prop) (Q : S → Prop) (h : ∀ k s, I k s → (∃ s1, t s = .ok false s1 ∧ Q s1) ∨ ∃ s1 s2 j, t s = .ok true s1 ∧ (b s1 = .nx s2 ∨ b s1 = .ct s2) ∧ j < k ∧ I j s2) : ∀ (n k : Nat) (s : S), k < n → I k s → ∃ s', whL t b n s = .nx s' ∧ Q s'
  | 0, k, s, hn, _ => by omega
  | n + 1, k, s, hn, hi => by
    rw [whL_s]
    rcases h k s hi with ⟨s1, e, q⟩ | ⟨s1, s2, j, e, e2, hj, q⟩
    · refine ⟨s1, ?_, q⟩
      rw [e]
      rfl
    · rw [e]
      obtain ⟨s', e3, q'⟩ := whL_inv I Q h n j s2 (by omega) q
      refine ⟨s', ?_, q'⟩
      rcases e2 with e2 | e2 <;> (show ((b s1).loop _) = _; rw [e2]; exact e3)
end Vm
namespace Vm
open PySem L2 PySem.Spec PyProof.Rows
/-! ### repr -/
def okr (d : D) : Bool := okd d && d.showable && decide (d.shown.length ≤ 16000000)
theorem plain_noDict : (∀ d : D, d.plain = true → d.hasDict = false) ∧ (∀ p : D × D, True) ∧ (∀ ds : List D, PyData.plainAll ds = true → PyData.hasDictAll ds = false) ∧ (∀ kvs : List (D × D), True) := by
  refine ⟨?_, fun _ => trivial, ?_, fun _ => trivial⟩
  · exact noD
  · exact noDs
where
  noD : ∀ d : D, d.plain = true → d.hasDict = false
    | .none, _ => rfl
    | .bool _, _ => rfl
    | .int _, _ => rfl
    | .str _, _ => rfl
    | .list xs, h => by
      simp only [PyData.hasDict]
      exact noDs xs (by simpa [PyData.plain] using h)
    | .tuple xs, h => by
      simp only [PyData.hasDict]
      exact noDs xs (by simpa [PyData.plain] using h)
    | .dict _, h => nomatch h
  noDs : ∀ ds : List D, PyData.plainAll ds = true → PyData.hasDictAll ds = false
    | [], _ => rfl
    | x :: xs, h => by
      have h2 : x.plain = true ∧ PyData.plainAll xs = true := by simpa [PyData.plainAll] using h
      simp only [PyData.hasDictAll, noD x h2.1, noDs xs h2.2, Bool.or_self]
mutual
def noLs : D → Bool
  | .none | .bool _ | .int _ | .str _ => true
  | .list _ => false
  | .tuple xs => noLsAll xs
  | .dict es => noLsKv es
def noLsAll : List D → Bool
  | [] => true
  | x :: xs => noLs x && noLsAll xs
def noLsKv : List (D × D) → Bool
  | [] => true
  | (k, v) :: r => noLs k && noLs v && noLsKv r
end
def okrN (d : D) : Bool := noLs d && decide (d.depth ≤ 60) && d.showable && decide (d.shown.length ≤ 16000000)
theorem okr_iff {d : D} (h : okr d = true) : d.plain = true ∧ d.depth ≤ 60 ∧ d.showable = true ∧ d.shown.length ≤ sizeLine := by
  unfold okr at h
  rw [Bool.and_eq_true, Bool.and_eq_true, decide_eq_true_eq] at h
  obtain ⟨a, b⟩ := okd_iff.mp h.1.1
  exact ⟨a, b, h.1.2, sz16 h.2⟩
def opRepr : Od → Option Rv
  | .d d => if okr d = true ∨ okrN d = true then some (.d (.str d.shown)) else none
  | _ => none
/-! ### in, not in, of a list, a tuple -/
def inB (d : D) (xs : List D) : Option Bool := if okd d = true ∧ okd (.list xs) = true then some (xs.any fun y => PyData.eqv y d) else none
/-! ### max, min of a list, a tuple of ints -/
def maxI : List Int → Option Int
  | [] => none
  | n :: ns => some (ns.foldl max n)
def minI : List Int → Option Int
  | [] => none
  | n :: ns => some (ns.foldl min n)
def opBest (f : List Int → Option Int) : Od → Option Rv
  | .d (.list ds) => (ints? ds).bind fun ns => (f ns).bind fun m => some (.d (.int m))
  | .d (.tuple ds) => (ints? ds).bind fun ns => (f ns).bind fun m => some (.d (.int m))
  | _ => none
def opMax : Od → Option Rv := opBest maxI
def opMin : Od → Option Rv := opBest minI
/-! ### sorted(xs, reverse=True), ints -/
def insD (i : Int) : List Int → List Int
  | [] => [i]
  | j :: js => if j ≤ i then i :: j :: js else j :: insD i js
def sortD : List Int → List Int
  | [] => []
  | i :: is => insD i (sortD is)
theorem insD_perm (i : Int) : ∀ js : List Int, (insD i js).Perm (i :: js)
  | [] => .refl _
  | j :: js => by
    unfold insD
    split
    · exact .refl _
    · exact (List.Perm.cons j (insD_perm i js)).trans (List.Perm.swap i j js)
theorem sortD_perm : ∀ js : List Int, (sortD js).Perm js
  | [] => .refl _
  | j :: js => (insD_perm j _).trans (List.Perm.cons j (sortD_perm js))
theorem insD_pw (i : Int) : ∀ js : List Int, js.Pairwise (· ≥ ·) → (insD i js).Pairwise (· ≥ ·)
  | [], _ => by
    show [i].Pairwise _
    simp
  | j :: js, h => by
    have h2 := List.pairwise_cons.mp h
    unfold insD
    split
    · refine List.pairwise_cons.mpr ⟨fun k hk => ?_, h⟩
      rcases List.mem_cons.mp hk with rfl | hk
      · assumption
      · have := h2.1 k hk
        show k ≤ i
        have : k ≤ j := this
        omega
    · refine List.pairwise_cons.mpr ⟨fun k hk => ?_, insD_pw i js h2.2⟩
      have := (insD_perm i js).mem_iff.mp hk
      rcases List.mem_cons.mp this with rfl | hk
      · show k ≤ j
        omega
      · exact h2.1 k hk
theorem sortD_pw : ∀ js : List Int, (sortD js).Pairwise (· ≥ ·)
  | [] => List.Pairwise.nil
  | j :: js => insD_pw j _ (sortD_pw js)
def opSortedR : Od → Option Rv
  | .d (.list ds) => (ints? ds).bind fun ns => some (.new (.l ((sortD ns).map PyData.int)))
  | _ => none
end Vm
namespace Vm
open PySem L2
/-! ### the second draw -/
/-! ### lists and tuples of ints -/
theorem plain_ints : ∀ ns : List Int, PyData.plainAll (ns.map PyData.int) = true
  | [] => rfl
  | n :: ns => by
    show PyData.plainAll (.int n :: ns.map PyData.int) = true
    rw [PyData.plainAll, plain_ints ns]
    rfl
theorem okd_intsT (ns : List Int) : okd (.tuple (ns.map PyData.int)) = true := by
  unfold okd
  rw [Bool.and_eq_true, decide_eq_true_eq]
  refine ⟨by rw [PyData.plain]; exact plain_ints ns, ?_⟩
  show PyData.depthAll (ns.map PyData.int) + 1 ≤ 60
  rw [PySem.W.depth_ints]
  omega
theorem eqv_ints : ∀ as bs : List Int, PyData.eqvAll (as.map PyData.int) (bs.map PyData.int) = decide (as = bs)
  | [], [] => rfl
  | [], b :: bs => rfl
  | a :: as, [] => rfl
  | a :: as, b :: bs => by
    show PyData.eqvAll (.int a :: as.map PyData.int) (.int b :: bs.map PyData.int) = _
    rw [PyData.eqvAll, eqv_ints as bs]
    show ((a == b) && decide (as = bs)) = _
    by_cases h : a = b
    · subst h
      by_cases h2 : as = bs
      · simp [h2]
      · simp [h2]
    · simp [h]
theorem opNe_intsT {as bs : List Int} : opNe (.d (.tuple (as.map PyData.int))) (.d (.tuple (bs.map PyData.int))) = some (.d (.bool (!decide (as = bs)))) := by
  unfold opNe eqB
  dsimp only
  rw [if_pos ⟨okd_intsT as, okd_intsT bs⟩, show PyData.eqv (.tuple (as.map PyData.int)) (.tuple (bs.map PyData.int)) = _ from by rw [PyData.eqv], eqv_ints]
theorem opEq_intsT {as bs : List Int} : opEq (.d (.tuple (as.map PyData.int))) (.d (.tuple (bs.map PyData.int))) = some (.d (.bool (decide (as = bs)))) := by
  unfold opEq eqB
  dsimp only
  rw [if_pos ⟨okd_intsT as, okd_intsT bs⟩, show PyData.eqv (.tuple (as.map PyData.int)) (.tuple (bs.map PyData.int)) = _ from by rw [PyData.eqv], eqv_ints]
def rangeI (lo : Int) : Nat → List Int
  | 0 => []
  | n + 1 => lo :: rangeI (lo + 1) n
theorem rangeD_eq : ∀ (n : Nat) (lo : Int), rangeD lo n = (rangeI lo n).map PyData.int
  | 0, lo => rfl
  | n + 1, lo => congrArg (PyData.int lo :: ·) (rangeD_eq n (lo + 1))
theorem opAdd_l {xs ys : List D} (h : xs.length + ys.length ≤ 16000000) : opAdd (.d (.list xs)) (.d (.list ys)) = some (.new (.l (xs ++ ys))) := by
  show (if xs.length + ys.length ≤ 16000000 then _ else _) = _
  rw [if_pos h]
@[simp] theorem opSum_il {ns : List Int} : opSum (.d (.list (ns.map PyData.int))) = some (.d (.int ns.sum)) := by
  unfold opSum
  dsimp only
  rw [ints?_map]
@[simp] theorem opSum_it {ns : List Int} : opSum (.d (.tuple (ns.map PyData.int))) = some (.d (.int ns.sum)) := by
  unfold opSum
  dsimp only
  rw [ints?_map]
@[simp] theorem opTuple_l {ds : List D} : opTuple (.d (.list ds)) = some (.d (.tuple ds)) := Eq.trans rfl rfl
@[simp] theorem opTuple_t {ds : List D} : opTuple (.d (.tuple ds)) = some (.d (.tuple ds)) := Eq.trans rfl rfl
@[simp] theorem opList_l {ds : List D} : opList (.d (.list ds)) = some (.new (.l ds)) := Eq.trans rfl rfl
@[simp] theorem opList_t {ds : List D} : opList (.d (.tuple ds)) = some (.new (.l ds)) := Eq.trans rfl rfl
@[simp] theorem opMax_l {ns : List Int} : opMax (.d (.list (ns.map PyData.int))) = (maxI ns).bind fun m => some (.d (.int m)) := by
  unfold opMax opBest
  dsimp only
  rw [ints?_map]
  rfl
@[simp] theorem opMax_t {ns : List Int} : opMax (.d (.tuple (ns.map PyData.int))) = (maxI ns).bind fun m => some (.d (.int m)) := by
  unfold opMax opBest
  dsimp only
  rw [ints?_map]
  rfl
@[simp] theorem opMin_l {ns : List Int} : opMin (.d (.list (ns.map PyData.int))) = (minI ns).bind fun m => some (.d (.int m)) := by
  unfold opMin opBest
  dsimp only
  rw [ints?_map]
  rfl
@[simp] theorem opMin_t {ns : List Int} : opMin (.d (.tuple (ns.map PyData.int))) = (minI ns).bind fun m => some (.d (.int m)) := by
  unfold opMin opBest
  dsimp only
  rw [ints?_map]
  rfl
@[simp] theorem opIsi_d {T : String} {d : D} : opIsi T (.d d) = some (.d (.bool (isiB T (tyN (.d d))))) := Eq.trans rfl rfl
@[simp] theorem opMin2_i {i j : Int} : opMin2 (.d (.int i)) (.d (.int j)) = some (.d (.int (if j < i then j else i))) := Eq.trans rfl rfl
@[simp] theorem opMax2_i {i j : Int} : opMax2 (.d (.int i)) (.d (.int j)) = some (.d (.int (if j > i then j else i))) := Eq.trans rfl rfl
/-- what stands at the end of the cells -/
@[simp] theorem set_last {g : List Cell} {c c' : Cell} : (g ++ [c]).set g.length c' = g ++ [c'] := by
  rw [List.set_append_right _ _ (Nat.le_refl _), Nat.sub_self]
  rfl
theorem fin_cell {m : List Cell} {k : Nat} {s : S} {c : Cell} (h : m.length ≤ k) (h2 : s.m[k]? = some c) (h3 : c ≠ .gone) : fin m (.rt (.ref k) s) = .ok (.new c) (s.m.take m.length) := by
  show (if m.length ≤ k then _ else _) = _
  rw [if_pos h, h2]
  cases c with
  | gone => exact absurd rfl h3
  | l _ => rfl
  | k _ => rfl
  | t _ => rfl
  | r _ => rfl
  | i _ _ _ => rfl
@[simp] theorem fin_l {m : List Cell} {k : Nat} {s : S} {ds : List D} (h : m.length ≤ k) (h2 : s.m[k]? = some (.l ds)) : fin m (.rt (.ref k) s) = .ok (.new (.l ds)) (s.m.take m.length) := fin_cell h h2 nofun
end Vm
namespace Vm
open PySem L2
/-! ### how many bits -/
def Bs (k : Nat) (x : Int) : Prop := x.natAbs < 2 ^ k
theorem Bs.mono {j k : Nat} {x : Int} (h : Bs j x) (q : j ≤ k) : Bs k x := Nat.lt_of_lt_of_le h (Nat.pow_le_pow_right (by decide) q)
theorem Bs.le {k : Nat} {x y : Int} (h : Bs k y) (q : x.natAbs ≤ y.natAbs) : Bs k x := Nat.lt_of_le_of_lt q h
theorem Bs.mul {j k : Nat} {x y : Int} (h : Bs j x) (q : Bs k y) : Bs (j + k) (x * y) := by
  unfold Bs at *
  rw [Int.natAbs_mul, Nat.pow_add]
  exact Nat.mul_lt_mul'' h q
theorem Bs.add {j k m : Nat} {x y : Int} (h : Bs j x) (q : Bs k y) (h1 : j ≤ m) (h2 : k ≤ m) : Bs (m + 1) (x + y) := by
  have h := h.mono h1
  have q := q.mono h2
  unfold Bs at *
  rw [Nat.pow_succ]
  have := Int.natAbs_add_le x y
  omega
theorem Bs.log {k : Nat} {x : Int} (h : Bs k x) : x.natAbs.log2 < k + 1 := log2_lt h
theorem Bs.mulOk {j k : Nat} {x y : Int} (h : Bs j x) (q : Bs k y) (hk : j + k < 90000000) : mulOk x y = true := by
  unfold Vm.mulOk
  rw [decide_eq_true_eq]
  have := h.log
  have := q.log
  omega
/-! ### the greatest common measure -/
def cMeasure : CS := (cSeq (cWh (fun _ => 1000000) (cB (cOp2 opGt (cVar 1) (cC (.int 0))))
 (cPar 0 1 (cVar 1) (cOp2 opMod (cVar 0) (cVar 1))))
 (cRet (cVar 0)))
def fMeasure : Fn := runF 2 cMeasure
theorem two_mod {x y : Nat} (h0 : 0 < y) (h : y ≤ x) : 2 * (x % y) < x := by
  have h1 := Nat.mod_lt x h0
  have h2 := Nat.div_add_mod x y
  have h3 : 1 ≤ x / y := Nat.div_pos h h0
  have h4 : y * 1 ≤ y * (x / y) := Nat.mul_le_mul_left y h3
  omega
theorem measure_ok {a b k : Nat} (hb : b < 2 ^ k) (hk : k < 400000) : fMeasure [.d (.int a), .d (.int b)] [] = .ok (.d (.int (Nat.gcd a b : Nat))) [] := by
  obtain ⟨s', e, q⟩ := whL_inv (t := cB (cOp2 opGt (cVar 1) (cC (.int 0)))) (b := cPar 0 1 (cVar 1) (cOp2 opMod (cVar 0) (cVar 1)))
    (fun k s => ∃ x y j : Nat, s = ⟨[.d (.int x), .d (.int y)], []⟩ ∧ Nat.gcd x y = Nat.gcd a b ∧ ((k = 2 * j ∧ y < 2 ^ j) ∨ (k + 1 = 2 * j ∧ y < x ∧ x < 2 ^ j)))
    (fun s => s = ⟨[.d (.int (Nat.gcd a b : Nat)), .d (.int 0)], []⟩) (fun k s hi => by
      obtain ⟨x, y, j, rfl, hg, hc⟩ := hi
      by_cases hy : y = 0
      · subst hy
        refine .inl ⟨⟨[.d (.int x), .d (.int 0)], []⟩, by simp, ?_⟩
        rw [Nat.gcd_zero_right] at hg
        rw [hg]
      · have hy0 : 0 < y := Nat.pos_of_ne_zero hy
        have hyI : (0 : Int) < (y : Int) := by omega
        have hm := Nat.mod_lt x hy0
        have om : opMod (.d (.int x)) (.d (.int y)) = some (.d (.int ((x % y : Nat) : Int))) := opMod_i hyI
        have hgcd : Nat.gcd y (x % y) = Nat.gcd a b := by
          rw [← hg, Nat.gcd_comm x y, Nat.gcd_rec y x, Nat.gcd_comm]
        suffices hh : ∃ k', k' < k ∧ ∃ j : Nat, ((k' = 2 * j ∧ x % y < 2 ^ j) ∨ (k' + 1 = 2 * j ∧ x % y < y ∧ y < 2 ^ j)) by
          obtain ⟨k', hk', j', hj⟩ := hh
          exact .inr ⟨⟨[.d (.int x), .d (.int y)], []⟩, ⟨[.d (.int y), .d (.int ((x % y : Nat) : Int))], []⟩, k', by simp [hy0], .inl (by simp [om]), hk', ⟨y, x % y, j', rfl, hgcd, hj⟩⟩
        rcases hc with ⟨hk, hlt⟩ | ⟨hk, hlt, hx⟩
        · have hj : j ≠ 0 := fun z => by
            rw [z] at hlt
            have : (2 : Nat) ^ 0 = 1 := rfl
            omega
          exact ⟨2 * j - 1, by omega, j, .inr ⟨by omega, hm, hlt⟩⟩
        · have h2 := two_mod hy0 (Nat.le_of_lt hlt)
          have hj : j = j - 1 + 1 := by omega
          rw [hj, Nat.pow_succ] at hx
          exact ⟨2 * (j - 1), by omega, j - 1, .inl ⟨rfl, by omega⟩⟩) 1000000 (2 * k) ⟨[.d (.int a), .d (.int b)], []⟩ (by omega) ⟨a, b, k, rfl, rfl, .inl ⟨rfl, hb⟩⟩
  unfold fMeasure
  rw [runF_s]
  show fin [] (cSeq _ _ _) = _
  rw [cSeq_s]
  show fin [] ((whL _ _ 1000000 ⟨[.d (.int a), .d (.int b)], []⟩).then _) = _
  rw [e, q]
  simp
/-! ### shares -/
def shD (p q : Int) : D := .tuple [.int p, .int q]
def cShare : CS :=
 (cSeq (cIfS (cB (cOp2 opEq (cVar 1) (cC (.int 0))))
 (cRaise "NoShare")
 cNx)
 (cSeq (cSet 2 (cCallP fMeasure (lCons (cOp1 opAbs (cVar 0)) (lCons (cOp1 opAbs (cVar 1)) lNil))))
 (cSeq (cIfS (cB (cOp2 opLt (cVar 1) (cC (.int 0))))
 (cSet 2 (cOp2 opSub (cC (.int 0)) (cVar 2)))
 cNx)
 (cRet (cTup (cCons (cOp2 opDiv (cVar 0) (cVar 2)) (cCons (cOp2 opDiv (cVar 1) (cVar 2)) cNil)))))))
def fShare : Fn := runF 3 cShare
@[simp] theorem cRaise_s {n : String} {s : S} : cRaise n s = .ex n s := rfl
/-- in lowest terms, of so many bits -/
structure Sh (k : Nat) (p q : Int) : Prop where
  pos : 1 ≤ q
  cop : Int.gcd p q = 1
  bp : Bs k p
  bq : Bs k q
theorem abs_nat (x : Int) : (if x < 0 then -x else x) = ((x.natAbs : Nat) : Int) := by
  split <;> omega
theorem gcd_pos {a b : Int} (h : b ≠ 0) : 0 < Int.gcd a b := Int.gcd_pos_iff.mpr (.inr h)
theorem share_ok {top bot : Int} {j k : Nat} (hb : bot ≠ 0) (ht : Bs j top) (hk : Bs k bot) (hk2 : k ≤ 8900) :
    ∃ p q, fShare [.d (.int top), .d (.int bot)] [] = .ok (.d (shD p q)) [] ∧ Sh (max j k) p q ∧ p * bot = top * q := by
  have hg := gcd_pos (a := top) hb
  obtain ⟨g, hgd⟩ : ∃ g : Nat, g = Int.gcd top bot := ⟨_, rfl⟩
  rw [← hgd] at hg
  obtain ⟨t, ht'⟩ : (g : Int) ∣ top := by rw [hgd]; exact Int.gcd_dvd_left ..
  obtain ⟨u, hu'⟩ : (g : Int) ∣ bot := by rw [hgd]; exact Int.gcd_dvd_right ..
  have hg0 : (0 : Int) < g := by omega
  have hgn : (g : Int) ≠ 0 := by omega
  have hu0 : u ≠ 0 := fun z => hb (by rw [hu', z, Int.mul_zero])
  have e := measure_ok (a := top.natAbs) (b := bot.natAbs) (k := k) hk (by omega)
  have hgg : Nat.gcd top.natAbs bot.natAbs = g := hgd.symm
  rw [hgg] at e
  have cop : Int.gcd t u = 1 := by
    have h1 : Int.gcd top bot = g * Int.gcd t u := by
      rw [ht', hu', Int.gcd_mul_left]
      rfl
    rw [← hgd] at h1
    exact Nat.eq_of_mul_eq_mul_left hg (by rw [← h1, Nat.mul_one])
  have hlt : (g : Int).natAbs.log2 < 9000 := by
    have hb1 : Bs k (g : Int) := hk.le (by
      show g ≤ bot.natAbs
      exact Nat.le_of_dvd (Int.natAbs_pos.mpr hb) (by rw [hgd]; exact Int.natAbs_dvd_natAbs.mpr (Int.gcd_dvd_right ..)))
    have := hb1.log
    omega
  have hat : t.natAbs ≤ top.natAbs := by
    rw [ht', Int.natAbs_mul]
    exact Nat.le_mul_of_pos_left _ hg
  have hau : u.natAbs ≤ bot.natAbs := by
    rw [hu', Int.natAbs_mul]
    exact Nat.le_mul_of_pos_left _ hg
  have o1 : opAbs (.d (.int top)) = some (.d (.int (top.natAbs : Nat))) := by rw [opAbs_i, abs_nat]
  have o2 : opAbs (.d (.int bot)) = some (.d (.int (bot.natAbs : Nat))) := by rw [opAbs_i, abs_nat]
  by_cases hn : bot < 0
  · have hdv : ∀ x : Int, ((g : Int) * x).fdiv (0 - (g : Int)) = -x := fun x => by
      rw [show (g : Int) * x = (0 - (g : Int)) * (-x) by rw [Int.zero_sub, Int.neg_mul_neg], Int.mul_fdiv_cancel_left _ (by omega)]
    have d1 : opDiv (.d (.int top)) (.d (.int (0 - (g : Int)))) = some (.d (.int (-t))) := by
      show (if (0 - (g : Int)) ≠ 0 ∧ (0 - (g : Int)).natAbs.log2 < 9000 then some (Rv.d (.int (fdv top (0 - (g : Int))))) else none) = _
      rw [if_pos ⟨by omega, by rw [Int.zero_sub, Int.natAbs_neg]; exact hlt⟩]
      unfold fdv
      rw [if_neg (by omega), ht', hdv]
    have d2 : opDiv (.d (.int bot)) (.d (.int (0 - (g : Int)))) = some (.d (.int (-u))) := by
      show (if (0 - (g : Int)) ≠ 0 ∧ (0 - (g : Int)).natAbs.log2 < 9000 then some (Rv.d (.int (fdv bot (0 - (g : Int))))) else none) = _
      rw [if_pos ⟨by omega, by rw [Int.zero_sub, Int.natAbs_neg]; exact hlt⟩]
      unfold fdv
      rw [if_neg (by omega), hu', hdv]
    have hun : u < 0 := by
      rcases Int.lt_trichotomy u 0 with h | h | h
      · exact h
      · exact absurd h hu0
      · have := Int.mul_pos hg0 h
        omega
    refine ⟨-t, -u, ?_, ⟨by omega, by rw [Int.gcd_neg, Int.neg_gcd]; exact cop, (ht.le (by rw [Int.natAbs_neg]; exact hat)).mono (Nat.le_max_left ..), (hk.le (by rw [Int.natAbs_neg]; exact hau)).mono (Nat.le_max_right ..)⟩, ?_⟩
    · unfold fShare
      rw [runF_s]
      simp [-opAbs_i, -Int.zero_sub, cShare, o1, o2, e, hn, hb, d1, d2, shD]
    · rw [ht', hu']
      rw [Int.mul_neg, Int.neg_mul, Int.mul_left_comm, Int.mul_assoc]
  · have hbp : 0 < bot := by omega
    have d1 : opDiv (.d (.int top)) (.d (.int g)) = some (.d (.int t)) := by
      rw [opDiv_i hg0 hlt, ht', Int.mul_ediv_cancel_left _ hgn]
    have d2 : opDiv (.d (.int bot)) (.d (.int g)) = some (.d (.int u)) := by
      rw [opDiv_i hg0 hlt, hu', Int.mul_ediv_cancel_left _ hgn]
    have hup : 0 < u := by
      rcases Int.lt_trichotomy u 0 with h | h | h
      · have := Int.mul_neg_of_pos_of_neg hg0 h
        omega
      · exact absurd h hu0
      · exact h
    refine ⟨t, u, ?_, ⟨by omega, cop, (ht.le hat).mono (Nat.le_max_left ..), (hk.le hau).mono (Nat.le_max_right ..)⟩, ?_⟩
    · unfold fShare
      rw [runF_s]
      simp [-opAbs_i, cShare, o1, o2, e, hn, hb, d1, d2, shD]
    · rw [ht', hu']
      rw [Int.mul_left_comm, Int.mul_assoc]
theorem cop_dvd {a b c : Int} (h : a ∣ b * c) (g : Int.gcd a b = 1) : a ∣ c := by
  have h1 : a.natAbs ∣ b.natAbs * c.natAbs := by
    rw [← Int.natAbs_mul]
    exact Int.natAbs_dvd_natAbs.mpr h
  exact Int.natAbs_dvd_natAbs.mp (Nat.Coprime.dvd_of_dvd_mul_left g h1)
/-- shares that stand for the same are the same -/
theorem low_one {p q p' q' : Int} (h : 1 ≤ q) (h' : 1 ≤ q') (c : Int.gcd p q = 1) (c' : Int.gcd p' q' = 1) (e : p * q' = p' * q) : p = p' ∧ q = q' := by
  have d1 : q ∣ q' := by
    have : q ∣ p * q' := ⟨p', by rw [e, Int.mul_comm]⟩
    exact cop_dvd this (by rw [Int.gcd_comm]; exact c)
  have d2 : q' ∣ q := by
    have : q' ∣ p' * q := ⟨p, by rw [← e, Int.mul_comm]⟩
    exact cop_dvd this (by rw [Int.gcd_comm]; exact c')
  have hq : q = q' := Int.le_antisymm (Int.le_of_dvd (by omega) d1) (Int.le_of_dvd (by omega) d2)
  subst hq
  exact ⟨Int.eq_of_mul_eq_mul_right (by omega) e, rfl⟩
end Vm
namespace Vm
open PySem L2
@[simp] theorem sh_0 {p q : Int} : opIx (.d (shD p q)) (.d (.int 0)) = some (.d (.int p)) := rfl
@[simp] theorem sh_1 {p q : Int} : opIx (.d (shD p q)) (.d (.int 1)) = some (.d (.int q)) := rfl
def fPlus : Fn := runF 2 (cRet (cCallP fShare (lCons (cOp2 opAdd (cOp2 opMulV (cOp2 opIx (cVar 0) (cC (.int 0))) (cOp2 opIx (cVar 1) (cC (.int 1)))) (cOp2 opMulV (cOp2 opIx (cVar 1) (cC (.int 0))) (cOp2 opIx (cVar 0) (cC (.int 1))))) (lCons (cOp2 opMulV (cOp2 opIx (cVar 0) (cC (.int 1))) (cOp2 opIx (cVar 1) (cC (.int 1)))) lNil))))
def cTotal : CS := (cSeq (cSet 1 (cTup (cCons (cC (.int 0)) (cCons (cC (.int 1)) cNil))))
 (cSeq (cFor (ciSeq (cVar 0)) (tgN 2)
 (cSet 1 (cCallP fPlus (lCons (cVar 1) (lCons (cVar 2) lNil)))))
 (cRet (cVar 1))))
def fTotal : Fn := runF 3 cTotal
section
variable {j k : Nat} {p1 q1 p2 q2 : Int}
theorem Sh.mono (h : Sh j p1 q1) (hk : j ≤ k) : Sh k p1 q1 := ⟨h.pos, h.cop, h.bp.mono hk, h.bq.mono hk⟩
theorem plus_ok (a : Sh j p1 q1) (b : Sh k p2 q2) (hk : j + k ≤ 8000) : ∃ p q, fPlus [.d (shD p1 q1), .d (shD p2 q2)] [] = .ok (.d (shD p q)) [] ∧ Sh (j + k + 1) p q ∧ p * (q1 * q2) = (p1 * q2 + p2 * q1) * q := by
  have a1 := a.pos
  have b1 := b.pos
  have hb : q1 * q2 ≠ 0 := Int.mul_ne_zero (by omega) (by omega)
  have s1 : Bs (j + k + 1) (p1 * q2 + p2 * q1) := (a.bp.mul b.bq).add (b.bp.mul a.bq) (Nat.le_refl _) (by omega)
  obtain ⟨p, q, e, h, r⟩ := share_ok hb s1 (a.bq.mul b.bq) (by omega)
  refine ⟨p, q, ?_, h.mono (by omega), r⟩
  have m1 := opMul_i (a.bp.mulOk b.bq (by omega))
  have m2 := opMul_i (b.bp.mulOk a.bq (by omega))
  have m3 := opMul_i (a.bq.mulOk b.bq (by omega))
  unfold fPlus
  rw [runF_s]
  simp [m1, m2, m3, e]
end
theorem abs_s {x : Int} : opAbs (.d (.int x)) = some (.d (.int (x.natAbs : Nat))) := by rw [opAbs_i, abs_nat]
/-- the law's reduced -/
def cReduced : CS :=
 (cSeq (cSet 2 (cCallP fMeasure (lCons (cOp1 opAbs (cVar 0)) (lCons (cVar 1) lNil))))
 (cRet (cTup (cCons (cOp2 opDiv (cVar 0) (cVar 2)) (cCons (cOp2 opDiv (cVar 1) (cVar 2)) cNil)))))
def fReduced : Fn := runF 3 cReduced
theorem reduced_ok {top bot : Int} {j k : Nat} (hb : 1 ≤ bot) (ht : Bs j top) (hk : Bs k bot) (hk2 : k ≤ 8900) :
    ∃ p q, fReduced [.d (.int top), .d (.int bot)] [] = .ok (.d (shD p q)) [] ∧ Sh (max j k) p q ∧ p * bot = top * q := by
  have hb0 : bot ≠ 0 := by omega
  have hg := gcd_pos (a := top) hb0
  obtain ⟨g, hgd⟩ : ∃ g : Nat, g = Int.gcd top bot := ⟨_, rfl⟩
  rw [← hgd] at hg
  obtain ⟨t, ht'⟩ : (g : Int) ∣ top := by rw [hgd]; exact Int.gcd_dvd_left ..
  obtain ⟨u, hu'⟩ : (g : Int) ∣ bot := by rw [hgd]; exact Int.gcd_dvd_right ..
  have hg0 : (0 : Int) < g := by omega
  have hgn : (g : Int) ≠ 0 := by omega
  have e := measure_ok (a := top.natAbs) (b := bot.natAbs) (k := k) hk (by omega)
  have hgg : Nat.gcd top.natAbs bot.natAbs = g := hgd.symm
  rw [hgg, show ((bot.natAbs : Nat) : Int) = bot by omega] at e
  have cop : Int.gcd t u = 1 := by
    have h1 : Int.gcd top bot = g * Int.gcd t u := by
      rw [ht', hu', Int.gcd_mul_left]
      rfl
    rw [← hgd] at h1
    exact Nat.eq_of_mul_eq_mul_left hg (by rw [← h1, Nat.mul_one])
  have hlt : (g : Int).natAbs.log2 < 9000 := by
    have hb1 : Bs k (g : Int) := hk.le (by
      show g ≤ bot.natAbs
      exact Nat.le_of_dvd (Int.natAbs_pos.mpr hb0) (by rw [hgd]; exact Int.natAbs_dvd_natAbs.mpr (Int.gcd_dvd_right ..)))
    have := hb1.log
    omega
  have hat : t.natAbs ≤ top.natAbs := by
    rw [ht', Int.natAbs_mul]
    exact Nat.le_mul_of_pos_left _ hg
  have hau : u.natAbs ≤ bot.natAbs := by
    rw [hu', Int.natAbs_mul]
    exact Nat.le_mul_of_pos_left _ hg
  have d1 : opDiv (.d (.int top)) (.d (.int g)) = some (.d (.int t)) := by
    rw [opDiv_i hg0 hlt, ht', Int.mul_ediv_cancel_left _ hgn]
  have d2 : opDiv (.d (.int bot)) (.d (.int g)) = some (.d (.int u)) := by
    rw [opDiv_i hg0 hlt, hu', Int.mul_ediv_cancel_left _ hgn]
  have hup : 0 < u := by
    rcases Int.lt_trichotomy u 0 with h | h | h
    · have := Int.mul_neg_of_pos_of_neg hg0 h
      omega
    · rw [h, Int.mul_zero] at hu'
      omega
    · exact h
  refine ⟨t, u, ?_, ⟨by omega, cop, (ht.le hat).mono (Nat.le_max_left ..), (hk.le hau).mono (Nat.le_max_right ..)⟩, ?_⟩
  · unfold fReduced
    rw [runF_s]
    simp [-opAbs_i, cReduced, abs_s, e, d1, d2, shD]
  · rw [ht', hu']
    rw [Int.mul_left_comm, Int.mul_assoc]
/-- the law's look at a share that was told -/
def fWhole : Fn := runF 1 (cRet (cAnd (cOp1 (opIsi "int") (cVar 0)) (cNot (cOp1 (opIsi "bool") (cVar 0)))))
@[simp] theorem isiB_tt : isiB "tuple" "tuple" = true := rfl
end Vm
namespace Vm
open PySem L2 PySem.Spec PyProof.Rows
/-! ### methods that change nothing, of one argument -/
def tyO (T : String) : Od → Bool
  | .d (.list _) => T == "list"
  | .d (.str _) => T == "str"
  | .c (.k _) => T == "dict"
  | _ => false
def cMt1 (T : String) (f : Od → Od → Option Rv) (co c : CE) : CE := fun s => (cv co s).bind fun x s1 => opt (x.od s1.m) fun o1 => if tyO T o1 = true then (cv c s1).bind fun y s2 => opt (x.od s2.m) fun o => opt (y.od s2.m) fun o' => opt (f o o') fun rv => .ok rv s2 else .bad
section
variable {X : Cx} {ec : EC} {W : WX}
/-! ### xs.count(x) -/
/-! ### xs.index(x), flat items -/
def mtK (T : String) (f : Od → Od → Option Rv) (c : CE) (x : Rv) : Option Od → S → R Rv
  | some o1, s1 => if tyO T o1 = true then (cv c s1).bind (kOp2b f x) else .bad
  | none, _ => .bad
@[simp] theorem mtK_s {T : String} {f : Od → Od → Option Rv} {c : CE} {x : Rv} {o1 : Od} {s1 : S} : mtK T f c x (some o1) s1 = if tyO T o1 = true then (cv c s1).bind (kOp2b f x) else .bad := Eq.trans rfl rfl
def kMt (T : String) (f : Od → Od → Option Rv) (c : CE) (x : Rv) (s1 : S) : R Rv := mtK T f c x (x.od s1.m) s1
@[simp] theorem kMt_s {T : String} {f : Od → Od → Option Rv} {c : CE} {x : Rv} {s1 : S} : kMt T f c x s1 = mtK T f c x (x.od s1.m) s1 := Eq.trans rfl rfl
@[simp] theorem cMt1_s {T : String} {f : Od → Od → Option Rv} {co c : CE} {s : S} : cMt1 T f co c s = (cv co s).bind (kMt T f c) := by
  unfold cMt1
  congr 1
  funext x s1
  rw [kMt_s]
  cases x.od s1.m with
  | none => rfl
  | some o1 =>
    show (if tyO T o1 = true then _ else _) = _
    rw [mtK_s]
    split
    · congr 1
      funext y s2
      exact opt_od2
    · rfl
@[simp] theorem tyO_l {ds : List D} : tyO "list" (.d (.list ds)) = true := Eq.trans rfl rfl
/-! ### xs[::-1] -/
def opRev : Od → Option Rv
  | .d (.list ds) => some (.new (.l ds.reverse))
  | _ => none
end
end Vm
namespace Vm
open PySem L2
/-! ### shares by what they stand for -/
theorem opNe_self {d : D} (h : okd d = true) : opNe (.d d) (.d d) = some (.d (.bool false)) := by
  have e : eqB d d = some true := by
    unfold eqB
    split
    · simp
    · rw [if_pos ⟨h, h⟩, SeqAt.eqv_refl_plain _ (okd_iff.mp h).1]
  unfold opNe
  dsimp only
  rw [e]
  rfl
theorem opEq_self {d : D} (h : okd d = true) : opEq (.d d) (.d d) = some (.d (.bool true)) := by
  have e : eqB d d = some true := by
    unfold eqB
    split
    · simp
    · rw [if_pos ⟨h, h⟩, SeqAt.eqv_refl_plain _ (okd_iff.mp h).1]
  unfold opEq
  dsimp only
  rw [e]
structure Tell (k : Nat) (d : D) (x : Rat) : Prop where
  ex : ∃ p q, d = shD p q ∧ Sh k p q ∧ (p : Rat) = x * q
theorem rat_pos {q : Int} (h : 1 ≤ q) : (0 : Rat) < q := Rat.intCast_pos.mpr (by omega)
theorem rat_ne {q : Int} (h : 1 ≤ q) : (q : Rat) ≠ 0 := fun z => by
  have := Rat.intCast_eq_zero_iff.mp z
  omega
theorem Tell.okd {k : Nat} {d : D} {x : Rat} (h : Tell k d x) : Vm.okd d = true := by
  obtain ⟨p, q, rfl, _⟩ := h.ex
  exact okd_intsT [p, q]
theorem Tell.ne {k : Nat} {d : D} {x : Rat} (h : Tell k d x) : opNe (.d d) (.d d) = some (.d (.bool false)) := opNe_self h.okd
theorem Tell.eq {k : Nat} {d : D} {x : Rat} (h : Tell k d x) : opEq (.d d) (.d d) = some (.d (.bool true)) := opEq_self h.okd
theorem Tell.mono {j k : Nat} {d : D} {x : Rat} (h : Tell j d x) (q : j ≤ k) : Tell k d x := by
  obtain ⟨p, q', e, s, r⟩ := h.ex
  exact ⟨p, q', e, s.mono q, r⟩
theorem Tell.to {k : Nat} {d : D} {x y : Rat} (h : Tell k d x) (e : x = y) : Tell k d y := e ▸ h
theorem Sh.tell {k : Nat} {p q : Int} (h : Sh k p q) : ∃ x : Rat, Tell k (shD p q) x ∧ (p : Rat) = x * q := by
  have hq := rat_ne h.pos
  refine ⟨(p : Rat) / q, ⟨p, q, rfl, h, ?_⟩, ?_⟩ <;> grind
theorem Tell.one {j k : Nat} {d e : D} {x : Rat} (h : Tell j d x) (g : Tell k e x) : d = e := by
  obtain ⟨p, q, rfl, s, r⟩ := h.ex
  obtain ⟨p', q', rfl, s', r'⟩ := g.ex
  have : p * q' = p' * q := by
    rw [← Rat.intCast_inj, Rat.intCast_mul, Rat.intCast_mul, r, r']
    grind
  obtain ⟨rfl, rfl⟩ := low_one s.pos s'.pos s.cop s'.cop this
  rfl
theorem Tell.uniq {j k : Nat} {d : D} {x y : Rat} (h : Tell j d x) (g : Tell k d y) : x = y := by
  obtain ⟨p, q, rfl, s, r⟩ := h.ex
  obtain ⟨p', q', e, s', r'⟩ := g.ex
  have e1 : p = p' ∧ q = q' := by
    unfold shD at e
    injection e with e
    injection e with e2 e3
    injection e2 with e2
    injection e3 with e3 _
    injection e3 with e3
    exact ⟨e2, e3⟩
  obtain ⟨rfl, rfl⟩ := e1
  have := rat_ne s.pos
  grind
section
variable {j k : Nat} {a b : D} {x y : Rat}
theorem plus_t (h : Tell j a x) (g : Tell k b y) (hk : j + k ≤ 8000) : ∃ d, fPlus [.d a, .d b] [] = .ok (.d d) [] ∧ Tell (j + k + 1) d (x + y) := by
  obtain ⟨p1, q1, rfl, s1, r1⟩ := h.ex
  obtain ⟨p2, q2, rfl, s2, r2⟩ := g.ex
  obtain ⟨p, q, e, s, r⟩ := plus_ok s1 s2 hk
  refine ⟨shD p q, e, p, q, rfl, s, ?_⟩
  have h1 := rat_ne s1.pos
  have h2 := rat_ne s2.pos
  rw [← Rat.intCast_inj, Rat.intCast_mul, Rat.intCast_mul, Rat.intCast_mul, Rat.intCast_add, Rat.intCast_mul, Rat.intCast_mul, r1, r2] at r
  have h3 : (q1 : Rat) * q2 ≠ 0 := by grind
  grind
end
theorem tell_none : Tell 1 (shD 0 1) 0 := ⟨0, 1, rfl, ⟨by decide, by decide, show (0 : Int).natAbs < 2 ^ 1 by decide, show (1 : Int).natAbs < 2 ^ 1 by decide⟩, by rw [Rat.zero_mul]; rfl⟩
/-- total of a list of told shares, of at most k bits each -/
theorem total_t {k : Nat} : ∀ (ds : List D) (xs : List Rat) (hl : ds.length = xs.length), (∀ (i : Nat) (d : D) (x : Rat), ds[i]? = some d → xs[i]? = some x → Tell k d x) → 1 + (k + 1) * ds.length + k ≤ 8000 → ∃ d, fTotal [.d (.list ds)] [] = .ok (.d d) [] ∧ Tell (1 + (k + 1) * ds.length) d xs.sum := by
  intro ds xs hl h hk
  obtain ⟨s', e, a, x2, y, rfl, ha, hy⟩ := forL_inv (tg := tgN 2) (body := cSet 1 (cCallP fPlus (lCons (cVar 1) (lCons (cVar 2) lNil)))) (ds := ds) (fun i s => ∃ a x2 y, s = ⟨[.d (.list ds), .d a, x2], []⟩ ∧ Tell (1 + (k + 1) * i) a y ∧ y = (xs.take i).sum) (s := ⟨[.d (.list ds), .d (shD 0 1), .u], []⟩) ⟨_, _, 0, rfl, tell_none, by simp⟩ fun i s d hd hi => by
    obtain ⟨a, x2, y, rfl, ha, hy⟩ := hi
    have hi := (List.getElem?_eq_some_iff.mp hd).1
    have hx : xs[i]? = some xs[i] := List.getElem?_eq_getElem (by omega)
    have hm : (k + 1) * (i + 1) ≤ (k + 1) * ds.length := Nat.mul_le_mul_left _ (by omega)
    have hs : (k + 1) * (i + 1) = (k + 1) * i + (k + 1) := Nat.mul_succ _ _
    obtain ⟨b, e, hb⟩ := plus_t ha (h i d _ hd hx) (by omega)
    refine ⟨_, ⟨[.d (.list ds), .d b, .d d], []⟩, rfl, .inl ?_, b, _, y + xs[i], rfl, hb.mono (by omega), ?_⟩
    · simp [e]
    · rw [List.take_add_one, hx, List.sum_append, hy]
      simp [Rat.add_zero]
  refine ⟨a, ?_, ?_⟩
  · unfold fTotal
    rw [runF_s]
    have z : PyData.tuple [PyData.int 0, PyData.int 1] = shD 0 1 := rfl
    simp [cTotal, z, e]
  · rw [hl, List.take_length] at hy
    exact hy ▸ ha
end Vm
namespace Vm
open PySem L2 PySem.Spec PyProof.Rows
/-! ### how long a repr is -/
structure Fits (d : D) (n m : Nat) : Prop where
  len : d.shown.length ≤ n
  sh : d.showable = true
  pl : d.plain = true
  dp : d.depth ≤ m
theorem Fits.mono {d : D} {n m n' m' : Nat} (h : Fits d n m) (a : n ≤ n') (b : m ≤ m') : Fits d n' m' := ⟨Nat.le_trans h.len a, h.sh, h.pl, Nat.le_trans h.dp b⟩
theorem Fits.int {k : Nat} {i : Int} (h : Bs k i) (hk : k ≤ 1918) : Fits (.int i) (k + 2) 0 := by
  have hl := h.log
  refine ⟨?_, ?_, rfl, Nat.le_refl _⟩
  · have e := int_text_length_le (k := k + 1) (by omega) hl
    show (Str.ofString (toString i)).length ≤ k + 2
    rw [PySem.ofString_length]
    exact e
  · simp only [PyData.showable, decide_eq_true_eq]
    omega
theorem Fits.none : Fits .none 4 0 := ⟨by decide, rfl, rfl, by decide⟩
theorem Fits.bool {b : Bool} : Fits (.bool b) 5 0 := ⟨by cases b <;> decide, rfl, rfl, Nat.le_refl _⟩
theorem fits_all {n m : Nat} : ∀ {ds : List D}, (∀ d, d ∈ ds → Fits d n m) → piled (PyData.shownAll ds) ≤ ds.length * (n + 2) ∧ PyData.showableAll ds = true ∧ PyData.plainAll ds = true ∧ PyData.depthAll ds ≤ m
  | [], _ => ⟨Nat.zero_le _, rfl, rfl, Nat.zero_le _⟩
  | d :: ds, h => by
    obtain ⟨a, b, c, e⟩ := fits_all (ds := ds) fun x hx => h x (List.mem_cons_of_mem _ hx)
    have h0 := h d (List.mem_cons_self ..)
    refine ⟨?_, ?_, ?_, ?_⟩
    · show piled (d.shown :: PyData.shownAll ds) ≤ _
      rw [piled_cons, List.length_cons, Nat.add_mul]
      have := h0.len
      omega
    · simp only [PyData.showableAll, h0.sh, b, Bool.and_self]
    · simp only [PyData.plainAll, h0.pl, c, Bool.and_self]
    · show max d.depth (PyData.depthAll ds) ≤ m
      exact Nat.max_le.mpr ⟨h0.dp, e⟩
theorem listText_le (ts : List Str) : (listText ts).length ≤ piled ts + 2 := by
  unfold listText
  cases ts with
  | nil => decide
  | cons t r =>
    show (textFrom 1 ("[" ++ "" ++ t) r ++ "]").length ≤ _
    rw [Str.length_append, textFrom_length_pos _ _ _ (by decide), piled_cons, Str.length_append, Str.length_append]
    show (("[" : Str).length + ("" : Str).length + t.length + piled r) + ("]" : Str).length ≤ _
    have h1 : ("[" : Str).length = 1 := rfl
    have h2 : ("" : Str).length = 0 := rfl
    have h3 : ("]" : Str).length = 1 := rfl
    omega
theorem Fits.list {n m : Nat} {ds : List D} (h : ∀ d, d ∈ ds → Fits d n m) : Fits (.list ds) (ds.length * (n + 2) + 2) (m + 1) := by
  obtain ⟨a, b, c, e⟩ := fits_all h
  refine ⟨?_, by simp only [PyData.showable]; exact b, by rw [PyData.plain]; exact c, Nat.succ_le_succ e⟩
  simp only [PyData.shown]
  have := listText_le (PyData.shownAll ds)
  omega
theorem Fits.tuple {n m : Nat} {ds : List D} (h : ∀ d, d ∈ ds → Fits d n m) : Fits (.tuple ds) (ds.length * (n + 2) + 2) (m + 1) := by
  obtain ⟨a, b, c, e⟩ := fits_all h
  refine ⟨?_, by simp only [PyData.showable]; exact b, by rw [PyData.plain]; exact c, Nat.succ_le_succ e⟩
  simp only [PyData.shown]
  have := fmt_text (PyData.shownAll ds)
  omega
theorem opRepr_s {d : D} (h : okr d = true) : opRepr (.d d) = some (.d (.str d.shown)) := by
  show (if okr d = true ∨ okrN d = true then _ else _) = _
  rw [if_pos (.inl h)]
theorem opRepr_n {d : D} (h : okrN d = true) : opRepr (.d d) = some (.d (.str d.shown)) := by
  show (if okr d = true ∨ okrN d = true then _ else _) = _
  rw [if_pos (.inr h)]
theorem str_ne {z : Str} : opNe (.d (.str z)) (.d (.str z)) = some (.d (.bool false)) := opNe_self rfl
@[simp] theorem opRev_l {ds : List D} : opRev (.d (.list ds)) = some (.new (.l ds.reverse)) := Eq.trans rfl rfl
@[simp] theorem opIs_b {neg a b : Bool} : opIs neg (.d (.bool a)) (.d (.bool b)) = some (.d (.bool (if neg then !decide (a = b) else decide (a = b)))) := Eq.trans rfl rfl
@[simp] theorem opIs_n {neg : Bool} {d : D} : opIs neg (.d d) (.d .none) = some (.d (.bool (if neg then !isNone d else isNone d))) := Eq.trans rfl rfl
/-! ### targets that are tuples -/
@[simp] theorem tgNil_s {s : S} : tgNil [] s = some s := Eq.trans rfl rfl
@[simp] theorem tgTup_s {n : Nat} {t : Tgs} {ds : List D} {s : S} (h : ds.length = n) : tgTup n t (.tuple ds) s = t ds s := by
  show (if ds.length = n then _ else _) = _
  rw [if_pos h]
def asgR (tg : Tg) : Rv → S → Out
  | .d d, s1 => match tg d s1 with
    | some s2 => .nx s2
    | none => .bad
  | _, _ => .bad
@[simp] theorem cAsg_s {tg : Tg} {c : CE} {s : S} : cAsg tg c s = (cv c s).out (asgR tg) := by
  unfold cAsg
  congr 1
  funext a s1
  cases a <;> rfl
theorem asg_2 {i j : Nat} {x y : D} {s : S} : asgR (tgTup 2 (tgCons (tgN i) (tgCons (tgN j) tgNil))) (.d (.tuple [x, y])) s = .nx ⟨(s.v.set i (.d x)).set j (.d y), s.m⟩ := rfl
end Vm
namespace Vm
open PySem L2
/-! ### stands that are drawn -/
theorem flat_one {α : Type} {x : α} : ∀ n : Nat, (List.replicate n [x]).flatten = List.replicate n x
  | 0 => rfl
  | n + 1 => by rw [List.replicate_succ, List.flatten_cons, flat_one n, List.replicate_succ]; rfl
theorem rep_t {x : D} {n : Int} (h1 : 1 ≤ n) (h2 : n ≤ 1000) : opMulV (.d (.tuple [x])) (.d (.int n)) = some (.d (.tuple (List.replicate n.toNat x))) := by
  unfold opMulV
  dsimp only
  by_cases h : n = 1
  · subst h
    rw [if_pos rfl]
    rfl
  · rw [if_neg h, if_pos (by simp; omega), flat_one]
theorem rep_0 {x : D} : opMulV (.d (.tuple [x])) (.d (.int 0)) = some (.d (.tuple [])) := rfl
/-! ### the first of the least -/
structure FirstMin (xs : List Int) (b : Nat) : Prop where
  lt : b < xs.length
  le : ∀ (j : Nat) (y : Int), xs[j]? = some y → xs[b]?.getD 0 ≤ y
  fst : ∀ (j : Nat) (y : Int), j < b → xs[j]? = some y → xs[b]?.getD 0 < y
theorem FirstMin.one {xs : List Int} {a b : Nat} (h : FirstMin xs a) (g : FirstMin xs b) : a = b := by
  have ha : xs[a]? = some (xs[a]?.getD 0) := by rw [List.getElem?_eq_getElem h.lt]; rfl
  have hb : xs[b]? = some (xs[b]?.getD 0) := by rw [List.getElem?_eq_getElem g.lt]; rfl
  rcases Nat.lt_trichotomy a b with q | q | q
  · have := g.fst a _ q ha
    have := h.le b _ hb
    omega
  · exact q
  · have := h.fst b _ q hb
    have := g.le a _ ha
    omega
end Vm
namespace Vm
open PySem L2
/-- the first of the least of the first i -/
structure PreMin (xs : List Int) (i b : Nat) : Prop where
  lt : b < xs.length
  le : ∀ (j : Nat) (y : Int), j < i → xs[j]? = some y → xs[b]?.getD 0 ≤ y
  fst : ∀ (j : Nat) (y : Int), j < b → xs[j]? = some y → xs[b]?.getD 0 < y
theorem PreMin.start {xs : List Int} (h : xs ≠ []) : PreMin xs 0 0 := ⟨List.length_pos_iff.mpr h, (fun j y hj => nomatch hj), (fun j y hj => nomatch hj)⟩
theorem PreMin.take {xs : List Int} {i b : Nat} (h : PreMin xs i b) (hi : i < xs.length) (hlt : xs[i] < xs[b]'h.lt) : PreMin xs (i + 1) i := by
  have hx : xs[i]? = some xs[i] := List.getElem?_eq_getElem hi
  have hxb : xs[b]? = some (xs[b]'h.lt) := List.getElem?_eq_getElem h.lt
  refine ⟨hi, fun j y hj hy => ?_, fun j y hj hy => ?_⟩
  · rw [hx]
    show xs[i] ≤ y
    by_cases hji : j = i
    · subst hji
      rw [hx] at hy
      cases hy
      omega
    · have := h.le j y (by omega) hy
      rw [hxb] at this
      have : xs[b]'h.lt ≤ y := this
      omega
  · rw [hx]
    show xs[i] < y
    have := h.le j y hj hy
    rw [hxb] at this
    have : xs[b]'h.lt ≤ y := this
    omega
theorem PreMin.keep {xs : List Int} {i b : Nat} (h : PreMin xs i b) (hi : i < xs.length) (hlt : ¬ xs[i] < xs[b]'h.lt) : PreMin xs (i + 1) b := by
  have hx : xs[i]? = some xs[i] := List.getElem?_eq_getElem hi
  have hxb : xs[b]? = some (xs[b]'h.lt) := List.getElem?_eq_getElem h.lt
  refine ⟨h.lt, fun j y hj hy => ?_, h.fst⟩
  by_cases hji : j = i
  · subst hji
    rw [hx] at hy
    cases hy
    rw [hxb]
    show xs[b]'h.lt ≤ xs[j]
    omega
  · exact h.le j y (by omega) hy
end Vm
namespace Vm
open PySem L2 PySem.Spec PyProof.Rows
/-! ### an empty dict -/
def cNewK : CE := fun s => .ok (.new (.k [])) s
section
variable {X : Cx} {ec : EC} {W : WX}
theorem e_newK {pos : Pos} : Ex X ec W (.Dict [] [] pos) cNewK := pe_dnewK.imp fun σ H Q h => by
  obtain ⟨w, s, rfl, hr, h⟩ := h
  intro p hp
  have hh := hr.hold (o := .dK []) hp
  obtain ⟨h3, h4, _⟩ := hh.mem.fo p (.inr rfl)
  have r3 : Rel ec X.K ⟨w.G, w.r, w.F, upd w.H p (.dK [])⟩ σ s := hh.f (fun q hq => hh.mem.fo q (.inl hq)) (hr.mem.tab.back hh.mem.tab) fun q hq => hh.mem.nv.2 q (.inl hq)
  have l3 : Le w ⟨w.G, w.r, w.F, upd w.H p (.dK [])⟩ := by
    have l1 := (Le.hold (w := w) (o := .dK []) hp)
    refine ⟨l1.g, fun a u e n => ⟨u, ?_, fun _ => rfl⟩, l1.p, fun _ h => .inl h, rfl⟩
    show upd w.H p _ a = some u
    rw [upd_ne (ne_of_none e hp)]
    exact e
  have nf : ¬ w.F p := fun z => by
    obtain ⟨_, _, u, hu⟩ := hr.mem.fo p z
    rw [hp] at hu
    cases hu
  exact h (.ref p) ⟨w.G, w.r, w.F, upd w.H p (.dK [])⟩ l3 r3 ⟨p, rfl, ⟨h4, nf⟩, h3, [], upd_same, .nil⟩ fun _ _ p' e => by
    cases e
    exact hp
end
@[simp] theorem cNewK_s {s : S} : cNewK s = .ok (.new (.k [])) s := Eq.trans rfl rfl
end Vm
namespace Vm
open PySem L2 PySem.Spec PyProof.Rows
/-! ### a < b < c, run -/
def kCh3 (g : Od → Od → Option Rv) (y z : Rv) (s3 : S) : R Rv := opt (y.od s3.m) fun p => opt (z.od s3.m) fun p' => opt (g p p') fun rv' => .ok rv' s3
def kChB (g : Od → Od → Option Rv) (c : CE) (y : Rv) (o : Option Rv) (s2 : S) : R Rv := opt o fun rv => match rv with
  | .d (.bool true) => (cv c s2).bind (kCh3 g y)
  | .d (.bool false) => .ok (.d (.bool false)) s2
  | _ => .bad
def kCh2 (f g : Od → Od → Option Rv) (c : CE) (x y : Rv) (s2 : S) : R Rv := opt (x.od s2.m) fun o => opt (y.od s2.m) fun o' => kChB g c y (f o o') s2
def kCh1 (f g : Od → Od → Option Rv) (b c : CE) (x : Rv) (s1 : S) : R Rv := (cv b s1).bind (kCh2 f g c x)
@[simp] theorem kCh3_s {g : Od → Od → Option Rv} {y z : D} {s : S} : kCh3 g (.d y) (.d z) s = rvK (g (.d y) (.d z)) s := by
  unfold kCh3
  rw [od_d, opt_some, od_d, opt_some]
  cases g (.d y) (.d z) <;> rfl
@[simp] theorem kChB_s {g : Od → Od → Option Rv} {c : CE} {y : Rv} {b : Bool} {s : S} : kChB g c y (some (.d (.bool b))) s = if b = true then (cv c s).bind (kCh3 g y) else .ok (.d (.bool false)) s := by
  cases b <;> rfl
@[simp] theorem kCh2_s {f g : Od → Od → Option Rv} {c : CE} {x y : D} {s : S} : kCh2 f g c (.d x) (.d y) s = kChB g c (.d y) (f (.d x) (.d y)) s := Eq.trans rfl rfl
@[simp] theorem kCh1_s {f g : Od → Od → Option Rv} {b c : CE} {x : Rv} {s : S} : kCh1 f g b c x s = (cv b s).bind (kCh2 f g c x) := Eq.trans rfl rfl
@[simp] theorem cChain_s {f g : Od → Od → Option Rv} {a b c : CE} {s : S} : cChain f g a b c s = (cv a s).bind (kCh1 f g b c) := Eq.trans rfl rfl
/-! ### any thing, to be told -/
/-- a thing of so long a repr, so deep: b: without dicts; not b: without lists -/
structure Kd (b : Bool) (n m : Nat) (d : D) : Prop where
  len : d.shown.length ≤ n
  sh : d.showable = true
  dp : d.depth ≤ m
  pl : b = true → d.plain = true
  nl : b = false → noLs d = true
theorem Kd.mono {b : Bool} {d : D} {n m n' m' : Nat} (h : Kd b n m d) (x : n ≤ n') (y : m ≤ m') : Kd b n' m' d := ⟨Nat.le_trans h.len x, h.sh, Nat.le_trans h.dp y, h.pl, h.nl⟩
theorem Kd.ofFits {b : Bool} {n m : Nat} {d : D} (h : Fits d n m) (q : noLs d = true) : Kd b n m d := ⟨h.len, h.sh, h.dp, fun _ => h.pl, fun _ => q⟩
theorem kd_all {b : Bool} {n m : Nat} : ∀ {ds : List D}, (∀ d, d ∈ ds → Kd b n m d) → piled (PyData.shownAll ds) ≤ ds.length * (n + 2) ∧ PyData.showableAll ds = true ∧ PyData.depthAll ds ≤ m ∧ (b = true → PyData.plainAll ds = true) ∧ (b = false → noLsAll ds = true)
  | [], _ => ⟨Nat.zero_le _, rfl, Nat.zero_le _, fun _ => rfl, fun _ => rfl⟩
  | d :: ds, h => by
    obtain ⟨a, c, e, f, g⟩ := kd_all (ds := ds) fun x hx => h x (List.mem_cons_of_mem _ hx)
    have h0 := h d (List.mem_cons_self ..)
    refine ⟨?_, ?_, ?_, fun hb => ?_, fun hb => ?_⟩
    · show piled (d.shown :: PyData.shownAll ds) ≤ _
      rw [piled_cons, List.length_cons, Nat.add_mul]
      have := h0.len
      omega
    · simp only [PyData.showableAll, h0.sh, c, Bool.and_self]
    · show max d.depth (PyData.depthAll ds) ≤ m
      exact Nat.max_le.mpr ⟨h0.dp, e⟩
    · simp only [PyData.plainAll, h0.pl hb, f hb, Bool.and_self]
    · simp only [noLsAll, h0.nl hb, g hb, Bool.and_self]
theorem Kd.tuple {b : Bool} {n m : Nat} {ds : List D} (h : ∀ d, d ∈ ds → Kd b n m d) : Kd b (ds.length * (n + 2) + 2) (m + 1) (.tuple ds) := by
  obtain ⟨a, c, e, f, g⟩ := kd_all h
  refine ⟨?_, by simp only [PyData.showable]; exact c, Nat.succ_le_succ e, fun hb => by rw [PyData.plain]; exact f hb, fun hb => by rw [noLs]; exact g hb⟩
  simp only [PyData.shown]
  have := fmt_text (PyData.shownAll ds)
  omega
theorem Kd.list {n m : Nat} {ds : List D} (h : ∀ d, d ∈ ds → Kd true n m d) : Kd true (ds.length * (n + 2) + 2) (m + 1) (.list ds) := by
  obtain ⟨a, c, e, f, g⟩ := kd_all h
  refine ⟨?_, by simp only [PyData.showable]; exact c, Nat.succ_le_succ e, fun hb => by rw [PyData.plain]; exact f hb, fun hb => nomatch hb⟩
  simp only [PyData.shown]
  have := listText_le (PyData.shownAll ds)
  omega
theorem Kd.int {b : Bool} {k : Nat} {i : Int} (h : Bs k i) (hk : k ≤ 1918) : Kd b (k + 2) 0 (.int i) := .ofFits (.int h hk) rfl
theorem Kd.none {b : Bool} : Kd b 5 0 .none := .ofFits (Fits.none.mono (by decide) (by decide)) rfl
theorem Kd.bool {b c : Bool} : Kd b 5 0 (.bool c) := .ofFits Fits.bool rfl
theorem Kd.dict0 : Kd false 2 1 (.dict []) := ⟨by decide, by decide, by decide, (fun h => nomatch h), fun _ => rfl⟩
theorem Kd.rep {b : Bool} {n m : Nat} {d : D} (h : Kd b n m d) (x : n ≤ 16000000) (y : m ≤ 60) : opRepr (.d d) = some (.d (.str d.shown)) := by
  cases b with
  | true =>
    refine opRepr_s ?_
    unfold Vm.okr
    rw [Bool.and_eq_true, Bool.and_eq_true, decide_eq_true_eq]
    exact ⟨⟨okd_iff.mpr ⟨h.pl rfl, Nat.le_trans h.dp y⟩, h.sh⟩, Nat.le_trans h.len x⟩
  | false =>
    refine opRepr_n ?_
    unfold Vm.okrN
    rw [Bool.and_eq_true, Bool.and_eq_true, Bool.and_eq_true, decide_eq_true_eq, decide_eq_true_eq]
    exact ⟨⟨⟨h.nl rfl, Nat.le_trans h.dp y⟩, h.sh⟩, Nat.le_trans h.len x⟩
/-! ### looks at any thing -/
def isInt : D → Bool
  | .int _ => true
  | _ => false
theorem whole_d {d : D} {m : List Cell} : fWhole [.d d] m = .ok (.d (.bool (isInt d))) (m.take m.length) := by
  cases d <;> rfl
theorem isi_t {d : D} : isiB "tuple" (tyN (.d d)) = match d with | .tuple _ => true | _ => false := by cases d <;> rfl
theorem isi_b {b : Bool} : isiB "bool" (tyN (.d (.bool b))) = true := rfl
end Vm
namespace Vm
open PySem L2
/-! ### what a statement leaves, wished for -/
structure Po where
  nx : S → Prop
  rt : Rv → S → Prop
  ex : String → S → Prop
  ct : S → Prop
  bk : S → Prop
def Po.of (P : Po) : Out → Prop
  | .nx s => P.nx s
  | .rt a s => P.rt a s
  | .ex e s => P.ex e s
  | .ct s => P.ct s
  | .bk s => P.bk s
  | .bad => False
@[irreducible] def Wp (c : CS) (P : Po) (s : S) : Prop := P.of (c s)
/-- equal; simp does not take it apart -/
def Is {α : Type} (x y : α) : Prop := x = y
theorem Is.rfl {α : Type} {x : α} : Is x x := Eq.refl x
theorem Is.eq {α : Type} {x y : α} (h : Is x y) : x = y := h
/-- a call's result -/
def Ok (r : RF) (Q : Rv → List Cell → Prop) : Prop := ∃ a m, r = .ok a m ∧ Q a m
def poF (m : List Cell) (Q : Rv → List Cell → Prop) : Po where
  nx := fun s => Q (.d .none) (s.m.take m.length)
  rt := fun a s => Ok (fin m (.rt a s)) Q
  ex := fun _ _ => False
  ct := fun _ => False
  bk := fun _ => False
section
variable {a b c : CS} {P : Po} {s s1 : S} {t : CT}
theorem w_of {o : Out} (h : c s = o) (q : P.of o) : Wp c P s := by
  unfold Wp at *
  rw [h]
  exact q
theorem st (h : Is (a s) (.nx s1)) (q : Wp b P s1) : Wp (cSeq a b) P s := by
  unfold Wp at *
  rw [cSeq_s, h.eq]
  exact q
theorem st_last (h : Is (a s) (.nx s1)) (q : P.nx s1) : Wp a P s := w_of h q
theorem w_ret {e : CE} {x : Rv} (h : Is (e s) (.ok x s1)) (q : P.rt x s1) : Wp (cRet e) P s := by
  unfold Wp at *
  rw [cRet_s, h.eq]
  exact q
theorem w_seq (h : Wp a { P with nx := fun s1 => Wp b P s1 } s) : Wp (cSeq a b) P s := by
  unfold Wp at *
  rw [cSeq_s]
  cases e : a s <;> rw [e] at h <;> exact h
theorem w_mono {P' : Po} (h : Wp a P s) (h1 : ∀ s, P.nx s → P'.nx s) (h2 : ∀ x s, P.rt x s → P'.rt x s) (h3 : ∀ x s, P.ex x s → P'.ex x s) (h4 : ∀ s, P.ct s → P'.ct s) (h5 : ∀ s, P.bk s → P'.bk s) : Wp a P' s := by
  unfold Wp at *
  cases e : a s <;> rw [e] at h
  · exact h1 _ h
  · exact h2 _ _ h
  · exact h5 _ h
  · exact h4 _ h
  · exact h3 _ _ h
  · exact h
/-- behind a, N holds -/
theorem w_cut (N : S → Prop) (h : Wp a { P with nx := N } s) (q : ∀ s1, N s1 → Wp b P s1) : Wp (cSeq a b) P s :=
  w_seq (w_mono h q (fun _ _ h => h) (fun _ _ h => h) (fun _ h => h) (fun _ h => h))
theorem w_if {x : Bool} (h : Is (t s) (.ok x s1)) (h1 : x = true → Wp a P s1) (h2 : x = false → Wp b P s1) : Wp (cIfS t a b) P s := by
  unfold Wp at *
  rw [cIfS_s, h.eq, out_ok, kIfS_s]
  cases x with
  | true => exact h1 rfl
  | false => exact h2 rfl
theorem w_ifT (h : Is (t s) (.ok true s1)) (h1 : Wp a P s1) : Wp (cIfS t a b) P s := w_if h (fun _ => h1) fun z => nomatch z
theorem w_ifF (h : Is (t s) (.ok false s1)) (h1 : Wp b P s1) : Wp (cIfS t a b) P s := w_if h (fun z => nomatch z) fun _ => h1
/-- if t: return .. ahead of b -/
theorem w_sif {x : Bool} {d : CS} (h : Is (t s) (.ok x s1)) (h1 : x = true → Wp (cSeq a d) P s1) (h2 : x = false → Wp (cSeq b d) P s1) : Wp (cSeq (cIfS t a b) d) P s := by
  unfold Wp at *
  rw [cSeq_s, cIfS_s, h.eq, out_ok, kIfS_s]
  cases x with
  | true =>
    have := h1 rfl
    rw [cSeq_s] at this
    exact this
  | false =>
    have := h2 rfl
    rw [cSeq_s] at this
    exact this
theorem w_retS {d : CS} {e : CE} {x : Rv} (h : Is (e s) (.ok x s1)) (q : P.rt x s1) : Wp (cSeq (cRet e) d) P s := by
  refine w_seq ?_
  exact w_ret h q
theorem w_assoc {d : CS} (h : Wp (cSeq a (cSeq b d)) P s) : Wp (cSeq (cSeq a b) d) P s := by
  unfold Wp at *
  rw [cSeq_s, cSeq_s]
  rw [cSeq_s] at h
  cases e : a s <;> rw [e] at h
  · rw [then_nx, ← cSeq_s]
    exact h
  all_goals exact h
theorem w_nx (q : P.nx s) : Wp cNx P s := by
  unfold Wp at *
  exact q
/-- a for loop; I i holds ahead of the turn i -/
theorem w_for {ci : CI} {tg : Tg} {ds : List D} (I : Nat → S → Prop) (h : Is (ci s) (.ok ds s1)) (h0 : I 0 s1)
    (hb : ∀ i d s, ds[i]? = some d → I i s → ∃ s2, tg d s = some s2 ∧ Wp a { nx := I (i + 1), rt := P.rt, ex := P.ex, ct := I (i + 1), bk := P.nx } s2)
    (h1 : ∀ s, I ds.length s → P.nx s) : Wp (cFor ci tg a) P s := by
  unfold Wp at *
  rw [cFor_s, h.eq, out_ok]
  have go : ∀ (l : List D) (k : Nat) (s : S), (∀ i d, l[i]? = some d → ds[k + i]? = some d) → k + l.length = ds.length → I k s → P.of (forL tg a l s) := by
    intro l
    induction l with
    | nil =>
      intro k s _ hl hi
      rw [forL_nil]
      have : k = ds.length := by simpa using hl
      exact h1 s (this ▸ hi)
    | cons d l ih =>
      intro k s hd hl hi
      obtain ⟨s2, e1, w⟩ := hb k d s (hd 0 d rfl) hi
      rw [forL_cons e1]
      have next : ∀ s3, I (k + 1) s3 → P.of (forL tg a l s3) := fun s3 h3 => ih (k + 1) s3 (fun i d q => by rw [show k + 1 + i = k + (i + 1) by omega]; exact hd (i + 1) d q) (by rw [List.length_cons] at hl; omega) h3
      cases e : a s2 <;> rw [e] at w
      · exact next _ w
      · exact w
      · exact w
      · exact next _ w
      · exact w
      · exact w
  exact go ds 0 s1 (fun i d q => by rw [Nat.zero_add]; exact q) (by omega) h0
end
/-! calls -/
theorem run_ok {n : Nat} {c : CS} {as : List Sl} {m : List Cell} {Q : Rv → List Cell → Prop} (h : Wp c (poF m Q) ⟨as ++ List.replicate (n - as.length) .u, m⟩) : Ok (runF n c as m) Q := by
  unfold Wp at h
  rw [runF_s]
  generalize c _ = o at h
  cases o with
  | nx s => exact ⟨_, _, rfl, h⟩
  | rt a s => exact h
  | bk s => exact h.elim
  | ct s => exact h.elim
  | ex e s => exact h.elim
  | bad => exact h.elim
theorem run_eq {n : Nat} {c : CS} {as : List Sl} {m m' : List Cell} {a : Rv} (h : Wp c (poF m fun x m1 => x = a ∧ m1 = m') ⟨as ++ List.replicate (n - as.length) .u, m⟩) : runF n c as m = .ok a m' := by
  obtain ⟨_, _, e, rfl, rfl⟩ := run_ok h
  exact e
theorem ok_d {m : List Cell} {x : D} {s : S} {Q : Rv → List Cell → Prop} (h : Q (.d x) (s.m.take m.length)) : Ok (fin m (.rt (.d x) s)) Q := ⟨_, _, fin_d, h⟩
theorem ok_cell {m : List Cell} {k : Nat} {s : S} {c : Cell} {Q : Rv → List Cell → Prop} (h1 : m.length ≤ k) (h2 : s.m[k]? = some c) (h3 : c ≠ .gone) (h : Q (.new c) (s.m.take m.length)) : Ok (fin m (.rt (.ref k) s)) Q := ⟨_, _, fin_cell h1 h2 h3, h⟩
theorem Ok.eq {r : RF} {a : Rv} {m : List Cell} (h : Ok r fun x m1 => x = a ∧ m1 = m) : r = .ok a m := by
  obtain ⟨_, _, e, rfl, rfl⟩ := h
  exact e
theorem Ok.imp {r : RF} {Q Q' : Rv → List Cell → Prop} (h : Ok r Q) (q : ∀ a m, Q a m → Q' a m) : Ok r Q' := by
  obtain ⟨a, m, e, h⟩ := h
  exact ⟨a, m, e, q a m h⟩
/-! ### comprehensions over told lists -/
theorem lc_for {α : Type} {own : List Nat} {ci : CI} {tg : Tg} {el : CE} {s s1 : S} {xs : List α} {F : α → D} (G : α → D) (h : ci s = .ok (xs.map F) s1) (hl : xs.length ≤ 16000000)
    (hb : ∀ x, x ∈ xs → ∃ t, tg (F x) ⟨wipeV s1.v own, s1.m⟩ = some t ∧ ∃ v3, cv el t = .ok (.d (G x)) ⟨v3, s1.m⟩) : cLc own ci tg ctYes el s = .ok (.new (.l (xs.map G))) s1 := by
  have go : ∀ (l : List α) (acc : List D), (∀ x, x ∈ l → x ∈ xs) → lcL own s1.v tg ctYes el (l.map F) acc s1.m = .ok (.new (.l (acc ++ l.map G))) s1 := by
    intro l
    induction l with
    | nil =>
      intro acc _
      show R.ok (Rv.new (.l acc)) _ = _
      rw [List.map_nil, List.append_nil]
    | cons x l ih =>
      intro acc hx
      obtain ⟨t, h1, v3, h2⟩ := hb x (hx x (List.mem_cons_self ..))
      rw [List.map_cons]
      unfold lcL
      rw [h1]
      dsimp only
      show ((cv el t).nx.bind _) = _
      rw [h2]
      show lcL own s1.v tg ctYes el (l.map F) (acc ++ [G x]) s1.m = _
      rw [ih (acc ++ [G x]) fun y hy => hx y (List.mem_cons_of_mem _ hy), List.append_assoc]
      rfl
  unfold cLc
  rw [h, bind_ok, if_pos (by rw [List.length_map]; exact hl), go xs [] fun x hx => hx]
  rfl
theorem lc_some {α : Type} {own : List Nat} {ci : CI} {tg : Tg} {tt : CT} {el : CE} {s s1 : S} {xs : List α} {F : α → D} (p : α → Bool) (G : α → D) (h : ci s = .ok (xs.map F) s1) (hl : xs.length ≤ 16000000)
    (hb : ∀ x, x ∈ xs → ∃ t, tg (F x) ⟨wipeV s1.v own, s1.m⟩ = some t ∧ ∃ v2, tt t = .ok (p x) ⟨v2, s1.m⟩ ∧ (p x = true → ∃ v3, cv el ⟨v2, s1.m⟩ = .ok (.d (G x)) ⟨v3, s1.m⟩)) : cLc own ci tg tt el s = .ok (.new (.l ((xs.filter p).map G))) s1 := by
  have go : ∀ (l : List α) (acc : List D), (∀ x, x ∈ l → x ∈ xs) → lcL own s1.v tg tt el (l.map F) acc s1.m = .ok (.new (.l (acc ++ (l.filter p).map G))) s1 := by
    intro l
    induction l with
    | nil =>
      intro acc _
      show R.ok (Rv.new (.l acc)) _ = _
      rw [List.filter_nil, List.map_nil, List.append_nil]
    | cons x l ih =>
      intro acc hx
      obtain ⟨t, h1, v2, h2, h3⟩ := hb x (hx x (List.mem_cons_self ..))
      rw [List.map_cons]
      unfold lcL
      rw [h1]
      dsimp only
      rw [h2]
      show (if p x = true then _ else _) = _
      cases hp : p x with
      | false =>
        rw [if_neg (by decide), ih acc fun y hy => hx y (List.mem_cons_of_mem _ hy), List.filter_cons_of_neg (by rw [hp]; decide)]
      | true =>
        obtain ⟨v3, h4⟩ := h3 hp
        rw [if_pos rfl, h4]
        show lcL own s1.v tg tt el (l.map F) (acc ++ [G x]) s1.m = _
        rw [ih (acc ++ [G x]) fun y hy => hx y (List.mem_cons_of_mem _ hy), List.filter_cons_of_pos hp, List.append_assoc]
        rfl
  unfold cLc
  rw [h, bind_ok, if_pos (by rw [List.length_map]; exact hl), go xs [] fun x hx => hx]
  rfl
/-! ### operations with bounds that omega sees -/
theorem opMul_b {i j : Int} (h1 : -1000000000000000000000000000000000000000 ≤ i) (h2 : i ≤ 1000000000000000000000000000000000000000) (h3 : -1000000000000000000000000000000000000000 ≤ j) (h4 : j ≤ 1000000000000000000000000000000000000000) : opMulV (.d (.int i)) (.d (.int j)) = some (.d (.int (i * j))) :=
  opMul_i (mulOk_small (by omega) (by omega))
theorem getD_map {α β : Type} {xs : List α} {F : α → β} {i : Nat} {a : α} {b : β} (h : i < xs.length) : (xs.map F).getD i b = F (xs.getD i a) := by
  rw [List.getD_eq_getElem?_getD, List.getD_eq_getElem?_getD, List.getElem?_map, List.getElem?_eq_getElem h]
  rfl
theorem opIx_lb {ds : List D} {i : Int} (h : 0 ≤ i) (h2 : i < ds.length) : opIx (.d (.list ds)) (.d (.int i)) = some (.d (ds.getD i.toNat .none)) := by
  refine opIx_l (atI_nat h ?_)
  rw [List.getD_eq_getElem?_getD, List.getElem?_eq_getElem (by omega)]
  rfl
theorem opIx_tb {ds : List D} {i : Int} (h : 0 ≤ i) (h2 : i < ds.length) : opIx (.d (.tuple ds)) (.d (.int i)) = some (.d (ds.getD i.toNat .none)) := by
  refine opIx_t (atI_nat h ?_)
  rw [List.getD_eq_getElem?_getD, List.getElem?_eq_getElem (by omega)]
  rfl
theorem opIx_li {ns : List Int} {i : Int} (h : 0 ≤ i) (h2 : i < ns.length) : opIx (.d (.list (ns.map PyData.int))) (.d (.int i)) = some (.d (.int (ns.getD i.toNat 0))) := by
  rw [opIx_lb h (by rw [List.length_map]; exact h2), getD_map (a := 0) (by omega)]
theorem opIx_ti {ns : List Int} {i : Int} (h : 0 ≤ i) (h2 : i < ns.length) : opIx (.d (.tuple (ns.map PyData.int))) (.d (.int i)) = some (.d (.int (ns.getD i.toNat 0))) := by
  rw [opIx_tb h (by rw [List.length_map]; exact h2), getD_map (a := 0) (by omega)]
theorem opAdd_t {xs ys : List D} (h : xs.length + ys.length ≤ 16000000) : opAdd (.d (.tuple xs)) (.d (.tuple ys)) = some (.d (.tuple (xs ++ ys))) := by
  show (if xs.length + ys.length ≤ 16000000 then _ else _) = _
  rw [if_pos h]
/-! draws -/
end Vm
namespace Vm
open PySem L2 PySem.Spec PyProof.Rows
/-! ### str(x) -/
def strD : D → Option Str
  | .int i => if okr (.int i) = true then some (PyData.int i).shown else none
  | .str z => some z
  | .list ds => if okr (.list ds) = true then some (PyData.list ds).shown else none
  | .tuple ds => if okr (.tuple ds) = true then some (PyData.tuple ds).shown else none
  | _ => none
def opStr : Od → Option Rv
  | .d d => (strD d).map fun z => .d (.str z)
  | _ => none
def rStrV (K : Fg) : V → Hp → VK → Prop := fun x H Q => ∃ d z, Rp K H x d ∧ strD d = some z ∧ Q (.str z) H
theorem call_strV {X : Cx} {k : Nat} (hr : Rg k X.A) : CallR X (.type "str") (fun xs H Q => ∃ x, xs = [x] ∧ rStrV X.K x H Q) := by
  intro pins s σ H xs us Q I r h
  obtain ⟨x, rfl, d, z, hd, hz, q⟩ := h
  obtain ⟨u, rfl, rx⟩ := vals1 r
  have hu := hr.units
  have seqs : ∀ a d', u = .ref a → okr d' = true → Rp X.K H x d' → z = d'.shown → wpAny (model X.prog X.w) X.A (call (.type "str") [u]) (EP X pins σ Q) X.xe s := fun a d' e ok hd' ez => by
    obtain ⟨pd, dp, sh, sz⟩ := okr_iff ok
    obtain ⟨as, r1⟩ := Rp.reads I d' x u pd hd' rx
    subst e
    subst ez
    exact str_of_reads r1 sh (PyData.noDict_hsm (plain_noDict.1 d' pd)) hr.g (by omega) (fun _ _ e => e) (fun h' t tk hk => ⟨.str d'.shown, H, I.kept hk, ⟨t, rfl⟩, q⟩) sz
  unfold strD at hz
  split at hz
  · split at hz
    · rename_i i ok
      cases hz
      cases hd
      obtain ⟨t, rfl⟩ := rx
      obtain ⟨pd, dp, sh, sz⟩ := okr_iff ok
      exact PySem.P.str_of_int (by simpa [PyData.showable] using sh) ⟨.str _, H, I.tok _, ⟨_, rfl⟩, q⟩
    · cases hz
  · cases hz
    cases hd
    obtain ⟨t, rfl⟩ := rx
    exact PySem.P.str_of_str ⟨.str _, H, I, ⟨_, rfl⟩, q⟩
  · split at hz
    · rename_i ds ok
      cases hz
      cases hd with
      | lst hs ra =>
        cases rx
        exact seqs _ (.list ds) rfl ok (.lst hs ra) rfl
    · cases hz
  · split at hz
    · rename_i ds ok
      cases hz
      cases hd with
      | tup hs ra =>
        cases rx
        exact seqs _ (.tuple ds) rfl ok (.tup hs ra) rfl
    · cases hz
  · cases hz
theorem s_str {K : Fg} : Op1S K (fun v H Q => ∃ x, [v] = [x] ∧ rStrV K x H Q) opStr := by
  intro w x o rv Q hx h e q
  unfold opStr at e
  split at e
  · rename_i d
    cases hz : strD d with
    | none => rw [hz] at e; cases e
    | some z =>
      rw [hz] at e
      cases e
      exact ⟨x, rfl, d, z, h.rp hx, hz, post_str q⟩
  · cases e
/-! ### bool(x) -/
def opBool : Od → Option Rv
  | .d (.int i) => some (.d (.bool (i != 0)))
  | .d (.bool b) => some (.d (.bool b))
  | _ => none
/-! ### shifts, masks -/
/-! ### dict(pairs) -/
/-! ### enumerate -/
end Vm
namespace Vm
open PySem L2 PySem.Spec PyProof.Rows
def enumD (k : Nat) : List D → List D
  | [] => []
  | d :: ds => .tuple [.int (k : Nat), d] :: enumD (k + 1) ds
def zipD : List D → List D → List D
  | d :: ds, e :: es => .tuple [d, e] :: zipD ds es
  | _, _ => []
def ciEnum (c : CE) : CI := fun s => (cv c s).bind fun a s1 => match a with
  | .d (.list ds) => .ok (enumD 0 ds) s1
  | .d (.tuple ds) => .ok (enumD 0 ds) s1
  | _ => .bad
def ciZip (c c' : CE) : CI := fun s => (cv c s).bind fun a s1 => (cv c' s1).bind fun b s2 => match a, b with
  | .d (.list ds), .d (.list es) => .ok (zipD ds es) s2
  | .d (.tuple ds), .d (.tuple es) => .ok (zipD ds es) s2
  | _, _ => .bad
def enumR : Rv → S → R (List D)
  | .d (.list ds), s1 => .ok (enumD 0 ds) s1
  | .d (.tuple ds), s1 => .ok (enumD 0 ds) s1
  | _, _ => .bad
@[simp] theorem enumR_l {ds : List D} {s : S} : enumR (.d (.list ds)) s = .ok (enumD 0 ds) s := Eq.trans rfl rfl
@[simp] theorem enumR_t {ds : List D} {s : S} : enumR (.d (.tuple ds)) s = .ok (enumD 0 ds) s := Eq.trans rfl rfl
@[simp] theorem ciEnum_s {c : CE} {s : S} : ciEnum c s = (cv c s).bind enumR := by
  unfold ciEnum
  congr 1
  funext a s1
  rcases a with (_ | _ | _ | _ | _ | _ | _) | _ | _ <;> rfl
def zipR (a b : Rv) (s2 : S) : R (List D) := match a, b with
  | .d (.list ds), .d (.list es) => .ok (zipD ds es) s2
  | .d (.tuple ds), .d (.tuple es) => .ok (zipD ds es) s2
  | _, _ => .bad
@[simp] theorem zipR_l {ds es : List D} {s : S} : zipR (.d (.list ds)) (.d (.list es)) s = .ok (zipD ds es) s := Eq.trans rfl rfl
@[simp] theorem zipR_t {ds es : List D} {s : S} : zipR (.d (.tuple ds)) (.d (.tuple es)) s = .ok (zipD ds es) s := Eq.trans rfl rfl
def kZip (c' : CE) (a : Rv) (s1 : S) : R (List D) := (cv c' s1).bind (zipR a)
@[simp] theorem kZip_s {c' : CE} {a : Rv} {s : S} : kZip c' a s = (cv c' s).bind (zipR a) := Eq.trans rfl rfl
@[simp] theorem ciZip_s {c c' : CE} {s : S} : ciZip c c' s = (cv c s).bind (kZip c') := Eq.trans rfl rfl
@[simp] theorem opBool_i {i : Int} : opBool (.d (.int i)) = some (.d (.bool (i != 0))) := Eq.trans rfl rfl
@[simp] theorem opBool_b {b : Bool} : opBool (.d (.bool b)) = some (.d (.bool b)) := Eq.trans rfl rfl
@[simp] theorem opInt_b1 {b : Bool} : opInt (.d (.bool b)) = some (.d (.int (if b then 1 else 0))) := rfl
end Vm
namespace Vm
open PySem L2 PySem.Spec PyProof.Rows
@[simp] theorem wipeV_nil {v : List Sl} : wipeV v [] = v := rfl
@[simp] theorem wipeV_cons {v : List Sl} {i : Nat} {is : List Nat} : wipeV v (i :: is) = (wipeV v is).set i .u := rfl
theorem rangeI_map : ∀ (n k : Nat), rangeI k n = (List.range n).map fun (i : Nat) => ((k + i : Nat) : Int)
  | 0, k => rfl
  | n + 1, k => by
    show ((k : Int) :: rangeI (k + 1) n) = _
    have e : ((k : Int) + 1) = ((k + 1 : Nat) : Int) := by omega
    rw [e, rangeI_map n (k + 1), List.range_succ_eq_map, List.map_cons, List.map_map]
    congr 1
    apply List.map_congr_left
    intro i _
    show ((k + 1 + i : Nat) : Int) = ((k + (i + 1) : Nat) : Int)
    rw [show k + 1 + i = k + (i + 1) by omega]
/-- range(e): the numbers below -/
theorem ciR1_n {c : CE} {s s1 : S} {n : Nat} (h : c s = .ok (.d (.int (n : Nat))) s1) (hn : n < 1000000000) : ciR1 c s = .ok ((List.range n).map fun i : Nat => PyData.int (i : Int)) s1 := by
  rw [ciR1_s h (by omega) (by omega), Int.toNat_natCast, rangeD_eq]
  have := rangeI_map n 0
  rw [show ((0 : Nat) : Int) = 0 from rfl] at this
  rw [this, List.map_map]
  congr 1
  apply List.map_congr_left
  intro i _
  show PyData.int ((0 + i : Nat) : Int) = _
  rw [Nat.zero_add]
/-! ### what is a load -/
end Vm
namespace Vm
open PySem L2 PySem.Spec PyProof.Rows
@[simp] theorem opSortedR_s {ns : List Int} : opSortedR (.d (.list (ns.map PyData.int))) = some (.new (.l ((sortD ns).map PyData.int))) := by
  unfold opSortedR
  dsimp only
  rw [ints?_map]
  rfl
theorem perm_sum {as bs : List Int} (h : as.Perm bs) : as.sum = bs.sum := by
  induction h with
  | nil => rfl
  | cons x _ ih => rw [List.sum_cons, List.sum_cons, ih]
  | swap x y l => simp only [List.sum_cons]; omega
  | trans _ _ h1 h2 => exact h1.trans h2
theorem sum_nonneg : ∀ {xs : List Int}, (∀ x, x ∈ xs → 0 ≤ x) → 0 ≤ xs.sum
  | [], _ => Int.le_refl 0
  | x :: xs, h => by
    rw [List.sum_cons]
    have := h x (List.mem_cons_self ..)
    have := sum_nonneg fun y hy => h y (List.mem_cons_of_mem x hy)
    omega
theorem mem_le_sum : ∀ {xs : List Int}, (∀ x, x ∈ xs → 0 ≤ x) → ∀ x, x ∈ xs → x ≤ xs.sum
  | y :: xs, h, x, hx => by
    rw [List.sum_cons]
    have h0 := h y (List.mem_cons_self ..)
    have h1 := sum_nonneg fun z hz => h z (List.mem_cons_of_mem y hz)
    rcases List.mem_cons.mp hx with rfl | hx
    · omega
    · have := mem_le_sum (fun z hz => h z (List.mem_cons_of_mem y hz)) x hx
      omega
end Vm
namespace Vm
open PySem L2 PySem.Spec PyProof.Rows
/-! ### texts made of plain signs -/
def Asc (z : Str) : Prop := ∀ c ∈ z.cps.toList, c < 16 ^ 8
theorem asc_of (s : String) : Asc (Str.ofString s) := fun c hc => by
  rw [signs_ofString] at hc
  obtain ⟨x, _, rfl⟩ := List.mem_map.mp hc
  have : x.toNat < 4294967296 := x.val.toNat_lt
  exact Nat.lt_of_lt_of_le this (by decide)
theorem asc_int (i : Int) : Asc (PyData.int i).shown := by
  simp only [PyData.shown]
  exact asc_of _
theorem Kd.str {β : Bool} {z : Str} {n : Nat} (h : Asc z) (hn : z.length ≤ n) : Kd β (10 * n + 2) 0 (.str z) := by
  have e := StrLaws.reprText_len z h
  refine ⟨?_, rfl, Nat.le_refl _, fun _ => rfl, fun _ => rfl⟩
  show (reprText z).length ≤ _
  omega
theorem Kd.strI {β : Bool} {k : Nat} {i : Int} (h : Bs k i) (hk : k ≤ 1918) : Kd β (10 * (k + 2) + 2) 0 (.str (PyData.int i).shown) := Kd.str (asc_int i) (Kd.int (b := true) h hk).len
theorem Kd.dict {n m : Nat} {es : List (D × D)} (h : ∀ p, p ∈ es → Kd false n 0 p.1 ∧ Kd false n m p.2) : Kd false (es.length * (2 * n + 4) + 3) (m + 1) (.dict es) := by
  have go : ∀ es : List (D × D), (∀ p, p ∈ es → Kd false n 0 p.1 ∧ Kd false n m p.2) → ((PyData.shownKv es).map (·.length)).sum ≤ es.length * (2 * n + 2) ∧ (PyData.shownKv es).length = es.length ∧ PyData.showableKv es = true ∧ PyData.depthKv es ≤ m ∧ noLsKv es = true := by
    intro es
    induction es with
    | nil => exact fun _ => ⟨Nat.zero_le _, rfl, rfl, Nat.zero_le _, rfl⟩
    | cons p es ih =>
      intro h
      obtain ⟨k, v⟩ := p
      obtain ⟨a, b, c, d, e⟩ := ih fun q hq => h q (List.mem_cons_of_mem _ hq)
      obtain ⟨h1, h2⟩ := h (k, v) (List.mem_cons_self ..)
      have l1 := h1.len
      have l2 := h2.len
      have dk := h1.dp
      refine ⟨?_, ?_, ?_, ?_, ?_⟩
      · simp only [PyData.shownKv, List.map_cons, List.sum_cons, List.length_cons, Nat.add_mul]
        rw [Str.length_append, Str.length_append]
        have : ((": " : String) : Str).length = 2 := rfl
        have l1 : k.shown.length ≤ n := l1
        have l2 : v.shown.length ≤ n := l2
        omega
      · simp only [PyData.shownKv, List.length_cons, b]
      · simp only [PyData.showableKv, c, h1.sh, h2.sh, Bool.and_self]
      · simp only [PyData.depthKv]
        have d1 : k.depth ≤ 0 := dk
        have d2 : v.depth ≤ m := h2.dp
        omega
      · have q1 : noLs k = true := h1.nl rfl
        have q2 : noLs v = true := h2.nl rfl
        simp only [noLsKv, e, q1, q2, Bool.and_self]
  obtain ⟨a, b, c, d, e⟩ := go es h
  refine ⟨?_, by simp only [PyData.showable]; exact c, Nat.succ_le_succ d, (fun z => nomatch z), fun _ => by rw [noLs]; exact e⟩
  simp only [PyData.shown]
  have := dictText_len_le (PyData.shownKv es)
  have e2 : es.length * (2 * n + 4) = es.length * (2 * n + 2) + 2 * es.length := by
    rw [show 2 * n + 4 = 2 * n + 2 + 2 by omega, Nat.mul_add, Nat.mul_comm es.length 2]
  omega
@[simp] theorem opStr_i {i : Int} (h : okr (.int i) = true) : opStr (.d (.int i)) = some (.d (.str (PyData.int i).shown)) := by
  show (if okr (.int i) = true then some (PyData.int i).shown else none).map _ = _
  rw [if_pos h]
  rfl
theorem Kd.ok {n m : Nat} {d : D} (h : Kd true n m d) (x : n ≤ 16000000) (y : m ≤ 60) : Vm.okr d = true := by
  unfold Vm.okr
  rw [Bool.and_eq_true, Bool.and_eq_true, decide_eq_true_eq]
  exact ⟨⟨okd_iff.mpr ⟨h.pl rfl, Nat.le_trans h.dp y⟩, h.sh⟩, Nat.le_trans h.len x⟩
theorem Kd.okd {n m : Nat} {d : D} (h : Kd true n m d) (y : m ≤ 60) : Vm.okd d = true := okd_iff.mpr ⟨h.pl rfl, Nat.le_trans h.dp y⟩
/-- a tuple of ints -/
theorem Kd.ints {b : Bool} {k : Nat} {ns : List Int} (hk : k ≤ 1918) (h : ∀ i, i ∈ ns → Bs k i) : Kd b (ns.length * (k + 4) + 2) 1 (.tuple (ns.map PyData.int)) := by
  have := Kd.tuple (b := b) (n := k + 2) (m := 0) (ds := ns.map PyData.int) fun d hd => by
    obtain ⟨i, hi, rfl⟩ := List.mem_map.mp hd
    exact Kd.int (h i hi) hk
  rw [List.length_map] at this
  exact this
@[simp] theorem mulNegOne {i : Int} : -1 * i = -i := by omega
end Vm
namespace Vm
open PySem L2 PySem.Spec PyProof.Rows
section
variable {prog : Program} {w : World} {A : Around} {E : Value → Shared → Prop} {s : Shared}
theorem applied_rev {sl : Addr} {vl vu vs : Value} {n : Nat} {Q : Int × Int × Nat → Shared → Prop} (hs : s.heap.IsSliceOf sl vl vu vs) (pl : IsPart vl none) (pu : IsPart vu none) (ps : IsPart vs (some (-1)))
    (h : Q ((n : Int) - 1, -1, n) s) : wpAny (model prog w) A (Builtin.Slice.sliceApplied (.ref sl) (pure (n : Int))) Q E s := by
  obtain ⟨ob, hob, hcb, hdb⟩ := id hs
  unfold Builtin.Slice.sliceApplied Builtin.Slice.sliceFields
  refine wpAny_bind (wpAny_bind (wpAny_field hob hdb (x := vl) rfl (wpAny_bind (wpAny_field hob hdb (x := vu) rfl (wpAny_bind (wpAny_field hob hdb (x := vs) rfl (wpAny_pure ?_)))))))
  refine wpAny_bind (HT.slicePart_ ps ?_)
  show wpAny _ _ (if ((-1 : Int) == 0) = true then _ else _) _ _ s
  rw [if_neg (by decide)]
  refine wpAny_bind (HT.slicePart_ pl (wpAny_bind (HT.slicePart_ pu (wpAny_bind (wpAny_pure ?_)))))
  show wpAny _ _ (match Builtin.Slice.sliceAdjust none none (-1) (n : Int) with | (a, b) => pure (a, (-1 : Int), Builtin.Slice.slicePlaces a b (-1))) _ _ s
  have e1 : Builtin.Slice.sliceAdjust none none (-1) (n : Int) = ((n : Int) - 1, -1) := rfl
  have e2 : Builtin.Slice.slicePlaces ((n : Int) - 1) (-1) (-1) = n := by
    unfold Builtin.Slice.slicePlaces
    have q1 : ¬ ((-1 : Int) > 0) := by decide
    simp only [q1, if_false]
    by_cases hn : (-1 : Int) < (n : Int) - 1
    · simp only [hn, if_true]
      rw [show (- -1 : Int) = 1 by decide, Int.ediv_one]
      omega
    · simp only [hn, if_false]
      omega
  rw [e1]
  show wpAny _ _ (pure ((n : Int) - 1, (-1 : Int), Builtin.Slice.slicePlaces ((n : Int) - 1) (-1) (-1))) _ _ s
  rw [e2]
  exact wpAny_pure h
theorem fm_congr {α β : Type} {f g : α → Option β} : ∀ {l : List α}, (∀ m, m ∈ l → f m = g m) → l.filterMap f = l.filterMap g
  | [], _ => rfl
  | x :: l, h => by
    rw [List.filterMap_cons, List.filterMap_cons, h x (List.mem_cons_self ..), fm_congr fun m hm => h m (List.mem_cons_of_mem _ hm)]
theorem pick_rev (xs : Array Value) : ((List.range xs.size).filterMap fun (m : Nat) => xs[(((xs.size : Nat) : Int) - 1 + (m : Int) * (-1)).toNat]?).toArray = xs.toList.reverse.toArray := by
  have e : (List.range xs.size).filterMap (fun (m : Nat) => xs[(((xs.size : Nat) : Int) - 1 + (m : Int) * (-1)).toNat]?) = ((List.range xs.size).map (fun k => xs.size - 1 - k)).filterMap (xs[·]?) := by
    rw [List.filterMap_map]
    refine fm_congr fun m hm => ?_
    have hm := List.mem_range.mp hm
    show xs[_]? = xs[xs.size - 1 - m]?
    congr 1
    omega
  rw [e, PySem.W.krv_range, List.filterMap_reverse, PySem.W.krv_all]
theorem getItem_tuple_rev {t sl : Addr} {items : Array Value} {vl vu vs : Value} {Q : Value → Shared → Prop} (ht : IsTup s.heap t items) (hs : s.heap.IsSliceOf sl vl vu vs) (pl : IsPart vl none) (pu : IsPart vu none) (ps : IsPart vs (some (-1)))
    (h : Q (.ref s.heap.objs.size) { s with heap := s.heap.push { cls := .type "tuple", data := .seq items.toList.reverse.toArray } }) (hsz : items.size ≤ sizeLine) : wpAny (model prog w) A (getItem (.ref t) (.ref sl)) Q E s := by
  have hz : sizeOk (.seq items.toList.reverse.toArray) := by
    show items.toList.reverse.toArray.size ≤ sizeLine
    rw [List.size_toArray, List.length_reverse, Array.length_toList]
    exact hsz
  obtain ⟨ob, hob, hcb, hdb⟩ := id hs
  have ty : s.TypeIs (.ref sl) "slice" := ⟨ob, hob, hcb⟩
  unfold getItem
  try with_reducible refine wpAny_holding ?_
  first | refine wpAny_bind (wpAny_pure ?_) | skip
  refine wpAny_bind (wpAny_sequenceKey ht.typeIs (by decide) ?_)
  refine wpAny_bind (wpAny_callSpecial?_slot (name := Str.ofString "__getitem__") ht.typeIs PyProof.Rows.slot_tuple_getitem (wpAny_call_entry PyProof.Rows.slot_tuple_getitem ht.typeIs entry_tuple_getitem ?_ (args_tuple_getitem _ _)))
  show wpAny _ _ (Builtin.Tuple.tupleItemsOf (.ref t) >>= _) _ _ s
  refine wpAny_bind (tupleItemsOf_ ht ?_)
  refine wpAny_bind (wpAny_typeOf ty ?_)
  rw [if_pos (by decide)]
  refine wpAny_bind (applied_rev hs pl pu ps ?_)
  have no : ¬ ((((items.size : Nat) : Int) - 1 == 0 && (-1 : Int) == 1 && items.size == items.size) = true) := by
    intro q
    rw [Bool.and_eq_true, Bool.and_eq_true] at q
    exact absurd q.1.2 (by decide)
  show wpAny _ _ (if (((items.size : Nat) : Int) - 1 == 0 && (-1 : Int) == 1 && items.size == items.size) = true then _ else _) _ _ s
  rw [if_neg no, pick_rev]
  first
    | exact wpAny_bind (m := Builtin.Tuple.tupleExact _) (wpAny_newObj_type (wpAny_pure ⟨_, rfl, wpAny_pure h⟩) hz)
    | exact wpAny_bind (m := Builtin.Tuple.tupleExact _) (wpAny_newObj_type (wpAny_bind (wpAny_pure (wpAny_pure ⟨_, rfl, wpAny_pure h⟩))) hz)
    | exact wpAny_bind (wpAny_bind (m := Builtin.Tuple.tupleExact _) (wpAny_newObj_type (wpAny_pure (wpAny_pure ⟨_, rfl, wpAny_pure h⟩)) hz))
    | exact wpAny_bind (wpAny_bind (m := Builtin.Tuple.tupleExact _) (wpAny_newObj_type (wpAny_pure ⟨_, rfl, wpAny_pure h⟩) hz))
end
def tRevA (K : Fg) (te : TE) : TE := fun σ H Q => te σ H fun x H1 => ∃ a xs, x = .ref a ∧ ((SqL K H1 a xs ∧ ∀ p, H1 p = none → Q (.ref p) (upd H1 p (.lst xs.reverse))) ∨ (SqT K H1 a xs ∧ ∀ p, H1 p = none → Q (.ref p) (upd H1 p (.tup xs.reverse))))
theorem pe_revA {X : Cx} {e : Expr} {te : TE} {k : Nat} {p1 p2 p3 pos : Pos} (he : PE X e te) : PE X (.Subscript e (.Slice none none (some (.UnaryOp .USub (.Constant (.int 1) k p1) p2)) p3) pos) (tRevA X.K te) := by
  refine ⟨fun pins s σ H Q I h => ?_⟩
  refine Subscript_ (thn (he.run pins s σ H _ I h) fun v s1 ⟨x, H1, I1, r1, q1⟩ => ?_)
  obtain ⟨a, xs, ex, q1⟩ := q1
  subst ex
  cases r1
  have hst : PO X (some (.UnaryOp .USub (.Constant (.int 1) k p1) p2)) (tPart (tUn (rU fun i => .int (-i)) (tC (.int 1)))) := po_some (pe_un un_neg pe_int)
  refine wpAny_Slice (thn (po_none.run pins s1 σ H1 (fun o H2 => o = none ∧ H2 = H1) I1 ⟨rfl, rfl⟩) fun vl s2 ⟨l, H2, I2, pl, el, e2⟩ => ?_)
  subst el e2
  refine thn (po_none.run pins s2 σ H2 (fun o H3 => o = none ∧ H3 = H2) I2 ⟨rfl, rfl⟩) fun vu s3 ⟨u, H3, I3, pu, eu, e3⟩ => ?_
  subst eu e3
  refine thn (hst.run pins s3 σ H3 (fun o H4 => o = some (-1) ∧ H4 = H3) I3 ⟨1, rfl, -1, rfl, rfl, rfl⟩) fun vs s4 ⟨o, H4, I4, ps, eo, e4⟩ => ?_
  subst eo e4
  have I5 : Inv X pins σ H4 { s4 with heap := s4.heap.push { cls := .type "slice", data := .fields #[vl, vu, vs] } } := I4.kept (t' := s4.toks) fun b ob q => Heap.get?_push_of_some _ q
  show wpAny (model X.prog X.w) X.A (subscriptTail e (.Slice none none (some (.UnaryOp .USub (.Constant (.int 1) k p1) p2)) p3) (.ref a) (.ref s4.heap.objs.size)) (EP X pins σ Q) X.xe { s4 with heap := s4.heap.push { cls := .type "slice", data := .fields #[vl, vu, vs] } }
  rcases q1 with ⟨hx, q⟩ | ⟨hx, q⟩
  · obtain ⟨its, r, ht, hz⟩ := I5.list hx
    have hl := r.length
    refine tail_any (ops := [.ref a, .ref s4.heap.objs.size]) ht.isList.typeIs (PySem.slot_list_getitem.lookup) ?_ (by with_unfolding_all rfl)
    refine wpAny_getItem_list_slice ht.isList (Heap.IsSliceOf.new _ vl vu vs) pl pu ps (by decide) ?_ (by rw [List.size_toArray]; omega)
    rw [PySem.W.krv_pick]
    refine ⟨.ref _, _, I5.laid (t' := s4.toks) (o := .lst xs.reverse) (fun b ob q => Heap.get?_push_of_some _ q) (Nat.le_refl _) ?_, rfl, q _ (I5.hok.fresh (Nat.le_refl _))⟩
    exact ⟨by rw [List.length_reverse]; exact hz, _, 0, r.reverse, Heap.get?_push_size _ rfl⟩
  · obtain ⟨its, r, ht, hz⟩ := I5.tuple hx
    have hl := r.length
    refine tail_any (ops := [.ref a, .ref s4.heap.objs.size]) ht.typeIs (PyProof.Rows.slot_tuple_getitem.lookup) ?_ (by with_unfolding_all rfl)
    refine getItem_tuple_rev ht (Heap.IsSliceOf.new _ vl vu vs) pl pu ps ?_ (by rw [List.size_toArray]; omega)
    refine ⟨.ref _, _, I5.laid (t' := s4.toks) (o := .tup xs.reverse) (fun b ob q => Heap.get?_push_of_some _ q) (Nat.le_refl _) ?_, rfl, q _ (I5.hok.fresh (Nat.le_refl _))⟩
    exact ⟨by rw [List.length_reverse]; exact hz, its.reverse, r.reverse, ⟨_, Heap.get?_push_size _ rfl, rfl, _, rfl⟩⟩
def opRevA : Od → Option Rv
  | .d (.list ds) => some (.new (.l ds.reverse))
  | .d (.tuple ds) => some (.d (.tuple ds.reverse))
  | _ => none
section
variable {X : Cx} {ec : EC} {W : WX}
theorem e_revA {e : Expr} {c : CE} {k : Nat} {p1 p2 p3 pos : Pos} (he : Ex X ec W e c) : Ex X ec W (.Subscript e (.Slice none none (some (.UnaryOp .USub (.Constant (.int 1) k p1) p2)) p3) pos) (cOp1 opRevA c) :=
  (pe_revA he).imp fun _ _ _ h => op1 (K := X.K) (r := fun x H Q => ∃ a xs, x = .ref a ∧ ((SqL X.K H a xs ∧ ∀ p, H p = none → Q (.ref p) (upd H p (.lst xs.reverse))) ∨ (SqT X.K H a xs ∧ ∀ p, H p = none → Q (.ref p) (upd H p (.tup xs.reverse))))) (fun w x o rv Q hx h e q => by
    unfold opRevA at e
    split at e
    · cases e
      obtain ⟨p, vs, rfl, hs, ra⟩ := h.list hx
      exact ⟨p, vs, rfl, .inl ⟨hs, fun p' hp => post_lst q ra.reverse hp hx⟩⟩
    · cases e
      obtain ⟨p, vs, rfl, hs, ra⟩ := h.tup
      exact ⟨p, vs, rfl, .inr ⟨SqT.of (hx _ _ hs), fun p' hp => post_tup q ra.reverse hp hx⟩⟩
    · cases e) h
end
@[simp] theorem opRevA_l {ds : List D} : opRevA (.d (.list ds)) = some (.new (.l ds.reverse)) := Eq.trans rfl rfl
@[simp] theorem opRevA_t {ds : List D} : opRevA (.d (.tuple ds)) = some (.d (.tuple ds.reverse)) := Eq.trans rfl rfl
theorem ok_0 {x : D} {v : List Sl} {Q : Rv → List Cell → Prop} {m : List Cell} (h : Q (.d x) []) : Ok (fin [] (.rt (.d x) ⟨v, m⟩)) Q := ok_d h
theorem w_rD {P : Po} {s : S} {e : CE} {x : D} (m1 : List Cell) (h : ∃ v, Is (e s) (.ok (.d x) ⟨v, m1⟩)) (q : ∀ v, P.rt (.d x) ⟨v, m1⟩) : Wp (cRet e) P s := by
  obtain ⟨v, h⟩ := h
  exact w_ret h (q v)
end Vm
namespace Vm
open PySem PySem.Spec PyProof.Rows L2
/-! ### an exception that was caught is known from then on -/
section
variable {X : Cx} {pins : List (Addr × Obj)} {σ τ : L2.St} {H G : Hp} {s t : Shared} {a C : Addr} {oe : Obj}
theorem inv_know (I : Inv X pins σ H s) (I0 : Inv X pins τ G t) (h0 : t.heap.get? a = none) (na : H a = none) (J : PySem.W.InstAt s.heap a oe C none) : Inv X pins σ (upd H a (ExO a C)) s := by
  have other : ∀ {b : Addr} {u : HO}, H b = some u → upd H a (ExO a C) b = some u := fun {b u} e => by
    rw [upd_ne (ne_of_none e na)]
    exact e
  have live : ∀ {b : Addr}, (∃ o, t.heap.get? b = some o) → b ≠ a := fun {b} ⟨o, e⟩ z => by
    rw [z, h0] at e
    cases e
  have off : ∀ {b : Addr}, b ≠ a → upd H a (ExO a C) b = H b := fun {b} h => upd_ne h
  have inst : ∀ {b : Addr} {o : Obj}, X.s_0.heap.get? b = some o → b ∉ X.ex → b ≠ a := fun {b o} e hx => live (I0.base.there b o e hx)
  refine ⟨I.ok, I.os, I.bare, ⟨I.base.keep, I.base.slot, fun b o e n hx => ?_, I.base.there, fun b xs e => other (I.base.tups b xs e), fun b o u e => other (I.base.frzs b o u e), fun b ps e => ?_⟩, I.loc, I.cell, ?_, fun y c e => ?_, fun p hp => ?_, fun b u e => ?_, I.len⟩
  · rw [off (inst e hx)]
    exact I.base.free b o e n hx
  · obtain ⟨more, z⟩ := I.base.tbls b ps e
    exact ⟨more, other z⟩
  · obtain ⟨m, ⟨oL, _, _, e1, _⟩, _⟩ := I0.loc
    rw [off (live ⟨_, e1⟩)]
    exact I.free
  · obtain ⟨v, o, e1, _⟩ := I0.cell y c e
    rw [off (live ⟨_, e1⟩)]
    exact I.freeC y c e
  · obtain ⟨z1, z2, z3⟩ := I.pin p hp
    refine ⟨z1, ?_, z3⟩
    rw [off (live ⟨_, (I0.pin p hp).1⟩)]
    exact z2
  · by_cases hb : b = a
    · subst hb
      rw [upd_same] at e
      cases e
      exact ⟨⟨oe, J⟩, ⟨oe, J.at_⟩, fun h1 h2 ⟨o, j⟩ st => ⟨o, ⟨st _ j.at_, j.cls, j.no, by
        have q := j.dict
        cases hd : o.dict with
        | none => trivial
        | some dx =>
          rw [hd] at q
          exact q.elim⟩⟩⟩
    · rw [upd_ne hb] at e
      exact (I.hok b u e).stay (fun _ _ _ q => q) (fun _ q => other q) fun _ _ q => other q
end
/-- wished of an exception that 'except x as n' may take: its object is kept at j, then n goes -/
def wKeep (K : Fg) (c : Value) (i j : Nat) (Wo : WX) (D : Ends) : WX := fun cls d σ H =>
  ∃ b, PySem.W.exmOne K cls c = some b ∧ (b = true → d = none ∧ ∃ C, cls = .ref C ∧ ∀ a, H a = none → D.nx (((σ.set i (some (.ref a))).set j (some (.ref a))).set i none) (upd H a (ExO a C))) ∧ (b = false → Wo cls d σ H)
section
variable {X : Cx} {x n y : Str} {c : Value} {i j : Nat} {body : List Stmt} {np p1 p2 p3 pos pos' : Pos} {tb : WX → TS} {Wo : WX}
theorem ps_try_keep (st : X.stack = X.env :: X.outer) (fr : X.env.frame = some X.env.locals) (hN : X.N.Nodup) (hi : X.N[i]? = some n) (hj : X.N[j]? = some y) (kn : X.env.kindOf n = some .local) (ky : X.env.kindOf y = some .local) (hc : Names X x c) (tk : Takes X Wo)
    (hdn : (n == ("__debug__" : Str)) = false) (hcn : (n == ("__classdict__" : Str)) = false)
    (hb : ∀ (W : WX) (pn : List (Addr × Obj)) (xe : Value → Shared → Prop), Takes (X.tr pn xe) W → PassesOwn (model X.prog X.w) X.A X.env xe → PSs (X.tr pn xe) body (tb W)) :
    PS X (.Try body [.ExceptHandler (some (.Name x np)) (some n) [.Assign [.Name y p1] (.Name n p2) p3] pos'] [] [] pos) (fun D σ H => tb (wKeep X.K c i j Wo D) D σ H) := by
  constructor
  intro pins s σ H D I h
  have okX := I.ok
  have afr : X.A.frames = some (X.env :: X.outer) := by rw [okX.frames, st]
  have vn : Vis X.env.scope n := .inl kn
  have ln : L2.Loc X.env.scope n := .inl kn
  refine wpAny_Try_except ?_
  refine wpAny_mono ((hb (wKeep X.K c i j Wo D) (X.pn ++ pins) (fun v t1 => wpAny (model X.prog X.w) X.A (noteFrame v X.env) (fun _ t2 => wpAny (model X.prog X.w) X.A (setFlight v none) (fun _ t3 =>
    wpAny (model X.prog X.w) X.A (handleBy v X.env [.ExceptHandler (some (.Name x np)) (some n) [.Assign [.Name y p1] (.Name n p2) p3] pos']) (SP X pins D) X.xe t3) X.xe t2) X.xe t1) (fun u t z => ?_) PassesOwn.looking).run [] s σ H D (I.toTry _) h) (fun fl t hz => ?_) (fun v t z => z)
  · obtain ⟨a, B, tI, pins', τ, G, cls, d, rfl, J', nb, up, sky, na, os, ag, b, hb1, hyes, hno⟩ := z
    have J : Inv X pins τ G tI := J'.ofTry okX
    have sky2 : Sky B (X.env :: X.outer) a (Zc cls d) X.env.locals t.heap := by rw [← st]; exact sky
    show wpAny (model X.prog X.w) X.A (noteFrame (.ref a) X.env) _ _ _
    refine Sky.land Zc.steady afr fr sky2 fun g1 fl1 up1 => ?_
    have J1 : Inv X pins τ G { t with heap := g1 } := J.landed nb fl1.1 (up.trans up1) os ag
    obtain ⟨oe1, vs1, at1, zc1, dd1⟩ := fl1.there
    have aFr : a ∉ frs (X.env :: X.outer) := fun hm => by
      obtain ⟨_, o', e', hnf⟩ := fl1.2.2.1.mem hm
      rw [at1] at e'
      cases e'
      exact hnf _ dd1
    have aL : a ≠ X.env.locals := fun z => aFr (List.mem_filterMap.mpr ⟨X.env, List.mem_cons_self, by rw [fr, z]⟩)
    have aF : a ∉ X.fs := fun hm => by
      obtain ⟨e, he, q⟩ := List.mem_filterMap.mp hm
      exact aFr (List.mem_filterMap.mpr ⟨e, List.mem_cons_of_mem _ he, q⟩)
    have aNew : tI.heap.get? a = none := by
      cases q : tI.heap.get? a with
      | none => rfl
      | some o =>
        have e1 := nb a o q (by rw [st]; exact aFr)
        rw [fl1.2.1] at e1
        cases e1
    have S1 := J1.suite at1 dd1 na aL aF
    refine wpAny_handleBy_cons (codeAny_handlers_test ?_) (by intro q; cases q)
    have ty1 : PySem.W.Looks (model X.prog X.w) g1 (typeOf (.ref a)) cls := fun A Q E s k q => wpAny_typeOf_ref (k _ _ at1) (by rw [zc1.1]; exact q)
    have ma := PySem.W.exm_one (M := model X.prog X.w) (J1.kIn) ty1 hb1
    have tst : ∀ {Q : Value → Shared → Prop} {E : Value → Shared → Prop}, Q c { t with heap := g1 } → wpAny (model X.prog X.w) (X.A.mark (some (.ref a))) (eval (.Name x np) X.env) Q E { t with heap := g1 } := fun {Q E} q => by
      obtain ⟨g, nd, hm | ⟨hm, hv, hnn⟩⟩ := hc
      · exact ld_glob (X := X.suite a ((a, oe1) :: (X.pn ++ pins))) S1 g hm q nd
      · exact ld_blt (X := X.suite a ((a, oe1) :: (X.pn ++ pins))) S1 g hm hv q hnn nd
    refine tst (ma.here ?_)
    cases b with
    | true =>
      refine codeAny_handlers_suite_as ?_
      refine HandSPX.lands_againZ fl1 fun g2 fl2 up2 => ?_
      have J2 : Inv X pins τ G { t with heap := g2 } := J.landed nb fl2.1 ((up.trans up1).trans up2) os ag
      obtain ⟨oe2, vs2, at2, zc2, dd2⟩ := fl2.there
      have S2 := J2.suite at2 dd2 na aL aF
      obtain ⟨ed, CC, ec, hgo⟩ := hyes rfl
      subst ed ec
      refine store_ok (X := X.suite a ((a, oe2) :: (X.pn ++ pins))) (v := .ref a) S2 hN hi ln rfl (fun s5 S5 => ?_) (.inr kn)
      have keep : PSs (X.suite a ((a, oe2) :: (X.pn ++ pins))) [.Assign [.Name y p1] (.Name n p2) p3] _ := pss_one (ps_set (X := X.suite a ((a, oe2) :: (X.pn ++ pins))) (i := j) hN hj (.inl ky) (pe_var (X := X.suite a ((a, oe2) :: (X.pn ++ pins))) (i := i) (pos := p2) hi vn hdn hcn) rfl (.inr ky))
      refine wpAny_mono (keep.run [] s5 _ G { nx := fun σ' H' => σ' = ((τ.set i (some (.ref a))).set j (some (.ref a))) ∧ H' = G, rt := fun _ _ => False } S5 ?_) (fun f s6 hz6 => ?_) (fun _ _ z => False.elim z)
      · have hl : i < τ.length := by
          rw [J2.len]
          exact (List.getElem?_eq_some_iff.mp hi).1
        exact ⟨.ref a, List.getElem?_set_self hl, rfl, rfl⟩
      · cases f with
        | next =>
          obtain ⟨σ6, H6, S6, e1, e2⟩ := hz6
          subst e1 e2
          refine gone_ok (X := X.suite a ((a, oe2) :: (X.pn ++ pins))) S6 hN hi kn fun s7 S7 => ?_
          have hp := S7.pin (a, oe2) (List.mem_append.mpr (.inl List.mem_cons_self))
          have JJ : PySem.W.InstAt s7.heap a oe2 CC none := by
            obtain ⟨oc, od, oda, osl⟩ := oe2
            obtain ⟨h1, h2⟩ := zc2
            dsimp only at h1 h2 dd2
            subst h1 h2 dd2
            exact ⟨hp.1, rfl, rfl, trivial⟩
          exact ⟨_, _, inv_know (S7.unsuite okX) J aNew na JJ, hgo a na⟩
        | brk =>
          obtain ⟨_, _, _, q6⟩ := hz6
          exact q6.elim
        | cont =>
          obtain ⟨_, _, _, q6⟩ := hz6
          exact q6.elim
        | ret u =>
          obtain ⟨_, _, _, _, _, q6⟩ := hz6
          exact q6.elim
    | false =>
      show wpAny _ X.A (handleBy (.ref a) X.env []) _ _ _
      refine wpAny_handleBy_nil ?_
      obtain ⟨k1, k2, k3, o9, v9, T9, oT9, t9, he9, hz9, hd9, h19, hr9⟩ := id fl1
      unfold PySem.passOn
      refine wpAny_bind (wpAny_field he9 hd9 h19 ?_)
      rw [if_neg (show ¬ ((Value.ref T9 == Value.none) = true) from by simp)]
      have up9 : wpAny (model X.prog X.w) X.A (setFlight (.ref a) X.env.frame) (fun _ t4 => wpAny (model X.prog X.w) X.A (throw (.ref a) : Sem Flow) (SP X pins D) X.xe t4) X.xe { t with heap := g1 } := by
        rw [fr]
        refine HandSPX.setFlight_upZ fl1 fun g4 hh4 up4 => wpAny_throw (tk _ _ ?_)
        exact ⟨a, B, tI, pins, τ, G, cls, d, rfl, J, nb, (up.trans up1).trans up4, .inr (.inr (by rw [st]; exact hh4)), na, os, ag, hno rfl⟩
      first
        | exact wpAny_bind (wpAny_pure (wpAny_bind up9))
        | exact wpAny_bind up9
  · cases fl with
    | next =>
      obtain ⟨τ, G, J', q⟩ := hz
      exact wpAny_execs_nil ⟨τ, G, J'.ofTry okX, q⟩
    | brk =>
      obtain ⟨τ, G, J', q⟩ := hz
      exact ⟨τ, G, J'.ofTry okX, q⟩
    | cont =>
      obtain ⟨τ, G, J', q⟩ := hz
      exact ⟨τ, G, J'.ofTry okX, q⟩
    | ret u =>
      obtain ⟨v, τ, G, J', r, q⟩ := hz
      exact ⟨v, τ, G, J'.ofTry okX, r, q⟩
end
end Vm
namespace Vm
open PySem PySem.Spec PyProof.Rows L2
/-! ### isinstance of an exception that was kept -/
/-- the classes of the program's exceptions -/
def isSub (m n : String) : Bool := m == n || n == "BallError" || n == "ValueError"
def rIsX (K : Fg) : List V → Hp → VK → Prop := fun xs H Q => ∃ (a C : Addr) (c : V) (cv : Value) (b : Bool), xs = [.ref a, c] ∧ H a = some (ExO a C) ∧ ExcC K C ∧ ClsV c cv ∧ PySem.W.kitOne K (.ref C) cv = some b ∧ Q (.bl b) H
theorem call_isX {X : Cx} : CallR X (.builtin "isinstance") (rIsX X.K) := by
  intro pins s σ H xs us Q I r h
  obtain ⟨a, C, c, cv, b, rfl, hH, cl, k, e, q⟩ := h
  obtain ⟨u1, u2, rfl, r1, r2⟩ := vals2 r
  have e2 := k.eq r2
  subst e2
  cases (show u1 = Value.ref a from r1)
  obtain ⟨⟨oe, J⟩, _, _⟩ := I.hok a _ hH
  exact PySem.W.kia_one (PySem.W.handS_kitx_exc cl.hg cl.hk cl.hs cl.hd cl.ha cl.hn cl.ht cl.hm) I.kIn J e (fun z => nomatch z) fun tk => ⟨.bl b, H, I.tok tk, rfl, q⟩
/-- what isinstance says of the known exceptions and the class x -/
structure IsF (K : Fg) (mg : Str → Option Value) (ec : EC) (x : Str) (n : String) : Prop where
  ex : ∃ v c, ClsV v c ∧ (mg x = some c ∨ (mg x = none ∧ bootBuiltins x = some c ∧ x ≠ "__name__")) ∧ ∀ m, m ∈ ec.X → PySem.W.kitOne K (.ref (ec.f m)) c = some (isSub m n)
theorem clsV_rel {v : V} {c : Value} (h : ClsV v c) : RelV v c := by
  cases h <;> rfl
theorem isF_own {K : Fg} {mg : Str → Option Value} {ec : EC} {x : Str} {n : String} {D : Addr} (h : mg x = some (.ref D)) (k : ∀ m, m ∈ ec.X → PySem.W.kitOne K (.ref (ec.f m)) (.ref D) = some (isSub m n)) : IsF K mg ec x n := ⟨_, _, .own D, .inl h, k⟩
theorem pe_cn {X : Cx} {x : Str} {v : V} {c : Value} {pos : Pos} (hg : Gl X x) (cv : ClsV v c) (h : X.mg x = some c ∨ (X.mg x = none ∧ bootBuiltins x = some c ∧ x ≠ "__name__")) (hd : (x == ("__debug__" : Str)) = false) : PE X (.Name x pos) (tC v) := by
  rcases h with h | ⟨h1, h2, h3⟩
  · exact pe_glob hg h (clsV_rel cv) hd
  · exact pe_bltn hg h1 h2 (clsV_rel cv) h3 hd
def cIsX (i : Nat) (n : String) : CE := fun s => match s.v[i]? with
  | some (.x m) => .ok (.d (.bool (isSub m n))) s
  | _ => .bad
/-- x is None, x holds a caught exception, or a value -/
def cIsN (i : Nat) : CE := fun s => match s.v[i]? with
  | some (.x m) => .ok (.d (.bool false)) s
  | some (.d d) => .ok (.d (.bool (isNone d))) s
  | _ => .bad
section
variable {X : Cx} {ec : EC} {W : WX}
theorem e_isX (i : Nat) {y x : Str} {n : String} {p p1 p2 pos : Pos} (hm : X.mg "isinstance" = none) (F : IsF X.K X.mg ec x n) (C : ∀ m, m ∈ ec.X → ExcC X.K (ec.f m)) (hN : X.N[i]? = some y := by rfl) (hv : Vis X.env.scope y := by first | exact Or.inl rfl | exact Or.inr (Or.inl rfl) | exact Or.inr (Or.inr rfl)) (hd : (y == ("__debug__" : Str)) = false := by decide)
    (hcd : (y == ("__classdict__" : Str)) = false := by decide) (hg : Gl X "isinstance" := by rfl) (hg2 : Gl X x := by rfl) (hd2 : (x == ("__debug__" : Str)) = false := by decide) (h0 : starEach [Expr.Name x p2] X.env = (false, eval (Expr.Name x p2) X.env) :: starEach [] X.env := by rfl)
    (h1 : starEach [Expr.Name y p1, .Name x p2] X.env = (false, eval (.Name y p1) X.env) :: starEach [.Name x p2] X.env := by rfl) (h2 : (backTo pos (starEach [Expr.Name x p2] X.env)).any (·.1) = false := by rfl) : Ex X ec W (.Call (.Name "isinstance" p) [.Name y p1, .Name x p2] [] pos) (cIsX i n) := by
  obtain ⟨v, c, cv, nm, k⟩ := F.ex
  refine (pe_callB call_isX hg hm boot_isinstance (pa_cons (pe_var hN hv hd hcd) (pa_cons (pe_cn hg2 cv nm hd2) pa_nil h0) h1) (by decide) (by decide) h1 h2).imp fun σ H Q h => ?_
  obtain ⟨w, s, rfl, hr, h⟩ := h
  unfold cIsX at h
  split at h
  · rename_i m e
    obtain ⟨hm, a, e1, e2, e3⟩ := hr.slot i _ e
    exact ⟨.ref a, e1, a, ec.f m, v, c, isSub m n, rfl, e3, C m hm, cv, k m hm, h (.bl _) w (Le.refl w) hr (.bl _) .d⟩
  · exact h.elim
theorem isN_rd {i : Nat} {σ : L2.St} {H : Hp} {Q : VK} (h : rd X.K ec W (cIsN i) σ H Q) : L2.tOp (rIsV false) (tVar i) (tC .non) σ H Q := by
  obtain ⟨w, s, rfl, hr, h⟩ := h
  unfold cIsN at h
  split at h
  · rename_i m e
    obtain ⟨hm, a, e1, e2, e3⟩ := hr.slot i _ e
    exact ⟨.ref a, e1, .inl ⟨rfl, h (.bl _) w (Le.refl w) hr (.bl _) .d⟩⟩
  · rename_i d e
    obtain ⟨v, e1, rp⟩ := hr.slot i _ e
    refine ⟨v, e1, .inl ⟨rfl, ?_⟩⟩
    have q := h (.bl (isNone d)) w (Le.refl w) hr (.bl _) .d
    have eq : isNone d = decide (v = .non) := by
      cases rp <;> simp [isNone]
    rw [← eq]
    exact q
  · exact h.elim
theorem t_isN (i : Nat) {y : Str} {p1 p2 pos : Pos} {k : Nat} (hN : X.N[i]? = some y := by rfl) (hv : Vis X.env.scope y := by first | exact Or.inl rfl | exact Or.inr (Or.inl rfl) | exact Or.inr (Or.inr rfl)) (hd : (y == ("__debug__" : Str)) = false := by decide)
    (hcd : (y == ("__classdict__" : Str)) = false := by decide) : Tx X ec W (.Compare (.Name y p1) [.Is] [.Constant .none k p2] pos) (cB (cIsN i)) :=
  (pt_cmpR op_isV (pe_var hN hv hd hcd) pe_non (by first | exact nomark _ | rfl)).imp fun σ H Q h => isN_rd (cB_rd h)
theorem takesN {X : Cx} : Takes X (fun _ _ _ _ => False) := fun _ _ ⟨_, _, _, _, _, _, _, _, _, _, _, _, _, _, _, _, z⟩ => z.elim
/-! ### try: .., except x as n: y = n -/
def cTry (L : List String) (i j : Nat) (b : CS) : CS := fun s => match b s with
  | .ex e s1 => if L.contains e = true then .nx ⟨((s1.v.set i .u).set j (.x e)).set i .u, s1.m⟩ else .bad
  | o => o
structure CatF (K : Fg) (mg : Str → Option Value) (ec : EC) (x : Str) (L : List String) : Prop where
  ex : ∃ c, (mg x = some c ∨ (mg x = none ∧ bootBuiltins x = some c ∧ x ≠ "__name__")) ∧ ∀ m, m ∈ L → m ∈ ec.X ∧ PySem.W.exmOne K (.ref (ec.f m)) c = some true
theorem s_try (L : List String) (i j : Nat) {x n y : Str} {body : List Stmt} {cb : CS} {np p1 p2 p3 pos pos' : Pos} (st : X.stack = X.env :: X.outer) (fr : X.env.frame = some X.env.locals) (hN : X.N.Nodup) (tk : Takes X W) (F : CatF X.K X.mg ec x L)
    (hb : ∀ (W : WX) (pn : List (Addr × Obj)) (xe : Value → Shared → Prop), Takes (X.tr pn xe) W → PassesOwn (model X.prog X.w) X.A X.env xe → PSs (X.tr pn xe) body (rdS X.K ec W cb))
    (hi : X.N[i]? = some n := by rfl) (hj : X.N[j]? = some y := by rfl) (kn : X.env.kindOf n = some .local := by rfl) (ky : X.env.kindOf y = some .local := by rfl) (hg : Gl X x := by rfl) (hd : (x == ("__debug__" : Str)) = false := by decide)
    (hdn : (n == ("__debug__" : Str)) = false := by decide) (hcn : (n == ("__classdict__" : Str)) = false := by decide) (hij : i ≠ j := by decide) :
    Sx X ec W (.Try body [.ExceptHandler (some (.Name x np)) (some n) [.Assign [.Name y p1] (.Name n p2) p3] pos'] [] [] pos) (cTry L i j cb) := by
  obtain ⟨c, nm, kx⟩ := F.ex
  refine (ps_try_keep (c := c) (Wo := fun _ _ _ _ => False) st fr hN hi hj kn ky ⟨hg, hd, nm⟩ takesN hdn hcn hb).imp fun D σ H h => ?_
  obtain ⟨w, s, rfl, hr, h⟩ := h
  refine ⟨w, s, rfl, hr, ?_⟩
  unfold cTry at h
  cases eb : cb s with
  | bad => rw [eb] at h; exact h
  | nx s1 => rw [eb] at h; exact h
  | rt a s1 => rw [eb] at h; exact h
  | bk s1 => rw [eb] at h; exact h
  | ct s1 => rw [eb] at h; exact h
  | ex e s1 =>
    rw [eb] at h
    by_cases hL : L.contains e = true
    · simp only [hL, if_true] at h
      obtain ⟨m1, m2⟩ := kx e (by simpa using hL)
      intro σ' w' le r
      refine ⟨true, m2, fun _ => ⟨rfl, _, rfl, fun a na => ?_⟩, fun z => nomatch z⟩
      have g := gr_new (w := w') (o := ExO a (ec.f e)) na
      have nr : a ∉ w'.r := fun m => by
        obtain ⟨o, ho⟩ := r.live m
        rw [na] at ho
        cases ho
      have r1 := ((r.grow g).set i (x := .ref a) (sl := .u) trivial).set j (x := .ref a) (sl := .x e) ⟨m1, a, rfl, nr, upd_same⟩
      exact h _ ⟨w'.G, w'.r, w'.F, upd w'.H a (ExO a (ec.f e))⟩ (le.trans g.le) (rel_wipe r1 [i])
    · simp only [hL, if_false] at h
      exact h.elim
end
end Vm
namespace Vm
open PySem L2 PySem.Spec PyProof.Rows
/-! ### sorted(xs), ints -/
def sortA (ns : List Int) : List Int := (sortD ns).reverse
def opSorted : Od → Option Rv
  | .d (.list ds) => (ints? ds).bind fun ns => some (.new (.l ((sortA ns).map PyData.int)))
  | _ => none
end Vm
namespace Vm
open PySem PySem.Spec PyProof.Rows L2
/-! ### a lambda without parameters, handed to a def that asks it -/
def cAsk (ask : List Cell → RF) : CE := fun s => match s.v[0]? with
  | some Sl.f => (ask s.m).toR s.v
  | _ => .bad
abbrev EC.at (ec : EC) (w : Wd) (lf : Addr) : EC := { ec with w := w, lf := lf }
end Vm
namespace Vm
open PySem L2 PySem.Spec PyProof.Rows
/-! ### defs that hold lambdas -/
theorem IsF.at {K : Fg} {mg : Str → Option Value} {ec : EC} {x : Str} {n : String} (F : IsF K mg ec x n) {w : Wd} {f : Addr} : IsF K mg (ec.at w f) x n := ⟨F.ex⟩
theorem CatF.at {K : Fg} {mg : Str → Option Value} {ec : EC} {x : Str} {L : List String} (F : CatF K mg ec x L) {w : Wd} {f : Addr} : CatF K mg (ec.at w f) x L := ⟨F.ex⟩
end Vm
namespace Vm
open PySem L2
/-! ### what a def that asks tells -/
@[simp] theorem cAsk_s {ask : List Cell → RF} {v : List Sl} {m : List Cell} : cAsk ask ⟨.f :: v, m⟩ = (ask m).toR (.f :: v) := rfl
theorem cTry_nx {L : List String} {i j : Nat} {b : CS} {s s' : S} (h : b s = .nx s') : cTry L i j b s = .nx s' := by
  unfold cTry
  rw [h]
theorem cTry_ex {L : List String} {i j : Nat} {b : CS} {s s' : S} {n : String} (h : b s = .ex n s') (hn : L.contains n = true) : cTry L i j b s = .nx ⟨((s'.v.set i .u).set j (.x n)).set i .u, s'.m⟩ := by
  unfold cTry
  rw [h]
  simp only [hn, if_true]
theorem cIsN_d {i : Nat} {v : List Sl} {m : List Cell} {d : D} (h : v[i]? = some (.d d)) : cIsN i ⟨v, m⟩ = .ok (.d (.bool (isNone d))) ⟨v, m⟩ := by
  unfold cIsN
  dsimp only
  rw [h]
end Vm
namespace Vm
open PySem L2
/-! ### lists of numbers, sorted -/
theorem sortD_len {as : List Int} : (sortD as).length = as.length := (sortD_perm as).length_eq
theorem sortD_sum {as : List Int} : (sortD as).sum = as.sum := perm_sum (sortD_perm as)
theorem sortD_mem {as : List Int} {x : Int} : x ∈ sortD as ↔ x ∈ as := (sortD_perm as).mem_iff
/-! ### loads changed -/
/-! ### equality of lists of like things -/
theorem okd_seq {ds : List D} (h : ∀ d, d ∈ ds → d.plain = true ∧ d.depth ≤ 59) : okd (.list ds) = true ∧ okd (.tuple ds) = true := by
  have h1 : PyData.plainAll ds = true := by
    induction ds with
    | nil => rfl
    | cons d ds ih =>
      rw [PyData.plainAll, (h d (List.mem_cons_self ..)).1, ih fun x hx => h x (List.mem_cons_of_mem _ hx)]
      rfl
  have h2 : PyData.depthAll ds ≤ 59 := by
    clear h1
    induction ds with
    | nil => exact Nat.zero_le _
    | cons d ds ih =>
      rw [PyData.depthAll]
      have := (h d (List.mem_cons_self ..)).2
      have := ih fun x hx => h x (List.mem_cons_of_mem _ hx)
      omega
  unfold okd
  rw [Bool.and_eq_true, decide_eq_true_eq, Bool.and_eq_true, decide_eq_true_eq]
  refine ⟨⟨by rw [PyData.plain]; exact h1, ?_⟩, by rw [PyData.plain]; exact h1, ?_⟩
  · show PyData.depthAll ds + 1 ≤ 60
    omega
  · show PyData.depthAll ds + 1 ≤ 60
    omega
theorem plain_tup (ns : List Int) : (PyData.tuple (ns.map PyData.int)).plain = true ∧ (PyData.tuple (ns.map PyData.int)).depth ≤ 59 := by
  refine ⟨by rw [PyData.plain]; exact plain_ints ns, ?_⟩
  show PyData.depthAll (ns.map PyData.int) + 1 ≤ 59
  rw [PySem.W.depth_ints]
  omega
end Vm
namespace Vm
open PySem L2
/-! ### the first k together -/
theorem sum_take {xs : List Int} {i : Nat} (h : i < xs.length) : (xs.take (i + 1)).sum = (xs.take i).sum + xs[i] := by
  rw [List.take_add_one, List.getElem?_eq_getElem h, List.sum_append]
  simp
theorem ixN {xs : List Int} {i : Nat} (h : i < xs.length) : opIx (.d (.tuple (xs.map PyData.int))) (.d (.int (i : Nat))) = some (.d (.int xs[i])) := by
  have q := opIx_ti (ns := xs) (i := (i : Nat)) (by omega) (by omega)
  rw [Int.toNat_natCast, List.getD_eq_getElem?_getD, List.getElem?_eq_getElem h, Option.getD_some] at q
  exact q
theorem ixL {xs : List Int} {i : Nat} (h : i < xs.length) : opIx (.d (.list (xs.map PyData.int))) (.d (.int (i : Nat))) = some (.d (.int xs[i])) := by
  have q := opIx_li (ns := xs) (i := (i : Nat)) (by omega) (by omega)
  rw [Int.toNat_natCast, List.getD_eq_getElem?_getD, List.getElem?_eq_getElem h, Option.getD_some] at q
  exact q
theorem rangeN_get {n i : Nat} {d : D} (h : ((List.range n).map fun i : Nat => PyData.int (i : Int))[i]? = some d) : i < n ∧ d = .int (i : Nat) := by
  have hi : i < n := by
    have := (List.getElem?_eq_some_iff.mp h).1
    simpa using this
  rw [List.getElem?_map, List.getElem?_range hi] at h
  exact ⟨hi, (Option.some.inj h).symm⟩
/-! ### loads drawn by moves -/
def prI (x : Int × Int) : D := .tuple [.int x.1, .int x.2]
theorem plain_prI (x : Int × Int) : (prI x).plain = true ∧ (prI x).depth ≤ 59 := plain_tup [x.1, x.2]
/-- one ball from i to j -/
def mvL (ys : List Int) (i j : Nat) : List Int := (ys.set i (ys.getD i 0 - 1)).set j ((ys.set i (ys.getD i 0 - 1)).getD j 0 + 1)
theorem getD_get {xs : List Int} {i : Nat} (h : i < xs.length) : xs.getD i 0 = xs[i] := by rw [List.getD_eq_getElem?_getD, List.getElem?_eq_getElem h, Option.getD_some]
end Vm
namespace Vm
open PySem L2
/-! ### the order of loads, in plain words -/
theorem sum_takeD {xs : List Int} {i : Nat} (h : i < xs.length) : (xs.take (i + 1)).sum = (xs.take i).sum + xs.getD i 0 := by
  rw [sum_take h, getD_get h]
/-- ys is no emptier: its first numbers are together no fewer -/
def Maj (xs ys : List Int) : Prop := ∀ k, k ≤ xs.length → (xs.take k).sum ≤ (ys.take k).sum
/-- a list of moves leads from ys on to xs -/
def Leads : List (Nat × Nat) → List Int → List Int → Prop
  | [], ys, xs => ys = xs
  | q :: qs, ys, xs => q.1 < ys.length ∧ q.2 < ys.length ∧ ys.getD q.2 0 + 2 ≤ ys.getD q.1 0 ∧ Leads qs (sortD (mvL ys q.1 q.2)) xs
end Vm
namespace Vm
open PySem L2
def prN (q : Nat × Nat) : D := .tuple [.int (q.1 : Int), .int (q.2 : Int)]
@[simp] theorem prN_0 {q : Nat × Nat} : opIx (.d (prN q)) (.d (.int 0)) = some (.d (.int (q.1 : Int))) := rfl
@[simp] theorem prN_1 {q : Nat × Nat} : opIx (.d (prN q)) (.d (.int 1)) = some (.d (.int (q.2 : Int))) := rfl
/-! ### the next move -/
end Vm
namespace Vm
open PySem L2
def cIsShare : CS :=
 (cSeq (cIfS (tOr' (tNot' (cTru (cOp1 (opIsi "tuple") (cVar 0)))) (tOr' (cB (cOp2 opNe (cOp1 opLen (cVar 0)) (cC (.int 2)))) (tNot' (cTru (cOp1 opAll (cLc [1] (ciSeq (cVar 0)) (tgN 1) ctYes (cCallP fWhole (lCons (cVar 1) lNil))))))))
 (cRet (cC (.bool false)))
 cNx)
 (cRet (cAnd (cOp2 opGt (cOp2 opIx (cVar 0) (cC (.int 1))) (cC (.int 0))) (cOp2 opEq (cCallP fMeasure (lCons (cOp1 opAbs (cOp2 opIx (cVar 0) (cC (.int 0)))) (lCons (cOp2 opIx (cVar 0) (cC (.int 1))) lNil))) (cC (.int 1))))))
def fIsShare : Fn := runF 2 cIsShare
/-! ### what is a share -/
def shareB : D → Bool
  | .tuple [.int p, .int q] => decide (0 < q ∧ Int.gcd p q = 1)
  | _ => false
theorem len_two {α : Type} {ds : List α} (h : ds.length = 2) : ∃ x y, ds = [x, y] := by
  match ds, h with
  | [x, y], _ => exact ⟨x, y, rfl⟩
theorem meas_ok {p q : Int} (h0 : 0 < q) (hq : q.natAbs < 2 ^ 200) : fMeasure [.d (.int (if p < 0 then -p else p)), .d (.int q)] [] = .ok (.d (.int (Int.gcd p q : Nat))) [] := by
  have e := measure_ok (a := p.natAbs) (b := q.natAbs) (k := 200) hq (by decide)
  rw [abs_nat]
  rw [show ((q.natAbs : Nat) : Int) = q by omega] at e
  exact e
theorem shareB_ne {x y : D} (h : (isInt x && isInt y) = false) : shareB (.tuple [x, y]) = false := by
  cases x <;> first | rfl | skip
  cases y <;> first | rfl | simp [isInt] at h
theorem two_ints {x y : D} (h : (isInt x && isInt y) = true) : ∃ p q, x = .int p ∧ y = .int q := by
  cases x with
  | int p =>
    cases y with
    | int q => exact ⟨p, q, rfl, rfl⟩
    | _ => simp [isInt] at h
  | _ => simp [isInt] at h
theorem shareB_len {ds : List D} (h : ¬ ds.length = 2) : shareB (.tuple ds) = false := by
  unfold shareB
  split
  · rename_i e
    cases e
    exact absurd rfl h
  · rfl
theorem isShare_any {d : D} (hq : ∀ p q, d = .tuple [.int p, .int q] → q.natAbs < 2 ^ 200) : fIsShare [.d d] [] = .ok (.d (.bool (shareB d))) [] := by
  cases d with
  | tuple ds =>
    unfold fIsShare
    refine run_eq ?_
    unfold cIsShare
    by_cases h2 : ds.length = 2
    · obtain ⟨x, y, rfl⟩ := len_two h2
      have l := lc_for (own := [1]) (ci := ciSeq (cVar 0)) (tg := tgN 1) (el := cCallP fWhole (lCons (cVar 1) lNil)) (s := ⟨[.d (.tuple [x, y]), .u], []⟩) (s1 := ⟨[.d (.tuple [x, y]), .u], []⟩) (xs := [x, y]) (F := id) (fun d => PyData.bool (isInt d)) (by simp) (by simp) fun y hy => ⟨_, rfl, _, by simp [whole_d] <;> rfl⟩
      have al : opAll (.d (.list [.bool (isInt x), .bool (isInt y)])) = some (.d (.bool (isInt x && isInt y))) := by cases isInt x <;> cases isInt y <;> rfl
      cases hx : (isInt x && isInt y) with
      | false =>
        rw [hx] at al
        rw [shareB_ne hx]
        refine w_sif (x := true) (s1 := ⟨[.d (.tuple [x, y]), .u], []⟩) (by simp at l; simp [isi_t, l, al]; exact .rfl) (fun _ => ?_) fun z => nomatch z
        exact w_retS (x := .d (.bool false)) (s1 := ⟨[.d (.tuple [x, y]), .u], []⟩) (by simp; exact .rfl) (ok_0 ⟨rfl, rfl⟩)
      | true =>
        rw [hx] at al
        obtain ⟨p, q, rfl, rfl⟩ := two_ints hx
        refine st (s1 := ⟨[.d (.tuple [.int p, .int q]), .u], []⟩) (by simp at l; simp [isi_t, l, al]; exact .rfl) ?_
        have i0 : opIx (.d (.tuple [PyData.int p, .int q])) (.d (.int 0)) = some (.d (.int p)) := rfl
        have i1 : opIx (.d (.tuple [PyData.int p, .int q])) (.d (.int 1)) = some (.d (.int q)) := rfl
        have gq : ((Int.gcd p q : Nat) : Int) = 1 ↔ Int.gcd p q = 1 := by omega
        by_cases h0 : 0 < q
        · have e := meas_ok (p := p) h0 (hq p q rfl)
          refine w_rD (x := .bool (shareB (.tuple [.int p, .int q]))) [] ⟨_, by simp [i0, i1, h0, e, shareB, gq]; exact .rfl⟩ fun _ => ok_0 ⟨rfl, rfl⟩
        · exact w_rD (x := .bool (shareB (.tuple [.int p, .int q]))) [] ⟨_, by simp [i0, i1, h0, shareB]; exact .rfl⟩ fun _ => ok_0 ⟨rfl, rfl⟩
    · have h3 : ¬ ((ds.length : Int) = 2) := by omega
      rw [shareB_len h2]
      refine w_sif (x := true) (s1 := ⟨[.d (.tuple ds), .u], []⟩) (by simp [isi_t, h2, h3]; exact .rfl) (fun _ => ?_) fun z => nomatch z
      exact w_retS (x := .d (.bool false)) (s1 := ⟨[.d (.tuple ds), .u], []⟩) (by simp; exact .rfl) (ok_0 ⟨rfl, rfl⟩)
  | _ => rfl
/-! ### things -/
theorem ki {β : Bool} {i : Int} (h : Bs 60 i) : Kd β 62 0 (.int i) := Kd.int h (by decide)
theorem k1 {β : Bool} {d : D} {n m : Nat} (h : Kd β n m d) : Kd β (n + 4) (m + 1) (.tuple [d]) := (Kd.tuple (n := n) (m := m) fun d' hd => by
  rw [List.mem_singleton.mp hd]
  exact h).mono (by simp) (Nat.le_refl _)
theorem k3 {x : D} {a b : Int} (hx : Kd true 62 0 x) (ha : Bs 60 a) (hb : Bs 60 b) : Kd true 200 1 (.tuple [x, .int a, .int b]) := (Kd.tuple (n := 62) (m := 0) fun d hd => by
  simp at hd
  rcases hd with rfl | rfl | rfl
  · exact hx
  · exact ki ha
  · exact ki hb).mono (by simp) (by decide)
/-! ### lowest terms, from 0 on -/
/-! ### what is a rule -/
def ratD : D → Rat
  | .tuple [.int p, .int q] => (p : Rat) / q
  | _ => 0
theorem shareB_ex {d : D} (h : shareB d = true) : ∃ p q, d = .tuple [.int p, .int q] ∧ 0 < q ∧ Int.gcd p q = 1 := by
  unfold shareB at h
  split at h
  · rename_i p q
    have h1 := of_decide_eq_true h
    exact ⟨p, q, rfl, h1.1, h1.2⟩
  · cases h
end Vm
namespace Vm
open PySem L2
/-! ### the rules' module -/
/-! ### weights and rules drawn -/
/-- a told rule: so many shares, none below 0, of so many bits -/
def IsRl (k n : Nat) (ds : List D) : Prop := ds.length = n ∧ ∀ d, d ∈ ds → ∃ p q, d = .tuple [.int p, .int q] ∧ Sh k p q ∧ 0 ≤ p
theorem IsRl.mono {j k n : Nat} {ds : List D} (h : IsRl j n ds) (q : j ≤ k) : IsRl k n ds := ⟨h.1, fun d hd => by
  obtain ⟨p, q', e, s, z⟩ := h.2 d hd
  exact ⟨p, q', e, s.mono q, z⟩⟩
/-! ### mixtures -/
theorem IsRl.tell {k n : Nat} {ds : List D} (h : IsRl k n ds) {d : D} (hd : d ∈ ds) : Tell k d (ratD d) ∧ 0 ≤ ratD d := by
  obtain ⟨p, q, rfl, s, p0⟩ := h.2 d hd
  have hq := rat_ne s.pos
  refine ⟨⟨p, q, rfl, s, ?_⟩, ?_⟩
  · show (p : Rat) = (p : Rat) / q * q
    grind
  · show (0 : Rat) ≤ (p : Rat) / q
    have h1 : (0 : Rat) ≤ p := Rat.intCast_nonneg.mpr p0
    have h2 := rat_pos s.pos
    refine Rat.not_lt.mp fun z => ?_
    have h3 := (Rat.mul_lt_mul_right h2).mpr z
    have h4 : (p : Rat) / q * q = p := by grind
    rw [h4, Rat.zero_mul] at h3
    exact absurd h1 (Rat.not_le.mpr h3)
/-! ### the word of an exception -/
end Vm
namespace Vm
open PySem L2
/-! ### the third pen: a list -/
def penL (cells : List Int) (at' left : Int) : Cell := .l [.list (cells.map PyData.int), .int at', .int left]
structure IsPenL (B : Nat) (p : Cell) : Prop where
  ex : ∃ cells at' left, p = penL cells at' left ∧ cells.length ≤ 63 ∧ 0 ≤ at' ∧ at' ≤ B ∧ 0 ≤ left
theorem IsPenL.mono {B C : Nat} {p : Cell} (h : IsPenL B p) (hb : B ≤ C) : IsPenL C p := by
  obtain ⟨a, b, c, h1, h2, h3, h4, h5⟩ := h.ex
  exact ⟨a, b, c, h1, h2, h3, by omega, h5⟩
theorem penL_is {ns : List Int} (h : ns.length ≤ 63) : IsPenL 0 (penL ns 0 0) := ⟨ns, 0, 0, rfl, h, by decide, by decide, by decide⟩
@[simp] theorem setMR_penL {i : Nat} {a : List Int} {b c : Int} {s1 : S} : setMR i (.new (penL a b c)) s1 = .nx ⟨s1.v.set i (.c s1.m.length), s1.m ++ [penL a b c]⟩ := Eq.trans rfl rfl
@[simp] theorem pure_penL {a : List Int} {b c : Int} {m : List Cell} {s : S} : (RF.ok (.new (penL a b c)) m).pure s = .ok (.new (penL a b c)) s := Eq.trans rfl rfl
section
variable {cells : List Int} {at' left v : Int}
theorem gL0 : opIx (.d (.list [.list (cells.map PyData.int), .int at', .int left])) (.d (.int 0)) = some (.d (.list (cells.map PyData.int))) := rfl
theorem gL1 : opIx (.d (.list [.list (cells.map PyData.int), .int at', .int left])) (.d (.int 1)) = some (.d (.int at')) := rfl
theorem gL2 : opIx (.d (.list [.list (cells.map PyData.int), .int at', .int left])) (.d (.int 2)) = some (.d (.int left)) := rfl
theorem pL1 {w : List Sl} {r : List Cell} : putLR (.d (.int 1)) (.ref 0) (.d (.int v)) ⟨w, .l [.list (cells.map PyData.int), .int at', .int left] :: r⟩ = .nx ⟨w, .l [.list (cells.map PyData.int), .int v, .int left] :: r⟩ := putLR_s (n := 0) (k := 1) (v := .int v) (s3 := ⟨w, .l [.list (cells.map PyData.int), .int at', .int left] :: r⟩) (xs := [.list (cells.map PyData.int), .int at', .int left]) rfl (by decide) (by simp)
theorem pL2 {w : List Sl} {r : List Cell} : putLR (.d (.int 2)) (.ref 0) (.d (.int v)) ⟨w, .l [.list (cells.map PyData.int), .int at', .int left] :: r⟩ = .nx ⟨w, .l [.list (cells.map PyData.int), .int at', .int v] :: r⟩ := putLR_s (n := 0) (k := 2) (v := .int v) (s3 := ⟨w, .l [.list (cells.map PyData.int), .int at', .int left] :: r⟩) (xs := [.list (cells.map PyData.int), .int at', .int left]) rfl (by decide) (by simp)
end
/-! ### lowest terms, the third way -/
end Vm
namespace Vm
open PySem L2
@[simp] theorem opSorted_s {ns : List Int} : opSorted (.d (.list (ns.map PyData.int))) = some (.new (.l ((sortA ns).map PyData.int))) := by
  unfold opSorted
  dsimp only
  rw [ints?_map]
  rfl
/-! ### rules drawn, the third way -/
end Vm
namespace Vm
open PySem L2 PySem.Spec PyProof.Rows
/-! ### {} whose keys will be tuples -/
def cNewT : CE := fun s => .ok (.new (.t [])) s
def cNewR : CE := fun s => .ok (.new (.r [])) s
@[simp] theorem cNewT_s {s : S} : cNewT s = .ok (.new (.t [])) s := Eq.trans rfl rfl
@[simp] theorem cNewR_s {s : S} : cNewR s = .ok (.new (.r [])) s := Eq.trans rfl rfl
section
variable {X : Cx} {ec : EC} {W : WX}
/-! ### a dict that will not change any more is locked: from then on it is data -/
def tD (kvs : List (List L2.Key × D)) : D := .dict (tagT :: kvs.map fun p => (tupK p.1, p.2))
/-! ### for k in d, d a locked dict -/
def ciKeyT (c : CE) : CI := fun s => (cv c s).bind fun a s1 => match a with
  | .d (.dict ((.list [], .none) :: es)) => .ok (es.map (·.1)) s1
  | _ => .bad
end
end Vm
namespace Vm
open PySem L2 PySem.Spec PyProof.Rows
section
variable {ec : EC}
theorem cell_outN {K : Fg} {w : Wd} {σ : L2.St} {s : S} {n : Nat} {p : Addr} {o : HO} {d : D} (r : Rel ec K w σ s) (hn : w.r[n]? = some p) (hg : w.G p = none) (ho : w.H p = some o) (nb : NoTb o) (hd : ∀ G', Same w.G G' → G' p = some o → Rp K G' (.ref p) d) :
    Rel ec K ⟨upd w.G p o, w.r, w.F, w.H⟩ σ ⟨s.v, s.m.set n .gone⟩ ∧ Le w ⟨upd w.G p o, w.r, w.F, w.H⟩ ∧ Rp K (upd w.G p o) (.ref p) d := by
  have sg : Same w.G (upd w.G p o) := same_upd hg
  have le : Le w ⟨upd w.G p o, w.r, w.F, w.H⟩ := ⟨sg, fun _ _ e _ => ⟨_, e, fun _ => rfl⟩, List.prefix_refl _, fun _ h => .inl h, rfl⟩
  have rp := hd _ sg upd_same
  refine ⟨⟨⟨fun b u e => ?_, by show w.r.length = (s.m.set n .gone).length; rw [List.length_set]; exact r.mem.len, r.mem.nd, fun k q c h1 h2 => ?_, fun q hq => ?_, r.mem.tab, r.mem.inv.trans (le.ch _), noTG_upd r.mem.gt nb, nv_out r.mem.nv⟩, r.len, fun j sl e => ?_⟩, le, rp⟩
  · have e : upd w.G p o b = some u := e
    by_cases hb : b = p
    · subst hb
      rw [upd_same] at e
      cases e
      exact ho
    · rw [upd_ne hb] at e
      exact r.mem.ext b u e
  · have h2 : (s.m.set n .gone)[k]? = some c := h2
    by_cases hk : n = k
    · subst hk
      have hl : n < s.m.length := by rw [← r.mem.len]; exact (List.getElem?_eq_some_iff.mp hn).1
      rw [List.getElem?_set_self hl] at h2
      cases h2
      have h1 : w.r[n]? = some q := h1
      rw [hn] at h1
      cases h1
      exact ⟨o, upd_same⟩
    · rw [List.getElem?_set_ne hk] at h2
      have hq : q ≠ p := fun z => hk (nd_ix r.mem.nd hn (z ▸ h1))
      refine cOk_mono sg (fun hc => ?_) (fun _ _ e => e) (r.mem.cell k q c h1 h2)
      show upd w.G p o q = none
      rw [upd_ne hq]
      have c0 := r.mem.cell k q c h1 h2
      cases c with
      | l ds => exact c0.1
      | k kvs => exact c0.1
      | t kvs => exact c0.1
      | r ks => exact c0.1
      | i n j ds => exact c0.1
      | gone => exact absurd rfl hc
  · obtain ⟨a, b, c⟩ := r.mem.fo q hq
    refine ⟨?_, b, c⟩
    show upd w.G p o q = none
    have hne : q ≠ p := by
      intro z
      subst z
      exact b (List.mem_of_getElem? hn)
    rw [upd_ne hne]
    exact a
  · exact slOk_mono le (r.slot j sl e)
end
/-! ### d.setdefault(k, []).append(v), d a dict of lists -/
end Vm
namespace Vm
open PySem L2 PySem.Spec PyProof.Rows
/-! ### loads as keys -/
def kI (xs : List Int) : List L2.Key := xs.map Sum.inl
def ldD (xs : List Int) : D := .tuple (xs.map PyData.int)
theorem tupK_kI (xs : List Int) : tupK (kI xs) = ldD xs := by
  unfold tupK kI ldD
  rw [List.map_map]
  rfl
theorem kI_inj {x y : List Int} : kI x = kI y ↔ x = y := List.map_inj_right fun a b e => Sum.inl.inj e
theorem keysOf_kI (xs : List Int) : keysOf (xs.map PyData.int) = some (kI xs) := by
  have : xs.map PyData.int = (kI xs).map kD := by
    unfold kI
    rw [List.map_map]
    rfl
  rw [this]
  exact keysOf_kD
section
variable {β γ : Type}
def keys (F : List (List Int × β)) : List (List Int) := F.map (·.1)
def aget (F : List (List Int × β)) (k : List Int) : Option β := (F.find? fun p => decide (p.1 = k)).map (·.2)
def aput (F : List (List Int × β)) (k : List Int) (v : β) : List (List Int × β) := if (F.any fun p => decide (p.1 = k)) = true then F.map (fun p => if p.1 = k then (p.1, v) else p) else F ++ [(k, v)]
theorem aget_nil {k : List Int} : aget ([] : List (List Int × β)) k = none := rfl
theorem aget_cons {p : List Int × β} {F : List (List Int × β)} {k : List Int} : aget (p :: F) k = if p.1 = k then some p.2 else aget F k := by
  unfold aget
  rw [List.find?_cons]
  by_cases h : p.1 = k
  · simp [h]
  · simp [h]
theorem any_keys {F : List (List Int × β)} {k : List Int} : (F.any fun p => decide (p.1 = k)) = true ↔ k ∈ keys F := by
  unfold keys
  rw [List.any_eq_true, List.mem_map]
  constructor
  · rintro ⟨p, h1, h2⟩
    exact ⟨p, h1, of_decide_eq_true h2⟩
  · rintro ⟨p, h1, h2⟩
    exact ⟨p, h1, decide_eq_true h2⟩
theorem aget_isSome {k : List Int} : ∀ {F : List (List Int × β)}, (aget F k).isSome = true ↔ k ∈ keys F
  | [] => by simp [aget, keys]
  | p :: F => by
    rw [aget_cons]
    show _ ↔ k ∈ p.1 :: keys F
    rw [List.mem_cons]
    by_cases h : p.1 = k
    · simp [h]
    · rw [if_neg h, aget_isSome]
      exact ⟨.inr, fun z => z.resolve_left fun e => h e.symm⟩
theorem aget_none {F : List (List Int × β)} {k : List Int} (h : k ∉ keys F) : aget F k = none := by
  cases e : aget F k with
  | none => rfl
  | some v => exact absurd (aget_isSome.mp (by rw [e]; rfl)) h
theorem aput_old {F : List (List Int × β)} {k : List Int} {v : β} (h : k ∈ keys F) : aput F k v = F.map (fun p => if p.1 = k then (p.1, v) else p) := by
  unfold aput
  rw [if_pos (any_keys.mpr h)]
theorem aput_new {F : List (List Int × β)} {k : List Int} {v : β} (h : k ∉ keys F) : aput F k v = F ++ [(k, v)] := by
  unfold aput
  rw [if_neg fun z => h (any_keys.mp z)]
theorem keys_aput {F : List (List Int × β)} {k : List Int} {v : β} : keys (aput F k v) = if k ∈ keys F then keys F else keys F ++ [k] := by
  by_cases h : k ∈ keys F
  · rw [aput_old h, if_pos h]
    unfold keys
    rw [List.map_map]
    apply List.map_congr_left
    intro p _
    show (if p.1 = k then (p.1, v) else p).1 = p.1
    split <;> rfl
  · rw [aput_new h, if_neg h]
    unfold keys
    rw [List.map_append]
    rfl
theorem nodup_aput {F : List (List Int × β)} {k : List Int} {v : β} (h : (keys F).Nodup) : (keys (aput F k v)).Nodup := by
  rw [keys_aput]
  split
  · exact h
  · rename_i hk
    refine List.nodup_append.mpr ⟨h, by simp, fun a ha b hb e => ?_⟩
    rw [List.mem_singleton.mp hb] at e
    exact hk (e ▸ ha)
theorem mem_aput {F : List (List Int × β)} {k t : List Int} {v : β} : t ∈ keys (aput F k v) ↔ t ∈ keys F ∨ t = k := by
  rw [keys_aput]
  split
  · rename_i h
    exact ⟨.inl, fun z => z.elim id fun e => e ▸ h⟩
  · rw [List.mem_append, List.mem_singleton]
theorem aget_map {v : β} {k t : List Int} : ∀ {F : List (List Int × β)}, aget (F.map fun p => if p.1 = k then (p.1, v) else p) t = if t = k then (aget F t).map fun _ => v else aget F t
  | [] => by simp [aget]
  | p :: F => by
    rw [List.map_cons, aget_cons, aget_cons, aget_map]
    by_cases h1 : p.1 = k
    · rw [if_pos h1]
      by_cases h2 : p.1 = t
      · rw [if_pos h2, if_pos h2, if_pos (h2.symm.trans h1)]
        rfl
      · have h3 : ¬ t = k := fun z => h2 (h1.trans z.symm)
        rw [if_neg h2, if_neg h2, if_neg h3]
    · rw [if_neg h1]
      by_cases h2 : p.1 = t
      · have h3 : ¬ t = k := fun z => h1 (h2.trans z)
        rw [if_pos h2, if_pos h2, if_neg h3]
      · rw [if_neg h2, if_neg h2]
theorem aget_append {t : List Int} {G : List (List Int × β)} : ∀ {F : List (List Int × β)}, aget (F ++ G) t = (aget F t).or (aget G t)
  | [] => by simp [aget]
  | p :: F => by
    rw [List.cons_append, aget_cons, aget_cons, aget_append]
    split
    · rfl
    · rfl
theorem aget_aput {F : List (List Int × β)} {k t : List Int} {v : β} : aget (aput F k v) t = if t = k then some v else aget F t := by
  by_cases h : k ∈ keys F
  · rw [aput_old h, aget_map]
    by_cases e : t = k
    · subst e
      rw [if_pos rfl, if_pos rfl]
      obtain ⟨w, hw⟩ := Option.isSome_iff_exists.mp (aget_isSome.mpr h)
      rw [hw]
      rfl
    · rw [if_neg e, if_neg e]
  · rw [aput_new h, aget_append, aget_cons]
    by_cases e : t = k
    · subst e
      rw [aget_none h, if_pos rfl, if_pos rfl]
      rfl
    · rw [if_neg e, if_neg (fun z => e z.symm), aget_nil, Option.or_none]
end
/-! the cells -/
def tkv (F : List (List Int × D)) : List (List L2.Key × D) := F.map fun p => (kI p.1, p.2)
theorem getD_tkv {k : List Int} : ∀ {F : List (List Int × D)}, getD (tkv F) (kI k) = aget F k
  | [] => rfl
  | p :: F => by
    have ih := getD_tkv (k := k) (F := F)
    unfold getD at ih ⊢
    show ((kI p.1, p.2) :: tkv F |>.find? _).map _ = _
    rw [List.find?_cons, aget_cons]
    by_cases h : p.1 = k
    · subst h
      simp
    · have h' : ¬ kI p.1 = kI k := fun z => h (kI_inj.mp z)
      simp only [h', decide_false]
      rw [if_neg h]
      exact ih
theorem any_tkv {k : List Int} : ∀ {F : List (List Int × D)}, ((tkv F).any fun kv => decide (kv.1 = kI k)) = F.any fun p => decide (p.1 = k)
  | [] => rfl
  | p :: F => by
    show (decide (kI p.1 = kI k) || (tkv F).any _) = (decide (p.1 = k) || F.any _)
    rw [any_tkv]
    congr 1
    exact decide_eq_decide.mpr kI_inj
theorem putD_tkv {k : List Int} {v : D} {F : List (List Int × D)} : putD (tkv F) (kI k) v = tkv (aput F k v) := by
  unfold putD aput
  rw [any_tkv]
  split
  · unfold tkv
    rw [List.map_map, List.map_map]
    apply List.map_congr_left
    intro p _
    show (if kI p.1 = kI k then (kI p.1, v) else (kI p.1, p.2)) = (fun p : List Int × D => (kI p.1, p.2)) (if p.1 = k then (p.1, v) else p)
    by_cases h : p.1 = k
    · rw [if_pos h, if_pos (kI_inj.mpr h)]
    · rw [if_neg h, if_neg fun z => h (kI_inj.mp z)]
  · unfold tkv
    rw [List.map_append]
    rfl
/-- a dict of loads as data -/
def dT (F : List (List Int × D)) : D := tD (tkv F)
theorem dT_eq (F : List (List Int × D)) : dT F = .dict (tagT :: F.map fun p => (ldD p.1, p.2)) := by
  unfold dT tD tkv
  rw [List.map_map]
  congr 2
  apply List.map_congr_left
  intro p _
  show (tupK (kI p.1), p.2) = _
  rw [tupK_kI]
/-! the order -/
def sortL (ks : List (List Int)) : List (List Int) := ks.mergeSort fun x y => decide (x ≤ y)
theorem sortL_perm (ks : List (List Int)) : (sortL ks).Perm ks := List.mergeSort_perm _ _
theorem sortL_pw (ks : List (List Int)) : (sortL ks).Pairwise (· ≤ ·) := by
  have := List.pairwise_mergeSort (le := fun x y : List Int => decide (x ≤ y)) (fun a b c h1 h2 => decide_eq_true (List.le_trans (of_decide_eq_true h1) (of_decide_eq_true h2))) (fun a b => by
    rcases List.le_total a b with h | h
    · simp [h]
    · simp [h]) ks
  exact this.imp fun h => of_decide_eq_true h
theorem sortL_congr {as bs : List (List Int)} (h : as.Perm bs) : sortL as = sortL bs :=
  ((sortL_perm as).trans (h.trans (sortL_perm bs).symm)).eq_of_pairwise (fun a b _ _ h1 h2 => List.le_antisymm h1 h2) (sortL_pw as) (sortL_pw bs)
theorem sortL_mem {ks : List (List Int)} {k : List Int} : k ∈ sortL ks ↔ k ∈ ks := (sortL_perm ks).mem_iff
theorem sortL_set {as bs : List (List Int)} (ha : as.Nodup) (hb : bs.Nodup) (h : ∀ k, k ∈ as ↔ k ∈ bs) : sortL as = sortL bs := sortL_congr ((List.perm_ext_iff_of_nodup ha hb).mpr h)
/-! ### weights counted -/
def accW (F : List (List Int × Int)) (e : List Int × Int) : List (List Int × Int) := aput F e.1 ((aget F e.1).getD 0 + e.2)
def wt (F : List (List Int × Int)) (k : List Int) : Int := (aget F k).getD 0
def sumW (F : List (List Int × Int)) : Int := (F.map (·.2)).sum
def accL (E : List (List Int × Int)) : List (List Int × Int) := E.foldl accW []
/-! ### parts gathered -/
def evD (E : List (List Int × D)) (t : List Int) : List D := (E.filter fun e => decide (e.1 = t)).map (·.2)
end Vm
namespace Vm
open PySem L2 PySem.Spec PyProof.Rows
/-! ### d.get(k, x) -/
def dctOd : Od → Bool
  | .c (.k _) => true
  | .c (.t _) => true
  | .d (.dict _) => true
  | _ => false
def cGet (co ck cd : CE) : CE := fun s => (cv co s).bind fun o s1 => opt (o.od s1.m) fun o1 => if dctOd o1 = true then (cv ck s1).bind fun k s2 => (cv cd s2).bind fun d s3 => opt (o.od s3.m) fun oo => opt (k.od s3.m) fun kk => opt (look oo kk) fun r => match r, d with
  | some x, _ => .ok (.d x) s3
  | none, .d y => .ok (.d y) s3
  | _, _ => .bad
  else .bad
/-! its value -/
def kGet4 (o k d : Rv) (s3 : S) : R Rv := opt (o.od s3.m) fun oo => opt (k.od s3.m) fun kk => opt (look oo kk) fun r => match r, d with
  | some x, _ => .ok (.d x) s3
  | none, .d y => .ok (.d y) s3
  | _, _ => .bad
def kGet3 (o k : Rv) (d : Rv) (s3 : S) : R Rv := kGet4 o k d s3
def kGet2 (cd : CE) (o : Rv) (k : Rv) (s2 : S) : R Rv := (cv cd s2).bind (kGet3 o k)
def kGet1 (ck cd : CE) (o : Rv) (s1 : S) : R Rv := opt (o.od s1.m) fun o1 => if dctOd o1 = true then (cv ck s1).bind (kGet2 cd o) else .bad
@[simp] theorem cGet_s {co ck cd : CE} {s : S} : cGet co ck cd s = (cv co s).bind (kGet1 ck cd) := Eq.trans rfl rfl
@[simp] theorem kGet2_s {cd : CE} {o k : Rv} {s2 : S} : kGet2 cd o k s2 = (cv cd s2).bind (kGet3 o k) := Eq.trans rfl rfl
@[simp] theorem kGet3_s {o k d : Rv} {s3 : S} : kGet3 o k d s3 = kGet4 o k d s3 := Eq.trans rfl rfl
@[simp] theorem kGet1_t {ck cd : CE} {n : Nat} {kvs : List (List L2.Key × D)} {s1 : S} (h : s1.m[n]? = some (.t kvs)) : kGet1 ck cd (.ref n) s1 = (cv ck s1).bind (kGet2 cd (.ref n)) := by
  unfold kGet1
  rw [od_ref, h, odC_t]
  rfl
@[simp] theorem kGet1_d {ck cd : CE} {es : List (D × D)} {s1 : S} : kGet1 ck cd (.d (.dict es)) s1 = (cv ck s1).bind (kGet2 cd (.d (.dict es))) := rfl
theorem kGet4_t {n : Nat} {F : List (List Int × D)} {k : List Int} {d : D} {s3 : S} (h : s3.m[n]? = some (.t (tkv F))) : kGet4 (.ref n) (.d (ldD k)) (.d d) s3 = .ok (.d ((aget F k).getD d)) s3 := by
  unfold kGet4
  rw [od_ref, h, odC_t]
  show opt (look (.c (.t (tkv F))) (.d (.tuple (k.map PyData.int)))) _ = _
  unfold look
  dsimp only
  rw [keysOf_kI]
  dsimp only
  rw [getD_tkv]
  cases aget F k <;> rfl
theorem getT_ld {k : List Int} : ∀ {F : List (List Int × D)}, getT (F.map fun p => (ldD p.1, p.2)) (kI k) = aget F k
  | [] => rfl
  | p :: F => by
    have ih := getT_ld (k := k) (F := F)
    rw [aget_cons]
    unfold getT at ih ⊢
    rw [List.map_cons, List.find?_cons]
    have e1 : keyT (ldD p.1) = some (kI p.1) := keysOf_kI p.1
    by_cases h : p.1 = k
    · rw [if_pos h]
      subst h
      simp only [e1, decide_true, Option.map_some]
    · rw [if_neg h]
      have : ¬ some (kI p.1) = some (kI k) := fun z => h (kI_inj.mp (Option.some.inj z))
      simp only [e1, this, decide_false]
      exact ih
theorem look_dT {F : List (List Int × D)} {k : List Int} : look (.d (dT F)) (.d (ldD k)) = some (aget F k) := by
  rw [dT_eq]
  show (match keysOf (k.map PyData.int) with
    | some k => some (getT (F.map fun p : List Int × D => (ldD p.1, p.2)) k)
    | none => none) = _
  rw [keysOf_kI]
  dsimp only
  rw [getT_ld]
theorem opItem_dT {F : List (List Int × D)} {k : List Int} {v : D} (h : aget F k = some v) : opItem (.d (dT F)) (.d (ldD k)) = some (.d v) := by
  unfold opItem
  rw [look_dT, h]
theorem ciKeyT_dT {F : List (List Int × D)} {c : CE} {s s1 : S} (h : c s = .ok (.d (dT F)) s1) : ciKeyT c s = .ok ((keys F).map ldD) s1 := by
  unfold ciKeyT cv
  rw [h, dT_eq]
  show R.ok ((F.map fun p => (ldD p.1, p.2)).map (·.1)) s1 = _
  unfold keys
  rw [List.map_map, List.map_map]
  rfl
theorem putIn_t {F : List (List Int × D)} {k : List Int} {v : D} (h : F.length < 16000000) : putIn (.t (tkv F)) (ldD k) v = some (.t (tkv (aput F k v))) := by
  show (match keysOf (k.map PyData.int) with
    | some k => if (tkv F).length < 16000000 then some (Cell.t (putD (tkv F) k v)) else none
    | none => none) = _
  rw [keysOf_kI]
  dsimp only
  rw [if_pos (by unfold tkv; rw [List.length_map]; exact h), putD_tkv]
end Vm
namespace Vm
open PySem L2 PySem.Spec PyProof.Rows
/-! ### the memory of a dict of lists -/
def gi : Nat → List (List Int × List D) → List Cell
  | _, [] => []
  | j, p :: G => .i 0 j p.2 :: gi (j + 1) G
def gm (G : List (List Int × List D)) : List Cell := .r ((keys G).map kI) :: gi 0 G
end Vm
namespace Vm
open PySem L2 PySem.Spec PyProof.Rows
/-! ### shares of a common bottom -/
/-! ### spreads -/
def rowD (k : List Int) (d : D) : D := .tuple [ldD k, d]
/-- the rows ds are the spread of the weights F -/
def Spr (K : Nat) (F : List (List Int × Int)) (ds : List D) : Prop := ∃ g : List Int → D, ds = (sortL (keys F)).map (fun k => rowD k (g k)) ∧ ∀ k, k ∈ keys F → Tell K (g k) ((wt F k : Rat) / (sumW F : Int))
theorem Spr.one {K K' : Nat} {F F' : List (List Int × Int)} {ds ds' : List D} (h : Spr K F ds) (h' : Spr K' F' ds') (n : (keys F).Nodup) (n' : (keys F').Nodup) (hk : ∀ k, k ∈ keys F ↔ k ∈ keys F') (hw : ∀ k, k ∈ keys F → (wt F k : Rat) / (sumW F : Int) = (wt F' k : Rat) / (sumW F' : Int)) : ds = ds' := by
  obtain ⟨g, rfl, t⟩ := h
  obtain ⟨g', rfl, t'⟩ := h'
  rw [← sortL_set n n' hk]
  apply List.map_congr_left
  intro k hk'
  have hk' := sortL_mem.mp hk'
  unfold rowD
  rw [(t k hk').one ((t' k ((hk k).mp hk')).to (hw k hk').symm)]
def fiD (F : List (List Int × Int)) : List (List Int × D) := F.map fun p => (p.1, PyData.int p.2)
theorem keys_fiD {F : List (List Int × Int)} : keys (fiD F) = keys F := by
  unfold keys fiD
  rw [List.map_map]
  rfl
theorem aget_fiD {k : List Int} : ∀ {F : List (List Int × Int)}, aget (fiD F) k = (aget F k).map PyData.int
  | [] => rfl
  | p :: F => by
    show aget ((p.1, PyData.int p.2) :: fiD F) k = _
    rw [aget_cons, aget_cons, aget_fiD]
    split <;> rfl
theorem aget_wt {F : List (List Int × Int)} {k : List Int} (h : k ∈ keys F) : aget F k = some (wt F k) := by
  obtain ⟨v, hv⟩ := Option.isSome_iff_exists.mp (aget_isSome.mpr h)
  unfold wt
  rw [hv]
  rfl
/-! ### gathered -/
/-- the events' parts are the amounts over N -/
def EvR (K : Nat) (N : Int) (E : List (List Int × D)) (A : List (List Int × Int)) : Prop := Paired (fun (e : List Int × D) (a : List Int × Int) => e.1 = a.1 ∧ Tell K e.2 ((a.2 : Rat) / N) ∧ 0 ≤ a.2) E A
def evA (A : List (List Int × Int)) (t : List Int) : List Int := (A.filter fun e => decide (e.1 = t)).map (·.2)
theorem EvR.at {K : Nat} {N : Int} {t : List Int} : ∀ {E : List (List Int × D)} {A : List (List Int × Int)}, EvR K N E A → (evD E t).length = (evA A t).length ∧ (∀ (i : Nat) (d : D) (a : Int), (evD E t)[i]? = some d → (evA A t)[i]? = some a → Tell K d ((a : Rat) / N)) ∧ (∀ a, a ∈ evA A t → 0 ≤ a) ∧ (t ∈ keys E ↔ t ∈ keys A)
  | _, _, .nil => ⟨rfl, fun i d a h => by simp [evD] at h, fun a h => by simp [evA] at h, by simp [keys]⟩
  | e :: E, a :: A, .cons r q => by
    obtain ⟨h1, h2, h3, h4⟩ := EvR.at (t := t) q
    obtain ⟨r1, r2, r3⟩ := r
    have hk : t ∈ keys (e :: E) ↔ t ∈ keys (a :: A) := by
      show t ∈ e.1 :: keys E ↔ t ∈ a.1 :: keys A
      rw [List.mem_cons, List.mem_cons, h4, r1]
    unfold evD evA at *
    rw [List.filter_cons, List.filter_cons]
    by_cases h : a.1 = t
    · rw [if_pos (by simpa using r1.trans h), if_pos (by simpa using h), List.map_cons, List.map_cons]
      refine ⟨by rw [List.length_cons, List.length_cons, h1], fun i d x e1 e2 => ?_, fun x hx => ?_, hk⟩
      · cases i with
        | zero =>
          cases e1
          cases e2
          exact r2
        | succ i => exact h2 i d x (by simpa using e1) (by simpa using e2)
      · rcases List.mem_cons.mp hx with rfl | hx
        · exact r3
        · exact h3 x hx
    · rw [if_neg (by simpa using fun z => h (r1.symm.trans z)), if_neg (by simpa using h)]
      exact ⟨h1, h2, h3, hk⟩
theorem EvR.pos {K : Nat} {N : Int} : ∀ {E : List (List Int × D)} {A : List (List Int × Int)}, EvR K N E A → ∀ a, a ∈ A → 0 ≤ a.2
  | _, _, .nil, a, h => nomatch h
  | _, _, .cons r q, a, h => by
    rcases List.mem_cons.mp h with rfl | h
    · exact r.2.2
    · exact EvR.pos q a h
end Vm
namespace Vm
open PySem L2 PySem.Spec PyProof.Rows
theorem enumD_at : ∀ (ds : List D) (k j : Nat) (d : D), (enumD k ds)[j]? = some d → ∃ x, ds[j]? = some x ∧ d = .tuple [.int ((k + j : Nat) : Int), x]
  | [], k, j, d, h => by simp [enumD] at h
  | x :: ds, k, 0, d, h => by
    have h : some (PyData.tuple [.int (k : Int), x]) = some d := h
    cases h
    exact ⟨x, rfl, rfl⟩
  | x :: ds, k, j + 1, d, h => by
    have h : (enumD (k + 1) ds)[j]? = some d := by simpa [enumD] using h
    obtain ⟨y, h1, h2⟩ := enumD_at ds (k + 1) j d h
    exact ⟨y, by simpa using h1, by rw [h2, show k + 1 + j = k + (j + 1) by omega]⟩
theorem enumD_length : ∀ (ds : List D) (k : Nat), (enumD k ds).length = ds.length
  | [], k => rfl
  | x :: ds, k => by
    show (enumD (k + 1) ds).length + 1 = _
    rw [enumD_length ds (k + 1)]
    rfl
/-- the events of one row: what f gives at the first j places -/
def evTo {α : Type} (f : Nat → Option α) (j : Nat) : List α := (List.range j).filterMap f
theorem evTo_succ {α : Type} {f : Nat → Option α} {j : Nat} : evTo f (j + 1) = evTo f j ++ (f j).toList := by
  unfold evTo
  rw [List.range_succ, List.filterMap_append]
  cases h : f j <;> simp [h]
theorem evTo_len {α : Type} {f : Nat → Option α} {j : Nat} : (evTo f j).length ≤ j := by
  unfold evTo
  have := List.length_filterMap_le f (List.range j)
  rw [List.length_range] at this
  exact this
/-! ### a ball leaves -/
def dec (k : List Int) (r : Nat) : List Int := sortD (k.set r (k.getD r 0 - 1))
/-- the loads of F have n boxes and so many balls -/
structure LdF (n : Nat) (b : Int) (F : List (List Int × Int)) : Prop where
  n1 : 1 ≤ n
  len : ∀ k, k ∈ keys F → k.length = n
  pos : ∀ k, k ∈ keys F → ∀ x, x ∈ k → 0 ≤ x
  sum : ∀ k, k ∈ keys F → k.sum = b
def decEv {β : Type} (k : List Int) (f : Nat → β) (r : Nat) : Option (List Int × β) := if 0 < k.getD r 0 then some (dec k r, f r) else none
end Vm
namespace Vm
open PySem L2 PySem.Spec PyProof.Rows
/-! ### a load changed by one, within a loop -/
theorem w_chg {op : Od → Od → Option Rv} {f : Int → Int} {a l r t : Nat} {v : List Sl} {m : List Cell} {k : List Int} {j : Nat} {rest : CS} {P : Po} (hl : v[l]? = some (.d (ldD k))) (hr : v[r]? = some (.d (.int (j : Nat)))) (hj : j < k.length)
    (hop : ∀ x, op (.d (.int x)) (.d (.int 1)) = some (.d (.int (f x)))) (ha : a < v.length) (h1 : a ≠ r) (q : Wp rest P ⟨(v.set a (.c m.length)).set t (.d (ldD (sortD (k.set j (f (k.getD j 0)))))), m ++ [.l ((k.set j (f (k.getD j 0))).map PyData.int)]⟩) :
    Wp (cSeq (cSetM a (cOp1 opList (cVar l))) (cSeq (cPutL (cVar a) (cVar r) (cOp2 op (cOp2 opIx (cVar a) (cVar r)) (cC (.int 1)))) (cSeq (cSet t (cOp1 opTuple (cOp1 opSortedR (cVar a)))) rest))) P ⟨v, m⟩ := by
  have g : k.getD j 0 = k[j] := getD_get hj
  have hget : ∀ c : Cell, (m ++ [c])[m.length]? = some c := fun c => by simp
  refine st (s1 := ⟨v.set a (.c m.length), m ++ [.l (k.map PyData.int)]⟩) ?_ ?_
  · simp [hl, ldD]
    exact .rfl
  have va : (v.set a (.c m.length))[a]? = some (.c m.length) := by rw [List.getElem?_set_self ha]
  have vr : (v.set a (.c m.length))[r]? = some (.d (.int (j : Nat))) := by rw [List.getElem?_set_ne h1]; exact hr
  have ix := ixL hj
  have pu := putLR_s (n := m.length) (k := (j : Int)) (v := .int (f k[j])) (s3 := ⟨v.set a (.c m.length), m ++ [.l (k.map PyData.int)]⟩) (xs := k.map PyData.int) (hget _) (by omega) (by simp; omega)
  have hs : (k.map PyData.int).set j (.int (f k[j])) = (k.set j (f k[j])).map PyData.int := by rw [List.map_set]
  have hm : (m ++ [Cell.l (k.map PyData.int)]).set m.length (.l ((k.set j (f k[j])).map PyData.int)) = m ++ [.l ((k.set j (f k[j])).map PyData.int)] := by
    rw [List.set_append_right _ _ (Nat.le_refl _), Nat.sub_self]
    rfl
  rw [Int.toNat_natCast, hs, hm] at pu
  rw [g] at q
  refine st (s1 := ⟨v.set a (.c m.length), m ++ [.l ((k.set j (f k[j])).map PyData.int)]⟩) ?_ ?_
  · simp [va, vr, hget, ix, hop, pu, -List.map_set]
    exact .rfl
  refine st (s1 := ⟨(v.set a (.c m.length)).set t (.d (ldD (sortD (k.set j (f k[j]))))), m ++ [.l ((k.set j (f k[j])).map PyData.int)]⟩) ?_ q
  simp [va, hget, ldD, -List.map_set]
  exact .rfl
/-! ### sums over events -/
theorem sum_keys : ∀ {F : List (List Int × Int)}, (keys F).Nodup → ((keys F).map (wt F)).sum = sumW F
  | [], _ => rfl
  | p :: F, hn => by
    have hn : (p.1 :: keys F).Nodup := hn
    rw [List.nodup_cons] at hn
    show wt (p :: F) p.1 + ((keys F).map (wt (p :: F))).sum = p.2 + sumW F
    have e1 : wt (p :: F) p.1 = p.2 := by
      unfold wt
      rw [aget_cons, if_pos rfl]
      rfl
    have e2 : (keys F).map (wt (p :: F)) = (keys F).map (wt F) := by
      apply List.map_congr_left
      intro k hk
      unfold wt
      rw [aget_cons, if_neg fun z : p.1 = k => hn.1 (z ▸ hk)]
    rw [e1, e2, sum_keys hn.2]
end Vm
namespace Vm
open PySem L2 PySem.Spec PyProof.Rows
/-- the events of a leaving, by the rows ks -/
def goneE (F : List (List Int × Int)) (n : Nat) (ks : List (List Int)) : List (List Int × Int) := ks.flatMap fun k => evTo (decEv k fun r => wt F k * k.getD r 0) n
def goneF (F : List (List Int × Int)) (n : Nat) : List (List Int × Int) := accL (goneE F n (keys F))
section
variable {K n : Nat} {b : Int} {F : List (List Int × Int)}
theorem goneE_len (ks : List (List Int)) : (goneE F n ks).length ≤ ks.length * n := by
  unfold goneE
  induction ks with
  | nil => simp
  | cons a l ih =>
    rw [List.flatMap_cons, List.length_append, List.length_cons, Nat.succ_mul]
    have := evTo_len (f := decEv a fun r => wt F a * a.getD r 0) (j := n)
    omega
end
end Vm
namespace Vm
open PySem L2 PySem.Spec PyProof.Rows
/-! ### a load drawn -/
structure Ld (n : Nat) (b : Int) (k : List Int) : Prop where
  len : k.length = n
  pos : ∀ x, x ∈ k → 0 ≤ x
  sum : k.sum = b
  fall : k.Pairwise (· ≥ ·)
/-! ### a weight added to a cell -/
theorem aput_aput {β : Type} {F : List (List Int × β)} {k : List Int} {v w : β} : aput (aput F k v) k w = aput F k w := by
  have hk : k ∈ keys (aput F k v) := mem_aput.mpr (.inr rfl)
  rw [aput_old hk]
  by_cases h : k ∈ keys F
  · rw [aput_old h, aput_old h, List.map_map]
    apply List.map_congr_left
    intro p _
    show (if (if p.1 = k then (p.1, v) else p).1 = k then ((if p.1 = k then (p.1, v) else p).1, w) else (if p.1 = k then (p.1, v) else p)) = _
    by_cases hp : p.1 = k
    · simp [hp]
    · simp [hp]
  · rw [aput_new h, aput_new h, List.map_append]
    have : F.map (fun p => if p.1 = k then (p.1, w) else p) = F := by
      conv => rhs; rw [← List.map_id F]
      apply List.map_congr_left
      intro p hp
      have : p.1 ≠ k := fun z => h (z ▸ List.mem_map_of_mem (f := (·.1)) hp)
      rw [if_neg this]
      rfl
    rw [this]
    simp
theorem acc_acc {F : List (List Int × Int)} {k : List Int} {a b : Int} : accW (accW F (k, a)) (k, b) = accW F (k, a + b) := by
  unfold accW
  dsimp only
  rw [aput_aput, aget_aput, if_pos rfl]
  show aput F k ((aget F k).getD 0 + a + b) = _
  rw [Int.add_assoc]
theorem fiD_aput {F : List (List Int × Int)} {k : List Int} {v : Int} : aput (fiD F) k (.int v) = fiD (aput F k v) := by
  by_cases h : k ∈ keys F
  · rw [aput_old h, aput_old (by rw [keys_fiD]; exact h)]
    unfold fiD
    rw [List.map_map, List.map_map]
    apply List.map_congr_left
    intro p _
    show (if p.1 = k then (p.1, PyData.int v) else (p.1, PyData.int p.2)) = (fun p : List Int × Int => (p.1, PyData.int p.2)) (if p.1 = k then (p.1, v) else p)
    split <;> rfl
  · rw [aput_new h, aput_new (by rw [keys_fiD]; exact h)]
    unfold fiD
    rw [List.map_append]
    rfl
theorem kGet4_w {n : Nat} {F : List (List Int × Int)} {k : List Int} {s3 : S} (h : s3.m[n]? = some (.t (tkv (fiD F)))) : kGet4 (.ref n) (.d (ldD k)) (.d (.int 0)) s3 = .ok (.d (.int (wt F k))) s3 := by
  rw [kGet4_t h, aget_fiD]
  unfold wt
  cases aget F k <;> rfl
theorem putIn_w {F : List (List Int × Int)} {k : List Int} {v : Int} (h : F.length < 16000000) : putIn (.t (tkv (fiD F))) (ldD k) (.int v) = some (.t (tkv (fiD (aput F k v)))) := by
  rw [putIn_t (by unfold fiD; rw [List.length_map]; exact h), fiD_aput]
theorem put_acc {i t q : Nat} {v : List Sl} {m : List Cell} {F : List (List Int × Int)} {k : List Int} {c : Int} {ce : CE} (hi : v[i]? = some (.c q)) (ht : v[t]? = some (.d (ldD k))) (hq : m[q]? = some (.t (tkv (fiD F)))) (hF : F.length < 16000000) (hc : ce ⟨v, m⟩ = .ok (.d (.int c)) ⟨v, m⟩) :
    cPut (cVar i) (cVar t) (cOp2 opAdd (cGet (cVar i) (cVar t) (cC (.int 0))) ce) ⟨v, m⟩ = .nx ⟨v, m.set q (.t (tkv (fiD (accW F (k, c)))))⟩ := by
  have g := kGet4_w (n := q) (F := F) (k := k) (s3 := ⟨v, m⟩) hq
  have p := putR_s (n := q) (k := ldD k) (v := .int (wt F k + c)) (s3 := ⟨v, m⟩) hq
  rw [putIn_w hF] at p
  have e : aput F k (wt F k + c) = accW F (k, c) := rfl
  rw [e] at p
  simp [hi, ht, hq, g, hc, p]
end Vm
namespace Vm
open PySem L2 PySem.Spec PyProof.Rows
theorem aput_len {β : Type} {F : List (List Int × β)} {k : List Int} {v : β} : (aput F k v).length ≤ F.length + 1 := by
  unfold aput
  split
  · rw [List.length_map]; omega
  · rw [List.length_append]; exact Nat.le_refl _
/-! ### the law's own leaving -/
def cGone : CS :=
 (cSeq (cSetM 1 cNewT)
 (cSeq (cFor (ciKeyT (cVar 0)) (tgN 2)
 (cFor (ciEnum (cVar 2)) (tgTup 2 (tgCons (tgN 3) (tgCons (tgN 4) tgNil)))
 (cFor (ciR1 (cVar 4)) (tgN 5)
 (cSeq (cSetM 6 (cOp1 opList (cVar 2)))
 (cSeq (cPutL (cVar 6) (cVar 3) (cOp2 opSub (cOp2 opIx (cVar 6) (cVar 3)) (cC (.int 1))))
 (cSeq (cSet 7 (cOp1 opTuple (cOp1 opSortedR (cVar 6))))
 (cPut (cVar 1) (cVar 7) (cOp2 opAdd (cGet (cVar 1) (cVar 7) (cC (.int 0))) (cOp2 opItem (cVar 0) (cVar 2))))))))))
 (cRet (cVar 1))))
def fGone : Fn := runF 8 cGone
def addN (A : List (List Int × Int)) (t : List Int) (c : Int) (i : Nat) : List (List Int × Int) := if i = 0 then A else accW A (t, c * i)
theorem addN_succ {A : List (List Int × Int)} {t : List Int} {c : Int} {i : Nat} : accW (addN A t c i) (t, c) = addN A t c (i + 1) := by
  unfold addN
  rw [if_neg (Nat.succ_ne_zero i)]
  by_cases h : i = 0
  · subst h
    rw [if_pos rfl]
    simp
  · rw [if_neg h, acc_acc]
    congr 2
    rw [show ((i + 1 : Nat) : Int) = (i : Int) + 1 by omega, Int.mul_add, Int.mul_one]
theorem addN_len {A : List (List Int × Int)} {t : List Int} {c : Int} {i : Nat} : (addN A t c i).length ≤ A.length + 1 := by
  unfold addN
  split
  · omega
  · exact aput_len
theorem foldl_snoc {A : List (List Int × Int)} {E : List (List Int × Int)} {e : List Int × Int} : (E ++ [e]).foldl accW A = accW (E.foldl accW A) e := by
  rw [List.foldl_append]
  rfl
theorem foldl_len (E : List (List Int × Int)) : ∀ A : List (List Int × Int), (E.foldl accW A).length ≤ A.length + E.length := by
  induction E with
  | nil => intro G; exact Nat.le_refl _
  | cons e E ih =>
    intro G
    have h1 := ih (accW G e)
    have h2 : (accW G e).length ≤ G.length + 1 := aput_len
    show (E.foldl accW (accW G e)).length ≤ _
    rw [List.length_cons]
    omega
theorem gone_ok {n : Nat} {b : Int} {F : List (List Int × Int)} (hL : LdF n b F) (hn : (keys F).Nodup) (hl : F.length * n ≤ 100000) (hb : b ≤ 1000) : fGone [.d (dT (fiD F))] [] = .ok (.new (.t (tkv (fiD (goneF F n))))) [] := by
  let X0 : Sl := .d (dT (fiD F))
  have kl : (keys F).length = F.length := by unfold keys; rw [List.length_map]
  show fGone [X0] [] = _
  unfold fGone
  apply Ok.eq
  apply run_ok
  unfold cGone
  refine st (s1 := ⟨[X0, .c 0, .u, .u, .u, .u, .u, .u], [.t (tkv (fiD []))]⟩) (by simp; exact .rfl) ?_
  let St := fun (A : List (List Int × Int)) (s : S) => ∃ (x2 x3 x4 x5 x6 x7 : Sl) (r : List Cell), s = ⟨[X0, .c 0, x2, x3, x4, x5, x6, x7], .t (tkv (fiD A)) :: r⟩
  refine w_cut (St (goneF F n)) ?_ fun s hs => ?_
  · have ck := ciKeyT_dT (F := fiD F) (c := cVar 0) (s := ⟨[X0, .c 0, .u, .u, .u, .u, .u, .u], [.t (tkv (fiD []))]⟩) (s1 := ⟨[X0, .c 0, .u, .u, .u, .u, .u, .u], [.t (tkv (fiD []))]⟩) (by simp [X0])
    rw [keys_fiD] at ck
    refine w_for (ds := (keys F).map ldD) (fun i => St ((goneE F n ((keys F).take i)).foldl accW [])) ck ⟨_, _, _, _, _, _, _, rfl⟩ (fun i d s hd hi => ?_) fun s hi => by
      rw [List.length_map, List.take_length] at hi
      exact hi
    obtain ⟨x2, x3, x4, x5, x6, x7, r, rfl⟩ := hi
    rw [List.getElem?_map] at hd
    obtain ⟨k, hki, rfl⟩ := Option.map_eq_some_iff.mp hd
    have hk : k ∈ keys F := List.mem_of_getElem? hki
    have hil : i < (keys F).length := (List.getElem?_eq_some_iff.mp hki).1
    have hkl := hL.len k hk
    have ht : goneE F n ((keys F).take (i + 1)) = goneE F n ((keys F).take i) ++ evTo (decEv k fun r => wt F k * k.getD r 0) n := by
      unfold goneE
      rw [List.take_add_one, hki, List.flatMap_append]
      simp
    have hpre := goneE_len (F := F) (n := n) ((keys F).take i)
    rw [List.length_take, Nat.min_eq_left (by omega)] at hpre
    have hin : i * n + n ≤ 100000 := by
      have : (i + 1) * n ≤ F.length * n := Nat.mul_le_mul_right _ (by omega)
      rw [Nat.succ_mul] at this
      omega
    rw [ht]
    generalize goneE F n ((keys F).take i) = pre at *
    refine ⟨⟨[X0, .c 0, .d (ldD k), x3, x4, x5, x6, x7], _⟩, rfl, ?_⟩
    refine w_for (ds := enumD 0 (k.map PyData.int)) (fun j s => ∃ (x3 x4 x5 x6 x7 : Sl) (r : List Cell), s = ⟨[X0, .c 0, .d (ldD k), x3, x4, x5, x6, x7], .t (tkv (fiD ((pre ++ evTo (decEv k fun r => wt F k * k.getD r 0) j).foldl accW []))) :: r⟩) (s1 := ⟨[X0, .c 0, .d (ldD k), x3, x4, x5, x6, x7], .t (tkv (fiD (pre.foldl accW []))) :: r⟩) (by simp [ldD]; exact .rfl) ⟨x3, x4, x5, x6, x7, r, by simp [evTo]⟩ (fun j d s hd hj => ?_) fun s hj => ?_
    · obtain ⟨y3, y4, y5, y6, y7, r, rfl⟩ := hj
      obtain ⟨x, hx, rfl⟩ := enumD_at _ _ _ _ hd
      rw [Nat.zero_add]
      rw [List.getElem?_map] at hx
      obtain ⟨x, hx2, rfl⟩ := Option.map_eq_some_iff.mp hx
      have hjn : j < k.length := (List.getElem?_eq_some_iff.mp hx2).1
      have hgx : k.getD j 0 = x := by rw [List.getD_eq_getElem?_getD, hx2]; rfl
      have hxm : x ∈ k := List.mem_of_getElem? hx2
      have hx0 := hL.pos k hk x hxm
      have hxb : x ≤ b := by
        rw [← hL.sum k hk]
        exact mem_le_sum (hL.pos k hk) _ hxm
      have pl := evTo_len (f := decEv k fun r => wt F k * k.getD r 0) (j := j)
      have el : (pre ++ evTo (decEv k fun r => wt F k * k.getD r 0) j).length ≤ 100000 := by rw [List.length_append]; omega
      have fl := foldl_len (pre ++ evTo (decEv k fun r => wt F k * k.getD r 0) j) []
      rw [List.length_nil, Nat.zero_add] at fl
      refine ⟨⟨[X0, .c 0, .d (ldD k), .d (.int (j : Nat)), .d (.int x), y5, y6, y7], _⟩, rfl, ?_⟩
      rw [evTo_succ, ← List.append_assoc]
      generalize pre ++ evTo (decEv k fun r => wt F k * k.getD r 0) j = E at *
      obtain ⟨xn, rfl⟩ : ∃ xn : Nat, x = (xn : Int) := ⟨x.toNat, by omega⟩
      have r1 := ciR1_n (c := cVar 4) (s := ⟨[X0, .c 0, .d (ldD k), .d (.int (j : Nat)), .d (.int (xn : Nat)), y5, y6, y7], .t (tkv (fiD (E.foldl accW []))) :: r⟩) (s1 := ⟨[X0, .c 0, .d (ldD k), .d (.int (j : Nat)), .d (.int (xn : Nat)), y5, y6, y7], .t (tkv (fiD (E.foldl accW []))) :: r⟩) (n := xn) (by simp) (by omega)
      refine w_for (ds := (List.range xn).map fun i : Nat => PyData.int (i : Int)) (fun l s => ∃ (y5 y6 y7 : Sl) (r : List Cell), s = ⟨[X0, .c 0, .d (ldD k), .d (.int (j : Nat)), .d (.int (xn : Nat)), y5, y6, y7], .t (tkv (fiD (addN (E.foldl accW []) (dec k j) (wt F k) l))) :: r⟩) r1 ⟨y5, y6, y7, r, by simp [addN]⟩ (fun l d s hd hl => ?_) fun s hl => ?_
      · obtain ⟨z5, z6, z7, r, rfl⟩ := hl
        obtain ⟨hlx, rfl⟩ := rangeN_get hd
        refine ⟨⟨[X0, .c 0, .d (ldD k), .d (.int (j : Nat)), .d (.int (xn : Nat)), .d (.int (l : Nat)), z6, z7], _⟩, rfl, ?_⟩
        refine w_chg (op := opSub) (f := fun x => x - 1) (k := k) (j := j) rfl rfl hjn (fun x => rfl) (by simp) (by decide) ?_
        have it : opItem (.d (dT (fiD F))) (.d (ldD k)) = some (.d (.int (wt F k))) := opItem_dT (by rw [aget_fiD, aget_wt hk]; rfl)
        have al := addN_len (A := E.foldl accW []) (t := dec k j) (c := wt F k) (i := l)
        have pa := put_acc (i := 1) (t := 7) (q := 0) (v := [X0, .c 0, .d (ldD k), .d (.int (j : Nat)), .d (.int (xn : Nat)), .d (.int (l : Nat)), .c (r.length + 1), .d (ldD (dec k j))]) (m := .t (tkv (fiD (addN (E.foldl accW []) (dec k j) (wt F k) l))) :: (r ++ [.l ((k.set j (k.getD j 0 - 1)).map PyData.int)])) (k := dec k j) (c := wt F k) (ce := cOp2 opItem (cVar 0) (cVar 2)) rfl rfl rfl (by omega) (by simp [X0, it])
        rw [addN_succ] at pa
        exact st_last pa ⟨_, _, _, _, rfl⟩
      · obtain ⟨z5, z6, z7, r, rfl⟩ := hl
        refine ⟨.d (.int (j : Nat)), .d (.int (xn : Nat)), z5, z6, z7, r, ?_⟩
        have e : addN (E.foldl accW []) (dec k j) (wt F k) ((List.range xn).map fun i : Nat => PyData.int (i : Int)).length = (E ++ (decEv k (fun r => wt F k * k.getD r 0) j).toList).foldl accW [] := by
          rw [List.length_map, List.length_range]
          unfold addN decEv
          rw [hgx]
          by_cases h0 : xn = 0
          · subst h0
            simp
          · rw [if_neg h0, if_pos (by omega)]
            show _ = (E ++ [(dec k j, wt F k * k.getD j 0)]).foldl accW []
            rw [hgx]
            exact foldl_snoc.symm
        rw [e]
    · obtain ⟨y3, y4, y5, y6, y7, r, rfl⟩ := hj
      rw [enumD_length, List.length_map, hkl]
      exact ⟨_, _, _, _, _, _, _, rfl⟩
  · obtain ⟨x2, x3, x4, x5, x6, x7, r, rfl⟩ := hs
    refine w_ret (x := .ref 0) (by simp; exact .rfl) ?_
    exact ok_cell (c := .t (tkv (fiD (goneF F n)))) (by decide) rfl (by intro z; cases z) ⟨rfl, rfl⟩
end Vm
namespace Vm
open PySem L2 PySem.Spec PyProof.Rows
section
variable {X : Cx} {ec : EC} {W : WX}
/-- a method without arguments of a list just made -/
def cMutN (f : List D → List D → Option (D × List D)) (co : CE) : CE := fun s => (co s).bind fun a s1 => match a with
  | .new (.l xs) => match f xs [] with
    | some (d, _) => .ok (.d d) s1
    | none => .bad
  | _ => .bad
end
@[simp] theorem cMutN_l {f : List D → List D → Option (D × List D)} {co : CE} {s s1 : S} {xs ys : List D} {d : D} (h : co s = .ok (.new (.l xs)) s1) (hf : f xs [] = some (d, ys)) : cMutN f co s = .ok (.d d) s1 := by
  unfold cMutN
  rw [h]
  show (match f xs [] with
    | some (d, _) => R.ok (Rv.d d) s1
    | none => .bad) = _
  rw [hf]
end Vm
namespace Vm
open PySem L2 PySem.Spec PyProof.Rows
/-! ### a comprehension within one -/
theorem lookup_lab {f : Str → NameKind → NameKind} {x : Str} {k : NameKind} : ∀ {names : List (Str × NameKind)}, names.lookup x = some k → (names.map fun p => (p.1, f p.1 p.2)).lookup x = some (f x k)
  | [], h => by simp at h
  | (n, j) :: r, h => by
    rw [List.map_cons, List.lookup_cons]
    rw [List.lookup_cons] at h
    dsimp only
    cases e : x == n with
    | true =>
      rw [e] at h
      cases h
      rw [eq_of_beq e]
    | false =>
      rw [e] at h
      exact lookup_lab h
theorem blkOk_in {N : List Str} {X : Cx} {s : Shared} {H : Hp} {scope0 : Scope} {cl : List (Str × Addr)} {C : Addr} {fp : List Addr} {scope : Scope} {own : List (Str × Nat)} (hN : X.N = N) (h : blkC N scope0 scope own = true) :
    BlkOk (X.blk s H scope0 (compEnvC scope0 cl C X.env) fp).N (X.blk s H scope0 (compEnvC scope0 cl C X.env) fp).env.scope scope own := by
  have ok := blkOk_by h
  refine ⟨ok.kind, ok.uniq, ?_, fun y hy e => ?_, ?_⟩
  · show ∀ p ∈ own, X.N[p.2]? = some p.1
    rw [hN]
    exact ok.ix
  · have key : ∀ k, (k = .cell ∨ k = .free) → scope0.names.lookup y.1 = some k → (relabel scope0 X.env).names.lookup y.1 = some .cell ∨ (relabel scope0 X.env).names.lookup y.1 = some .free := fun k hk hl => by
      have hf : (relabel scope0 X.env).names = scope0.names.map fun p => (p.1, (fun n k => if (k == NameKind.free && X.env.scope.kind == .function && X.env.kindOf n == some .cell) = true then NameKind.cell else k) p.1 p.2) := by
        unfold relabel
        dsimp only
        congr 1
        funext p
        obtain ⟨n, k⟩ := p
        dsimp only
        split <;> rfl
      have l2 := lookup_lab (f := fun n k => if (k == NameKind.free && X.env.scope.kind == .function && X.env.kindOf n == some .cell) = true then NameKind.cell else k) hl
      rw [hf, l2]
      split
      · exact .inl rfl
      · rcases hk with rfl | rfl
        · exact .inl rfl
        · exact .inr rfl
    rcases ok.free y hy e with h | h
    · exact key _ (.inl rfl) h
    · exact key _ (.inr rfl) h
  · show ∀ y ∈ scope.names, y.2 = .local ∨ y.2 = .cell → y.1 ∈ own.map (·.1) ∨ y.1 ∉ X.N
    rw [hN]
    exact ok.own
end Vm
namespace Vm
open PySem L2 PySem.Spec PyProof.Rows
/-! ### stands: numbers by boxes -/
def insS (k : List Int) (r : Nat) : List Int := k.set r (k.getD r 0 + 1)
/-! ### nets -/
structure Net where
  n : Nat
  ps : List (Nat × Nat)
  lf : Bool
/-- where the two halves of a pair go -/
def goal (lf : Bool) (k : List Int) (p : Nat × Nat) : Nat × Nat :=
  if k.getD p.1 0 < k.getD p.2 0 ∨ (k.getD p.1 0 = k.getD p.2 0 ∧ lf = true) then (p.1, p.1) else if k.getD p.2 0 < k.getD p.1 0 then (p.2, p.2) else p
def two (p : Nat × Nat) : List Nat := [p.1, p.2]
def goals (N : Net) (k : List Int) : List Nat := N.ps.flatMap fun p => two (goal N.lf k p)
def hv (N : Net) (k : List Int) : List Int := (goals N k).foldl insS (List.replicate N.n 0)
end Vm
namespace Vm
open PySem L2 PySem.Spec PyProof.Rows
/-! ### nets in which each box stands as often -/
structure Half (n j : Nat) (zs : List (Nat × Nat)) (xs : List Nat) : Prop where
  fst : zs.map (·.1) = List.range j
  prm : (zs.map (·.2) ++ xs).Perm (List.range n)
theorem Half.len {n j : Nat} {zs : List (Nat × Nat)} {xs : List Nat} (h : Half n j zs xs) : zs.length = j ∧ j + xs.length = n := by
  have h1 := congrArg List.length h.fst
  have h2 := h.prm.length_eq
  rw [List.length_map, List.length_range] at h1
  rw [List.length_append, List.length_map, List.length_range] at h2
  omega
theorem Half.lt {n j : Nat} {zs : List (Nat × Nat)} {xs : List Nat} (h : Half n j zs xs) : ∀ q, q ∈ zs → q.1 < n ∧ q.2 < n := fun q hq => by
  have l := h.len
  have h1 : q.1 ∈ zs.map (·.1) := List.mem_map_of_mem hq
  rw [h.fst, List.mem_range] at h1
  have h2 : q.2 ∈ zs.map (·.2) ++ xs := List.mem_append_left _ (List.mem_map_of_mem (f := (·.2)) hq)
  have h3 := List.mem_range.mp (h.prm.mem_iff.mp h2)
  exact ⟨by omega, h3⟩
end Vm
/-! Vm82: len(set(xs)) of a list of ints -/
/-! Vm83: repr of data with dicts anywhere, and of a dict with tuple keys -/
namespace Vm
open PySem L2 PySem.Spec PyProof.Rows
mutual
/-- a value reads as data, no dict is sys.modules -/
inductive RdS (h : Heap) : Value → PyData → Prop
  | none : RdS h .none .none
  | bool (b) : RdS h (.bool b) (.bool b)
  | int (i t) : RdS h (.int i t) (.int i)
  | str (x t) : RdS h (.str x t) (.str x)
  | list {a o vs n xs} : h.get? a = some o → o.cls = .type "list" → o.data = .seq vs n → RdSAll h vs.toList xs → RdS h (.ref a) (.list xs)
  | tuple {a o vs n xs} : h.get? a = some o → o.cls = .type "tuple" → o.data = .seq vs n → RdSAll h vs.toList xs → RdS h (.ref a) (.tuple xs)
  | dict {a o es n kvs} : h.get? a = some o → o.cls = .type "dict" → o.data = .dict es n → (a == sysModules) = false → RdSAll h (es.toList.map (·.key)) (kvs.map (·.1)) → RdSAll h (es.toList.map (·.val)) (kvs.map (·.2)) → RdS h (.ref a) (.dict kvs)
inductive RdSAll (h : Heap) : List Value → List PyData → Prop
  | nil : RdSAll h [] []
  | cons {v vs d ds} : RdS h v d → RdSAll h vs ds → RdSAll h (v :: vs) (d :: ds)
end
section
variable {prog : Program} {w : World} {h₀ : Heap}
mutual
theorem RdS.reads : ∀ {v : Value} {d : PyData}, RdS h₀ v d → ∃ as, Reads h₀ v d as
  | _, _, .none => ⟨_, .none⟩
  | _, _, .bool b => ⟨_, .bool b⟩
  | _, _, .int i t => ⟨_, .int i t⟩
  | _, _, .str x t => ⟨_, .str x t⟩
  | _, _, .list h1 h2 h3 h4 => let ⟨_, r⟩ := RdSAll.reads h4; ⟨_, .list h1 h2 h3 r⟩
  | _, _, .tuple h1 h2 h3 h4 => let ⟨_, r⟩ := RdSAll.reads h4; ⟨_, .tuple h1 h2 h3 r⟩
  | _, _, .dict h1 h2 h3 _ h4 h5 => let ⟨_, r⟩ := RdSAll.reads h4; let ⟨_, r2⟩ := RdSAll.reads h5; ⟨_, .dict h1 h2 h3 r r2⟩
theorem RdSAll.reads : ∀ {vs : List Value} {ds : List PyData}, RdSAll h₀ vs ds → ∃ as, ReadsAll h₀ vs ds as
  | _, _, .nil => ⟨_, .nil⟩
  | _, _, .cons a b => let ⟨_, r⟩ := RdS.reads a; let ⟨_, r2⟩ := RdSAll.reads b; ⟨_, .cons r r2⟩
end
mutual
theorem RdS.repr : ∀ {v : Value} {d : PyData}, RdS h₀ v d → d.showable = true → d.shown.length ≤ sizeLine → ∃ bs, ReadAtMost h₀ d.depth bs ∧ ReprK prog w bs h₀ d.depth v d.shown
  | _, _, .none, _, _ => ⟨[], (fun _ h => nomatch h), by simp only [PyData.shown]; exact .of_is ReprIs.none _ _ _⟩
  | _, _, .bool b, _, _ => ⟨[], (fun _ h => nomatch h), by simp only [PyData.shown]; exact .of_is (ReprIs.bool b) _ _ _⟩
  | _, _, .int i t, hs, _ => ⟨[], (fun _ h => nomatch h), by simp only [PyData.shown]; exact .of_is (ReprIs.int t (by simpa [PyData.showable] using hs)) _ _ _⟩
  | _, _, .str x t, _, hz => ⟨[], (fun _ h => nomatch h), by simp only [PyData.shown]; exact .of_is (ReprIs.str x t (by simpa only [PyData.shown] using hz)) _ _ _⟩
  | _, _, .list (a := a) (vs := vs) (xs := xs) h1 h2 h3 h4, hs, hz => by
    have hz' : (listText (PyData.shownAll xs)).length ≤ sizeLine := by simpa only [PyData.shown] using hz
    obtain ⟨bs, hb, hk⟩ := RdSAll.repr h4 (by simpa [PyData.showable] using hs) (fun t ht => Nat.le_trans (listText_mem_le ht) hz')
    obtain ⟨as, r0⟩ := RdSAll.reads h4
    have r : Reads h₀ (.ref a) (.list xs) _ := .list h1 h2 h3 r0
    have hna : a ∉ bs := not_mem_of_deeper r (by simp only [PyData.depth]; omega) hb
    refine ⟨a :: bs, ReadAtMost.cons r (by simp only [PyData.depth]; omega) hb, ?_⟩
    simp only [PyData.depth, PyData.shown]
    obtain ⟨l⟩ := vs
    cases l with
    | nil =>
      have h4' : RdSAll h₀ [] xs := h4
      cases h4'
      simp only [PyData.shownAll, listText_nil]
      exact ReprK.listEmpty h1 h2 h3
    | cons x l => exact ReprK.list h1 h2 h3 hna (by simpa using hk.length_eq) (fun i y e => hk.item i y (by simpa using e))
  | _, _, .tuple (a := a) (xs := xs) h1 h2 h3 h4, hs, hz => by
    have hz' : (tupleText (PyData.shownAll xs)).length ≤ sizeLine := by simpa only [PyData.shown] using hz
    obtain ⟨bs, hb, hk⟩ := RdSAll.repr h4 (by simpa [PyData.showable] using hs) (fun t ht => Nat.le_trans (tupleText_mem_le ht) hz')
    obtain ⟨as, r0⟩ := RdSAll.reads h4
    have r : Reads h₀ (.ref a) (.tuple xs) _ := .tuple h1 h2 h3 r0
    have hna : a ∉ bs := not_mem_of_deeper r (by simp only [PyData.depth]; omega) hb
    refine ⟨a :: bs, ReadAtMost.cons r (by simp only [PyData.depth]; omega) hb, ?_⟩
    simp only [PyData.depth, PyData.shown]
    exact ReprK.tuple h1 h2 h3 hna hk
  | _, _, .dict (a := a) (es := es) (kvs := kvs) h1 h2 h3 hsys h4 h5, hs, hz => by
    have hz' : (dictText (PyData.shownKv kvs)).length ≤ sizeLine := by simpa only [PyData.shown] using hz
    obtain ⟨hs1, hs2⟩ := PyData.showableKv_split kvs (by simpa [PyData.showable] using hs)
    obtain ⟨b1, hb1, k1⟩ := RdSAll.repr h4 hs1 (fun t ht => let ⟨p, hp, hl⟩ := PyData.shownKv_key_le kvs t ht; Nat.le_trans hl (Nat.le_trans (dictText_mem_le hp) hz'))
    obtain ⟨b2, hb2, k2⟩ := RdSAll.repr h5 hs2 (fun t ht => let ⟨p, hp, hl⟩ := PyData.shownKv_val_le kvs t ht; Nat.le_trans hl (Nat.le_trans (dictText_mem_le hp) hz'))
    obtain ⟨as1, r1⟩ := RdSAll.reads h4
    obtain ⟨as2, r2⟩ := RdSAll.reads h5
    have r : Reads h₀ (.ref a) (.dict kvs) _ := .dict h1 h2 h3 r1 r2
    have hb : ReadAtMost h₀ (PyData.depthKv kvs) (b1 ++ b2) := (hb1.mono (PyData.depthAll_keys_le kvs)).append (hb2.mono (PyData.depthAll_vals_le kvs))
    have hna : a ∉ b1 ++ b2 := not_mem_of_deeper r (by simp only [PyData.depth]; omega) hb
    refine ⟨a :: (b1 ++ b2), ReadAtMost.cons r (by simp only [PyData.depth]; omega) hb, ?_⟩
    simp only [PyData.depth, PyData.shown, PyData.shownKv_eq]
    exact ReprK.dict h1 h2 h3 hsys hna (ReprEntriesK.of_two es.toList _ _
      (k1.more_le (fun b hb => List.mem_append_left _ hb) (PyData.depthAll_keys_le kvs)) (k2.more_le (fun b hb => List.mem_append_right _ hb) (PyData.depthAll_vals_le kvs)))
theorem RdSAll.repr : ∀ {vs : List Value} {ds : List PyData}, RdSAll h₀ vs ds → PyData.showableAll ds = true → (∀ t ∈ PyData.shownAll ds, t.length ≤ sizeLine) →
    ∃ bs, ReadAtMost h₀ (PyData.depthAll ds) bs ∧ ReprAllK prog w bs h₀ (PyData.depthAll ds) vs (PyData.shownAll ds)
  | _, _, .nil, _, _ => ⟨[], (fun _ h => nomatch h), by simp only [PyData.shownAll]; exact .nil⟩
  | _, _, .cons (d := d) (ds := ds) r rs, hs, hz => by
    have hs' : d.showable = true ∧ PyData.showableAll ds = true := by simpa [PyData.showableAll] using hs
    obtain ⟨b1, hb1, k1⟩ := RdS.repr r hs'.1 (hz _ (by simp only [PyData.shownAll]; exact List.mem_cons_self ..))
    obtain ⟨b2, hb2, k2⟩ := RdSAll.repr rs hs'.2 (fun t ht => hz t (by simp only [PyData.shownAll]; exact List.mem_cons_of_mem _ ht))
    refine ⟨b1 ++ b2, ?_, ?_⟩
    · intro b hm
      simp only [PyData.depthAll]
      rcases List.mem_append.mp hm with hm | hm
      · obtain ⟨d', as', r', hd'⟩ := hb1 b hm
        exact ⟨d', as', r', Nat.le_trans hd' (Nat.le_max_left _ _)⟩
      · obtain ⟨d', as', r', hd'⟩ := hb2 b hm
        exact ⟨d', as', r', Nat.le_trans hd' (Nat.le_max_right _ _)⟩
    · simp only [PyData.depthAll, PyData.shownAll]
      exact .cons ((k1.more fun b hb => List.mem_append_left _ hb).level_le (Nat.le_max_left _ _)) (k2.more_le (fun b hb => List.mem_append_right _ hb) (Nat.le_max_right _ _))
end
theorem shows_of {a : Addr} {d : PyData} (r : RdS h₀ (.ref a) d) (hs : d.showable = true) (hsz : d.shown.length ≤ sizeLine) : ∃ T idr, ShowsBy prog w h₀ a d T idr := by
  obtain ⟨as0, r00⟩ := r.reads
  cases r with
  | list h1 h2 h3 h4 =>
    rename_i o vs n xs
    have hz' : (listText (PyData.shownAll xs)).length ≤ sizeLine := by simpa only [PyData.shown] using hsz
    obtain ⟨bs, hb, hk⟩ := RdSAll.repr (prog := prog) (w := w) h4 (by simpa [PyData.showable] using hs) (fun t ht => Nat.le_trans (listText_mem_le ht) hz')
    have hna : a ∉ bs := not_mem_of_deeper r00 (by simp only [PyData.depth]; omega) hb
    refine ⟨"list", "list.__repr__", F.slot_list_repr.toG, F.slot_list_str, F.slot_list_format, fun s hk0 => ⟨o, hk0 _ _ h1, h2⟩, fun A E s Q hg hu hk0 hQ => ?_⟩
    simp only [PyData.depth] at hu
    simp only [PyData.shown] at hQ
    obtain ⟨l⟩ := vs
    cases l with
    | nil =>
      have h4' : RdSAll h₀ [] xs := h4
      cases h4'
      simp only [PyData.shownAll, listText_nil] at hQ
      exact call_list_repr_empty ⟨o, hk0 _ _ h1, h2⟩ (hk0 _ _ h1) h3 (hQ s.heap _ _ fun _ _ e => e)
    | cons x l =>
      exact call_list_reprK h1 h2 h3 hna (by simpa using hk.length_eq) (fun i y e => hk.item i y (by simpa using e)) hg (fun b _ => Clear.nil b) hu hk0 hQ hz'
  | tuple h1 h2 h3 h4 =>
    rename_i o vs n xs
    have hz' : (tupleText (PyData.shownAll xs)).length ≤ sizeLine := by simpa only [PyData.shown] using hsz
    obtain ⟨bs, hb, hk⟩ := RdSAll.repr (prog := prog) (w := w) h4 (by simpa [PyData.showable] using hs) (fun t ht => Nat.le_trans (tupleText_mem_le ht) hz')
    have hna : a ∉ bs := not_mem_of_deeper r00 (by simp only [PyData.depth]; omega) hb
    refine ⟨"tuple", "tuple.__repr__", F.slot_tuple_repr, F.slot_tuple_str, F.slot_tuple_format, fun s hk0 => ⟨o, hk0 _ _ h1, h2⟩, fun A E s Q hg hu hk0 hQ => ?_⟩
    simp only [PyData.depth] at hu
    simp only [PyData.shown] at hQ
    exact call_tuple_reprK h1 h2 h3 hna hk hg (fun b _ => Clear.nil b) hu hk0 hQ hz'
  | dict h1 h2 h3 hsys h4 h5 =>
    rename_i o es n kvs
    have hz' : (dictText (PyData.shownKv kvs)).length ≤ sizeLine := by simpa only [PyData.shown] using hsz
    obtain ⟨hs1, hs2⟩ := PyData.showableKv_split kvs (by simpa [PyData.showable] using hs)
    obtain ⟨b1, hb1, k1⟩ := RdSAll.repr (prog := prog) (w := w) h4 hs1 (fun t ht => let ⟨p, hp, hl⟩ := PyData.shownKv_key_le kvs t ht; Nat.le_trans hl (Nat.le_trans (dictText_mem_le hp) hz'))
    obtain ⟨b2, hb2, k2⟩ := RdSAll.repr (prog := prog) (w := w) h5 hs2 (fun t ht => let ⟨p, hp, hl⟩ := PyData.shownKv_val_le kvs t ht; Nat.le_trans hl (Nat.le_trans (dictText_mem_le hp) hz'))
    have hb : ReadAtMost h₀ (PyData.depthKv kvs) (b1 ++ b2) := (hb1.mono (PyData.depthAll_keys_le kvs)).append (hb2.mono (PyData.depthAll_vals_le kvs))
    have hna : a ∉ b1 ++ b2 := not_mem_of_deeper r00 (by simp only [PyData.depth]; omega) hb
    refine ⟨"dict", "dict.__repr__", F.slot_dict_repr, F.slot_dict_str, F.slot_dict_format, fun s hk0 => ⟨o, hk0 _ _ h1, h2⟩, fun A E s Q hg hu hk0 hQ => ?_⟩
    simp only [PyData.depth] at hu
    simp only [PyData.shown, PyData.shownKv_eq] at hQ
    exact call_dict_reprK h1 h2 h3 hsys hna (ReprEntriesK.of_two es.toList _ _
      (k1.more_le (fun b hb => List.mem_append_left _ hb) (PyData.depthAll_keys_le kvs)) (k2.more_le (fun b hb => List.mem_append_right _ hb) (PyData.depthAll_vals_le kvs))) hg (fun b _ => Clear.nil b) hu hk0 hQ (by rw [← PyData.shownKv_eq]; exact hz')
variable {A : Around} {E : Value → Shared → Prop} {s : Shared} {Q : Value → Shared → Prop}
theorem repr_of_rdS {a : Addr} {d : PyData} (r : RdS s.heap (.ref a) d) (hs : d.showable = true) (hg : A.guards = some []) (hu : A.units + (d.depth + 1) < cLine)
    (hQ : ∀ h' u tk, (∀ b o, s.heap.get? b = some o → h'.get? b = some o) → Q (.str d.shown u) { s with heap := h', toks := tk }) (hsz : d.shown.length ≤ sizeLine) : wpAny (model prog w) A (call (.builtin "repr") [.ref a]) Q E s := by
  obtain ⟨T, idr, S⟩ := shows_of (prog := prog) (w := w) r hs hsz
  exact call_repr_slot (by omega) (S.typeIs s fun _ _ e => e) S.slotRepr (S.call A.in1 E s _ hg (by show A.units + 1 + d.depth < cLine; omega) (fun _ _ e => e) fun h' u tk hk => ⟨_, _, rfl, hQ h' u tk hk⟩)
end
mutual
/-- no dict with tuple keys -/
def noTg : D → Bool
  | .none | .bool _ | .int _ | .str _ => true
  | .list xs => noTgAll xs
  | .tuple xs => noTgAll xs
  | .dict es => (match es with | (.list [], .none) :: _ => false | _ => true) && noTgKv es
def noTgAll : List D → Bool
  | [] => true
  | x :: xs => noTg x && noTgAll xs
def noTgKv : List (D × D) → Bool
  | [] => true
  | (_, v) :: r => noTg v && noTgKv r
end
mutual
theorem Rp.rdS {X : Cx} {pins : List (Addr × Obj)} {σ : L2.St} {H : Hp} {s : Shared} (I : Inv X pins σ H s) : ∀ (d : D) (v : V) (u : Value), noTg d = true → Rp X.K H v d → RelV v u → RdS s.heap u d
  | .none, _, _, _, h, r => by
    cases h
    cases r
    exact .none
  | .bool b, _, _, _, h, r => by
    cases h
    cases r
    exact .bool b
  | .int i, _, _, _, h, r => by
    cases h
    obtain ⟨t, rfl⟩ := r
    exact .int i t
  | .str x, _, _, _, h, r => by
    cases h
    obtain ⟨t, rfl⟩ := r
    exact .str x t
  | .list ds, _, _, hp, h, r => by
    cases h with
    | lst hs ha =>
      cases r
      obtain ⟨its, rv, ⟨o, n, ho, hc, _, hd⟩, _⟩ := I.list hs
      exact .list ho hc hd (RpAll.rdS I ds _ its (by simpa [noTg] using hp) ha rv)
  | .tuple ds, _, _, hp, h, r => by
    cases h with
    | tup hs ha =>
      cases r
      obtain ⟨its, rv, ⟨o, ho, hc, n, hd⟩, _⟩ := I.tuple (SqT.of (K := X.K) hs)
      exact .tuple ho hc hd (RpAll.rdS I ds _ its (by simpa [noTg] using hp) ha rv)
  | .dict es, _, _, hp, h, r => by
    cases h with
    | dct hH hkv =>
      cases r
      obtain ⟨_, hne, vs, kv, o, es', ep, ho, ex, hd, _, pr, _⟩ := I.hok _ _ hH
      have hp' : noTgKv es = true := by
        unfold noTg at hp
        exact (Bool.and_eq_true _ _ ▸ hp).2
      obtain ⟨h1, h2⟩ := RpKv.rdS I es _ vs es'.toList hp' hkv kv pr
      exact .dict ho ex.1 hd hne h1 h2
    | dctT a b => exact absurd hp (by simp [noTg, tagT])
theorem RpAll.rdS {X : Cx} {pins : List (Addr × Obj)} {σ : L2.St} {H : Hp} {s : Shared} (I : Inv X pins σ H s) : ∀ (ds : List D) (vs : List V) (us : List Value), noTgAll ds = true → RpAll X.K H vs ds → Vals vs us → RdSAll s.heap us ds
  | [], _, _, _, h, r => by
    cases h
    cases r
    exact .nil
  | d :: ds, _, _, hp, h, r => by
    have hp' : noTg d = true ∧ noTgAll ds = true := by simpa [noTgAll] using hp
    cases h with
    | cons h1 h2 =>
      cases r with
      | cons r1 r2 => exact .cons (Rp.rdS I d _ _ hp'.1 h1 r1) (RpAll.rdS I ds _ _ hp'.2 h2 r2)
theorem RpKv.rdS {X : Cx} {pins : List (Addr × Obj)} {σ : L2.St} {H : Hp} {s : Shared} (I : Inv X pins σ H s) : ∀ (es : List (D × D)) (ws : List (L2.Key × V)) (vs : List (L2.Key × Value)) (ds : List DictEntry), noTgKv es = true → RpKv X.K H ws es → KV ws vs → Pairs (mixKind X.prog X.w) ds vs →
    RdSAll s.heap (ds.map (·.key)) (es.map (·.1)) ∧ RdSAll s.heap (ds.map (·.val)) (es.map (·.2))
  | [], _, _, _, _, h, k, p => by
    cases h
    cases k
    cases p
    exact ⟨.nil, .nil⟩
  | (kd, d) :: es, _, _, _, hp, h, k, p => by
    have hp' : noTg d = true ∧ noTgKv es = true := by simpa [noTgKv] using hp
    cases h with
    | cons h1 h2 =>
      cases k with
      | cons k1 k2 =>
        cases p with
        | @cons e0 kv0 _ _ p1 p2 p3 =>
          obtain ⟨r1, r2⟩ := RpKv.rdS I es _ _ _ hp'.2 h2 k2 p3
          have q := Rp.rdS I d _ _ hp'.1 h1 (p2 ▸ k1.2)
          rw [← k1.1] at p1
          rename_i kk _ _ _ _ _
          have key : RdS s.heap e0.key (kD kk) := by
            rcases keyIs_shape p1 with ⟨i, t, e1, e2⟩ | ⟨x, t, e1, e2⟩
            · have e1 : kk = Sum.inl i := e1
              rw [e1, e2]
              exact .int i t
            · have e1 : kk = Sum.inr x := e1
              rw [e1, e2]
              exact .str x t
          exact ⟨.cons key r1, .cons q r2⟩
end
theorem rpAll_key {K : Fg} {H : Hp} : ∀ k : List L2.Key, RpAll K H (k.map kV) (k.map kD)
  | [] => .nil
  | .inl i :: r => .cons (.int i) (rpAll_key r)
  | .inr x :: r => .cons (.str x) (rpAll_key r)
theorem noTg_key : ∀ k : List L2.Key, noTgAll (k.map kD) = true
  | [] => rfl
  | .inl i :: r => by
    show (noTg (.int i) && noTgAll (r.map kD)) = true
    rw [noTg_key r]
    rfl
  | .inr x :: r => by
    show (noTg (.str x) && noTgAll (r.map kD)) = true
    rw [noTg_key r]
    rfl
theorem rpKt_rdS {X : Cx} {pins : List (Addr × Obj)} {σ : L2.St} {H : Hp} {s : Shared} (I : Inv X pins σ H s) {kd : Program → World → Unit} : ∀ (es : List (D × D)) (ws : List (List L2.Key × V)) (xs : List (List L2.Key × Addr × Value)), noTgKv es = true → RpKt X.K H ws es →
    Paired (fun (p : List L2.Key × V) (q : List L2.Key × Addr × Value) => p.1 = q.1 ∧ H q.2.1 = some (.tup (p.1.map kV)) ∧ RelV p.2 q.2.2) ws xs →
    RdSAll s.heap ((xs.map (entryOfKey (tupleKind (mixKind X.prog X.w)))).map (·.key)) (es.map (·.1)) ∧ RdSAll s.heap ((xs.map (entryOfKey (tupleKind (mixKind X.prog X.w)))).map (·.val)) (es.map (·.2))
  | [], _, _, _, h, p => by
    cases h
    cases p
    exact ⟨.nil, .nil⟩
  | (kd0, d) :: es, _, _, hp, h, p => by
    have hp' : noTg d = true ∧ noTgKv es = true := by simpa [noTgKv] using hp
    cases h with
    | @cons k v ws _ _ h1 h2 =>
      cases p with
      | @cons _ q _ _ p1 p2 =>
        obtain ⟨r1, r2⟩ := rpKt_rdS I (kd := kd) es _ _ hp'.2 h2 p2
        have key : RdS s.heap (.ref q.2.1) (tupK k) := Rp.rdS I (tupK k) (.ref q.2.1) _ (by show noTg (.tuple (k.map kD)) = true; rw [noTg]; exact noTg_key k) (.tup p1.2.1 (rpAll_key k)) rfl
        exact ⟨.cons key r1, .cons (Rp.rdS I d _ _ hp'.1 h1 p1.2.2) r2⟩
/-- a dict with tuple keys is shown without its mark -/
def shX : D → D
  | .dict ((.list [], .none) :: es) => .dict es
  | d => d
def tgTop : D → Bool
  | .dict ((.list [], .none) :: es) => noTgKv es
  | d => noTg d
def okrX (d : D) : Bool := tgTop d && decide ((shX d).depth ≤ 60) && (shX d).showable && decide ((shX d).shown.length ≤ 16000000)
theorem okrX_iff {d : D} (h : okrX d = true) : tgTop d = true ∧ (shX d).depth ≤ 60 ∧ (shX d).showable = true ∧ (shX d).shown.length ≤ sizeLine := by
  unfold okrX at h
  rw [Bool.and_eq_true, Bool.and_eq_true, Bool.and_eq_true, decide_eq_true_eq, decide_eq_true_eq] at h
  exact ⟨h.1.1.1, h.1.1.2, h.1.2, sz16 h.2⟩
theorem kv_tag {K : Fg} {H : Hp} {ws : List (L2.Key × V)} {x : D} {es : List (D × D)} (h : RpKv K H ws ((.list [], x) :: es)) : False := by
  generalize he : ((PyData.list [], x) :: es) = L at h
  cases h with
  | nil => cases he
  | @cons k _ _ _ _ _ _ =>
    have := congrArg Prod.fst (List.cons.inj he).1
    cases k <;> cases this
theorem Rp.rdX {X : Cx} {pins : List (Addr × Obj)} {σ : L2.St} {H : Hp} {s : Shared} (I : Inv X pins σ H s) {d : D} {v : V} {u : Value} (ht : tgTop d = true) (h : Rp X.K H v d) (r : RelV v u) : RdS s.heap u (shX d) := by
  unfold tgTop at ht
  unfold shX
  split at ht
  · rename_i es
    cases h with
    | dct hH hkv => exact (kv_tag hkv).elim
    | dctT hH hkt =>
      cases r
      obtain ⟨_, _, hne, xs, pr, o, es', ep, ho, ex, hd, he, _⟩ := I.hok _ _ hH
      obtain ⟨h1, h2⟩ := rpKt_rdS I (kd := fun _ _ => ()) es _ xs ht hkt pr
      exact .dict ho ex.1 hd hne (by rw [he]; exact h1) (by rw [he]; exact h2)
  · exact Rp.rdS I d v u ht h r
def rReprX (K : Fg) : V → Hp → VK → Prop := fun x H Q => ∃ d, Rp K H x d ∧ okrX d = true ∧ Q (.str (shX d).shown) H
theorem call_reprX {X : Cx} {k : Nat} (hr : Rg k X.A) : CallR X (.builtin "repr") (fun xs H Q => ∃ x, xs = [x] ∧ rReprX X.K x H Q) := by
  intro pins s σ H xs us Q I r h
  obtain ⟨x, rfl, d, hd, ok, q⟩ := h
  obtain ⟨u, rfl, rx⟩ := vals1 r
  have hu := hr.units
  obtain ⟨tt, dp, sh, sz⟩ := okrX_iff ok
  have r1 := Rp.rdX I tt hd rx
  generalize shX d = e at *
  have seqs : ∀ a, u = .ref a → wpAny (model X.prog X.w) X.A (call (.builtin "repr") [u]) (EP X pins σ Q) X.xe s := fun a e => by
    subst e
    exact repr_of_rdS r1 sh hr.g (by omega) (fun h' t tk hk => ⟨.str _, H, I.kept hk, ⟨t, rfl⟩, q⟩) sz
  cases r1 with
  | list h1 h2 h3 h4 => exact seqs _ rfl
  | tuple h1 h2 h3 h4 => exact seqs _ rfl
  | dict h1 h2 h3 h4 h5 => exact seqs _ rfl
  | none => exact PySem.P.repr_of_none ⟨.str _, H, I.tok _, ⟨_, rfl⟩, q⟩
  | bool b => exact PySem.P.repr_of_bool ⟨.str _, H, I.tok _, ⟨_, rfl⟩, q⟩
  | int i => exact PySem.P.repr_of_int (by simpa [PyData.showable] using sh) ⟨.str _, H, I.tok _, ⟨_, rfl⟩, q⟩
  | str z => exact PySem.P.repr_of_str ⟨.str _, H, I.tok _, ⟨_, rfl⟩, q⟩ (by simpa [PyData.shown] using sz)
def opReprX : Od → Option Rv
  | .d d => if okrX d = true then some (.d (.str (shX d).shown)) else none
  | _ => none
theorem s_reprX {K : Fg} : Op1S K (fun v H Q => ∃ x, [v] = [x] ∧ rReprX K x H Q) opReprX := by
  intro w x o rv Q hx h e q
  unfold opReprX at e
  split at e
  · split at e
    · rename_i d hd
      cases e
      exact ⟨x, rfl, d, h.rp hx, hd, post_str q⟩
    · cases e
  · cases e
section
variable {X : Cx} {ec : EC} {W : WX} {k : Nat}
theorem e_reprX {a : Expr} {ca : CE} {p pos : Pos} (hr : Rg k X.A) (hm : X.mg "repr" = none) (ha : Ex X ec W a ca) (hg : Gl X "repr" := by rfl) (h1 : starEach [a] X.env = (false, eval a X.env) :: starEach [] X.env := by rfl) (h2 : (backTo pos (starEach [] X.env)).any (·.1) = false := by rfl) :
    Ex X ec W (.Call (.Name "repr" p) [a] [] pos) (cOp1 opReprX ca) :=
  e_call1 (call_reprX hr) s_reprX hm (by decide +kernel) ha hg (by decide) (by decide) h1 h2
end
end Vm
namespace Vm
open PySem L2
/-! ### the fourth draw: a list pen that holds the script itself -/
def fPenS : Fn := runF 1 (cRet (cLst (cCons (cVar 0) (cCons (cC (.int 0)) (cCons (cC (.int 0)) cNil)))))
theorem penS_new {ns : List Int} : fPenS [.d (.list (ns.map PyData.int))] [] = .ok (.new (penL ns 0 0)) [] := by
  unfold fPenS
  rw [runF_s]
  simp [penL]
def cRestS : CS :=
 (cSeq (cIfS (tAnd' (cB (cOp2 opLt (cVar 3) (cOp1 opLen (cOp2 opIx (cVar 0) (cC (.int 0)))))) (cB (cOp2 opGe (cOp1 opAbs (cVar 4)) (cOp2 opPow (cC (.int 10)) (cC (.int 18))))))
 (cSeq (cPutL (cVar 0) (cC (.int 2)) (cOp2 opDiv (cOp1 opAbs (cVar 4)) (cVar 1)))
 (cRet (cOp2 opMod (cOp1 opAbs (cVar 4)) (cVar 1))))
 cNx)
 (cSeq (cSet 5 (cOp2 opIx (cTup (cCons (cC (.int 2147483629)) (cCons (cC (.int 2147483587)) (cCons (cC (.int 2147483647)) (cCons (cC (.int 2147483563)) (cCons (cC (.int 2147483579)) (cCons (cC (.int 2147483543)) (cCons (cC (.int 2147483549)) cNil)))))))) (cOp2 opMod (cVar 3) (cC (.int 7)))))
 (cSeq (cSet 6 (cOp2 opMod (cOp2 opPow (cOp2 opAdd (cOp2 opMulV (cOp2 opMod (cVar 4) (cVar 5)) (cOp2 opAdd (cOp2 opMulV (cC (.int 2)) (cVar 3)) (cC (.int 5)))) (cVar 3)) (cC (.int 5))) (cVar 5)))
 (cSeq (cSet 6 (cOp2 opMod (cOp2 opAdd (cOp2 opMulV (cVar 6) (cOp2 opAdd (cOp2 opAdd (cOp2 opMod (cVar 6) (cC (.int 65519))) (cVar 3)) (cC (.int 1)))) (cOp2 opMod (cVar 4) (cC (.int 65521)))) (cC (.int 2147483489))))
 (cRet (cOp2 opMod (cOp2 opDiv (cVar 6) (cC (.int 32))) (cVar 1)))))))
def cDrawS : CS :=
 (cSeq (cIfS (cB (cOp2 opGt (cOp2 opIx (cVar 0) (cC (.int 2))) (cC (.int 0))))
 (cSeq (cSet 2 (cOp2 opMod (cOp2 opIx (cVar 0) (cC (.int 2))) (cVar 1)))
 (cSeq (cPutL (cVar 0) (cC (.int 2)) (cOp2 opDiv (cOp2 opIx (cVar 0) (cC (.int 2))) (cVar 1)))
 (cRet (cVar 2))))
 cNx)
 (cSeq (cSet 3 (cOp2 opIx (cVar 0) (cC (.int 1))))
 (cSeq (cPutL (cVar 0) (cC (.int 1)) (cOp2 opAdd (cVar 3) (cC (.int 1))))
 (cSeq (cSet 4 (cOp2 opAdd (cOp2 opMulV (cC (.int 13)) (cVar 3)) (cC (.int 7))))
 (cSeq (cIfS (cB (cOp2 opGt (cOp1 opLen (cOp2 opIx (cVar 0) (cC (.int 0)))) (cC (.int 0))))
 (cSet 4 (cOp2 opIx (cOp2 opIx (cVar 0) (cC (.int 0))) (cOp2 opMod (cVar 3) (cOp1 opLen (cOp2 opIx (cVar 0) (cC (.int 0)))))))
 cNx)
 cRestS)))))
def fDrawS : Fn := runF 7 cDrawS
theorem restS {cells : List Int} {at' c many : Int} {r : List Cell} {B : Nat} (h63 : cells.length ≤ 63) (ha0 : 0 ≤ at') (haB : at' ≤ B) (hB : B < 1000000) (hm : 0 < many) (hm2 : many.natAbs.log2 < 9000) :
    ∃ v p' v', cRestS ⟨[.c 0, .d (.int many), .u, .d (.int at'), .d (.int c), .u, .u], penL cells (at' + 1) 0 :: r⟩ = .rt (.d (.int v)) ⟨v', p' :: r⟩ ∧ 0 ≤ v ∧ v < many ∧ IsPenL (B + 1) p' := by
  have hp : opPow (.d (.int 10)) (.d (.int 18)) = some (.d (.int 1000000000000000000)) := rfl
  obtain ⟨a, ha⟩ : ∃ a : Int, (if c < 0 then -c else c) = a := ⟨_, rfl⟩
  have oa : opAbs (.d (.int c)) = some (.d (.int a)) := by rw [← ha]; rfl
  have ab : 0 ≤ a := by rw [← ha]; split <;> omega
  by_cases h : at' < cells.length ∧ 1000000000000000000 ≤ a
  · refine ⟨a % many, penL cells (at' + 1) (a / many), [.c 0, .d (.int many), .u, .d (.int at'), .d (.int c), .u, .u], ?_, Int.emod_nonneg _ (by omega), Int.emod_lt_of_pos _ hm, cells, at' + 1, _, rfl, h63, by omega, by omega, Int.ediv_nonneg ab (by omega)⟩
    simp [-opAbs_i, oa, cRestS, hp, h.1, h.2, opMod_i hm, opDiv_i hm hm2, penL, gL0, pL2]
  · have hn : (at' < cells.length → ¬ (1000000000000000000 ≤ a)) := fun a b => h ⟨a, b⟩
    obtain ⟨pr, hpr, hp0, hpb⟩ : ∃ pr : Int, atI [PyData.int 2147483629, .int 2147483587, .int 2147483647, .int 2147483563, .int 2147483579, .int 2147483543, .int 2147483549] (at' % 7) = some (.int pr) ∧ 0 < pr ∧ pr ≤ 2147483647 := by
      have h7 : at' % 7 = 0 ∨ at' % 7 = 1 ∨ at' % 7 = 2 ∨ at' % 7 = 3 ∨ at' % 7 = 4 ∨ at' % 7 = 5 ∨ at' % 7 = 6 := by omega
      rcases h7 with e | e | e | e | e | e | e <;> rw [e]
      · exact ⟨2147483629, rfl, by decide, by decide⟩
      · exact ⟨2147483587, rfl, by decide, by decide⟩
      · exact ⟨2147483647, rfl, by decide, by decide⟩
      · exact ⟨2147483563, rfl, by decide, by decide⟩
      · exact ⟨2147483579, rfl, by decide, by decide⟩
      · exact ⟨2147483543, rfl, by decide, by decide⟩
      · exact ⟨2147483549, rfl, by decide, by decide⟩
    have hc1 : 0 ≤ c % pr := Int.emod_nonneg _ (by omega)
    have hc2 : c % pr < pr := Int.emod_lt_of_pos _ hp0
    have m0 : opMulV (.d (.int 2)) (.d (.int at')) = some (.d (.int (2 * at'))) := opMul_i (mulOk_small (by omega) (by omega))
    have m1 : opMulV (.d (.int (c % pr))) (.d (.int (2 * at' + 5))) = some (.d (.int (c % pr * (2 * at' + 5)))) := opMul_i (mulOk_small (by omega) (by omega))
    have b0 : 0 ≤ c % pr * (2 * at' + 5) := Int.mul_nonneg hc1 (by omega)
    have b1 : c % pr * (2 * at' + 5) ≤ 2147483647 * 2000005 := Int.mul_le_mul (by omega) (by omega) (by omega) (by omega)
    have p1 : opPow (.d (.int (c % pr * (2 * at' + 5) + at'))) (.d (.int 5)) = some (.d (.int ((c % pr * (2 * at' + 5) + at') ^ 5))) := opPow_i (by decide) (by decide) (by omega)
    generalize hx : (c % pr * (2 * at' + 5) + at') ^ 5 % pr = x at *
    have hx0 : 0 ≤ x := by rw [← hx]; exact Int.emod_nonneg _ (by omega)
    have hx1 : x < 2147483647 := by have := Int.emod_lt_of_pos ((c % pr * (2 * at' + 5) + at') ^ 5) hp0; omega
    have hz0 : 0 ≤ x % 65519 := Int.emod_nonneg _ (by decide)
    have hz1 : x % 65519 < 65519 := Int.emod_lt_of_pos _ (by decide)
    have m2 : opMulV (.d (.int x)) (.d (.int (x % 65519 + at' + 1))) = some (.d (.int (x * (x % 65519 + at' + 1)))) := opMul_i (mulOk_small (by omega) (by omega))
    generalize hy : (x * (x % 65519 + at' + 1) + c % 65521) % 2147483489 = y at *
    refine ⟨y / 32 % many, penL cells (at' + 1) 0, [.c 0, .d (.int many), .u, .d (.int at'), .d (.int c), .d (.int pr), .d (.int y)], ?_, Int.emod_nonneg _ (by omega), Int.emod_lt_of_pos _ hm, cells, at' + 1, 0, rfl, h63, by omega, by omega, by omega⟩
    have ix := opIx_t hpr
    by_cases h1 : at' < cells.length
    · simp [-opAbs_i, oa, cRestS, hp, h1, hn h1, opMod_i hm, opMod_i hp0, opMod_i, opDiv_s, m0, m1, m2, p1, hx, hy, ix, hp0, penL, gL0]
    · simp [-opAbs_i, oa, cRestS, hp, h1, opMod_i hm, opMod_i hp0, opMod_i, opDiv_s, m0, m1, m2, p1, hx, hy, ix, hp0, penL, gL0]
theorem drawS : IsDraw fDrawS IsPenL := by
  intro B p r many hp hB hm hm2
  obtain ⟨cells, at', left, rfl, h63, ha0, haB, hl⟩ := hp.ex
  unfold fDrawS
  rw [runF_s]
  by_cases h : 0 < left
  · refine ⟨left % many, penL cells at' (left / many), ?_, Int.emod_nonneg _ (by omega), Int.emod_lt_of_pos _ hm, cells, at', left / many, rfl, h63, ha0, by omega, Int.ediv_nonneg hl (by omega)⟩
    simp [cDrawS, h, opMod_i hm, opDiv_i hm hm2, penL, gL2, pL2]
  · have hl0 : left = 0 := by omega
    subst hl0
    have m1 : opMulV (.d (.int 13)) (.d (.int at')) = some (.d (.int (13 * at'))) := opMul_i (mulOk_small (by omega) (by omega))
    by_cases hc : 0 < cells.length
    · have hc' : (0 : Int) < cells.length := by omega
      have hi0 : 0 ≤ at' % cells.length := Int.emod_nonneg _ (by omega)
      have hi1 : at' % cells.length < cells.length := Int.emod_lt_of_pos _ hc'
      obtain ⟨c, hcx⟩ : ∃ c, cells[(at' % (cells.length : Int)).toNat]? = some c := ⟨_, List.getElem?_eq_getElem (by omega)⟩
      have ix := opIx_l (ds := cells.map PyData.int) (i := at' % cells.length) (x := .int c) (atI_nat hi0 (by rw [List.getElem?_map, hcx]; rfl))
      obtain ⟨v, p', v', e, h1, h2, h3⟩ := restS (c := c) (r := r) h63 ha0 haB hB hm hm2
      refine ⟨v, p', ?_, h1, h2, h3⟩
      simp only [penL] at e
      simp [cDrawS, h, m1, hc, hc', opMod_i hc', ix, e, penL, gL0, gL1, gL2, pL1]
    · obtain ⟨v, p', v', e, h1, h2, h3⟩ := restS (c := 13 * at' + 7) (r := r) h63 ha0 haB hB hm hm2
      refine ⟨v, p', ?_, h1, h2, h3⟩
      simp only [penL] at e
      simp [cDrawS, h, m1, hc, e, penL, gL0, gL1, gL2, pL1]
theorem dS {B : Nat} {p : Cell} (r : List Cell) (many : Int) (hp : IsPenL B p) (hB : B < 1000000 := by omega) (hm : 0 < many := by omega) (h2 : many < 18446744073709551616 := by omega) : ∃ v p', fDrawS [.c 0, .d (.int many)] (p :: r) = .ok (.d (.int v)) (p' :: r) ∧ 0 ≤ v ∧ v < many ∧ IsPenL (B + 1) p' := by
  obtain ⟨v, p', h⟩ := drawS B p r many hp hB hm (log2_many hm (by omega))
  exact ⟨v, p', h⟩
end Vm
namespace Vm
open PySem L2
/-! ### lowest terms, the fourth way; the sum of shares by it -/
def cShareS : CS :=
 (cSeq (cSet 2 (cOp1 opAbs (cVar 0)))
 (cSeq (cSet 3 (cVar 1))
 (cSeq (cWh (fun _ => 1000000) (cB (cOp2 opGt (cVar 3) (cC (.int 0))))
 (cPar 2 3 (cVar 3) (cOp2 opMod (cVar 2) (cVar 3))))
 (cRet (cTup (cCons (cOp2 opDiv (cVar 0) (cVar 2)) (cCons (cOp2 opDiv (cVar 1) (cVar 2)) cNil)))))))
def fShareS : Fn := runF 4 cShareS
theorem shareS_loop {a b k : Nat} {t u : Int} (hb : b < 2 ^ k) (hk : k < 400000) : whL (cB (cOp2 opGt (cVar 3) (cC (.int 0)))) (cPar 2 3 (cVar 3) (cOp2 opMod (cVar 2) (cVar 3))) 1000000 ⟨[.d (.int t), .d (.int u), .d (.int a), .d (.int b)], []⟩ = .nx ⟨[.d (.int t), .d (.int u), .d (.int (Nat.gcd a b : Nat)), .d (.int 0)], []⟩ := by
  obtain ⟨s', e, q⟩ := whL_inv (t := cB (cOp2 opGt (cVar 3) (cC (.int 0)))) (b := cPar 2 3 (cVar 3) (cOp2 opMod (cVar 2) (cVar 3)))
    (fun k s => ∃ x y j : Nat, s = ⟨[.d (.int t), .d (.int u), .d (.int x), .d (.int y)], []⟩ ∧ Nat.gcd x y = Nat.gcd a b ∧ ((k = 2 * j ∧ y < 2 ^ j) ∨ (k + 1 = 2 * j ∧ y < x ∧ x < 2 ^ j)))
    (fun s => s = ⟨[.d (.int t), .d (.int u), .d (.int (Nat.gcd a b : Nat)), .d (.int 0)], []⟩) (fun k s hi => by
      obtain ⟨x, y, j, rfl, hg, hc⟩ := hi
      by_cases hy : y = 0
      · subst hy
        refine .inl ⟨⟨[.d (.int t), .d (.int u), .d (.int x), .d (.int 0)], []⟩, by simp, ?_⟩
        rw [Nat.gcd_zero_right] at hg
        rw [hg]
      · have hy0 : 0 < y := Nat.pos_of_ne_zero hy
        have hyI : (0 : Int) < (y : Int) := by omega
        have hm := Nat.mod_lt x hy0
        have om : opMod (.d (.int x)) (.d (.int y)) = some (.d (.int ((x % y : Nat) : Int))) := opMod_i hyI
        have hgcd : Nat.gcd y (x % y) = Nat.gcd a b := by
          rw [← hg, Nat.gcd_comm x y, Nat.gcd_rec y x, Nat.gcd_comm]
        suffices hh : ∃ k', k' < k ∧ ∃ j : Nat, ((k' = 2 * j ∧ x % y < 2 ^ j) ∨ (k' + 1 = 2 * j ∧ x % y < y ∧ y < 2 ^ j)) by
          obtain ⟨k', hk', j', hj⟩ := hh
          exact .inr ⟨⟨[.d (.int t), .d (.int u), .d (.int x), .d (.int y)], []⟩, ⟨[.d (.int t), .d (.int u), .d (.int y), .d (.int ((x % y : Nat) : Int))], []⟩, k', by simp [hy0], .inl (by simp [om]), hk', ⟨y, x % y, j', rfl, hgcd, hj⟩⟩
        rcases hc with ⟨hk, hlt⟩ | ⟨hk, hlt, hx⟩
        · have hj : j ≠ 0 := fun z => by
            rw [z] at hlt
            have : (2 : Nat) ^ 0 = 1 := rfl
            omega
          exact ⟨2 * j - 1, by omega, j, .inr ⟨by omega, hm, hlt⟩⟩
        · have h2 := two_mod hy0 (Nat.le_of_lt hlt)
          have hj : j = j - 1 + 1 := by omega
          rw [hj, Nat.pow_succ] at hx
          exact ⟨2 * (j - 1), by omega, j - 1, .inl ⟨rfl, by omega⟩⟩) 1000000 (2 * k) ⟨[.d (.int t), .d (.int u), .d (.int a), .d (.int b)], []⟩ (by omega) ⟨a, b, k, rfl, rfl, .inl ⟨rfl, hb⟩⟩
  rw [e, q]
theorem shareS_eq {t u : Int} {k : Nat} (h1 : 1 ≤ u) (hk : Bs k u) (hk2 : k ≤ 8900) : fShareS [.d (.int t), .d (.int u)] [] = fReduced [.d (.int t), .d (.int u)] [] := by
  have e1 := shareS_loop (a := t.natAbs) (b := u.natAbs) (k := k) (t := t) (u := u) hk (by omega)
  have e2 := measure_ok (a := t.natAbs) (b := u.natAbs) (k := k) hk (by omega)
  rw [show ((u.natAbs : Nat) : Int) = u by omega] at e1 e2
  have oa : opAbs (.d (.int t)) = some (.d (.int (t.natAbs : Nat))) := by
    show some (Rv.d (PyData.int (if t < 0 then -t else t))) = _
    rw [show (if t < 0 then -t else t) = ((t.natAbs : Nat) : Int) by split <;> omega]
  unfold fShareS fReduced
  rw [runF_s, runF_s]
  generalize ((t.natAbs : Nat) : Int) = a at *
  show fin [] (cSeq _ _ _) = _
  simp only [cShareS, cReduced]
  have e1 : cWh (fun _ => 1000000) (cB (cOp2 opGt (cVar 3) (cC (.int 0)))) (cPar 2 3 (cVar 3) (cOp2 opMod (cVar 2) (cVar 3))) ⟨[.d (.int t), .d (.int u), .d (.int a), .d (.int u)], []⟩ = _ := e1
  generalize cWh (fun _ => 1000000) (cB (cOp2 opGt (cVar 3) (cC (.int 0)))) (cPar 2 3 (cVar 3) (cOp2 opMod (cVar 2) (cVar 3))) = wh at *
  have hg : 0 < Int.gcd t u := gcd_pos (a := t) (by omega)
  have hlt : ((Int.gcd t u : Nat) : Int).natAbs.log2 < 9000 := by
    have hb1 : Bs k ((Int.gcd t u : Nat) : Int) := hk.le (by
      show Int.gcd t u ≤ u.natAbs
      exact Nat.le_of_dvd (Int.natAbs_pos.mpr (by omega)) (Int.natAbs_dvd_natAbs.mpr (Int.gcd_dvd_right ..)))
    have := hb1.log
    omega
  have eg : Nat.gcd t.natAbs u.natAbs = Int.gcd t u := rfl
  rw [eg] at e1 e2
  generalize Int.gcd t u = g at *
  have d1 : opDiv (.d (.int t)) (.d (.int (g : Nat))) = some (.d (.int (t / (g : Int)))) := opDiv_i (by omega) hlt
  have d2 : opDiv (.d (.int u)) (.d (.int (g : Nat))) = some (.d (.int (u / (g : Int)))) := opDiv_i (by omega) hlt
  simp [-opAbs_i, oa, e1, e2, d1, d2]
theorem shareS_ok {top bot : Int} {j k : Nat} (hb : 1 ≤ bot) (ht : Bs j top) (hk : Bs k bot) (hk2 : k ≤ 8900) :
    ∃ p q, fShareS [.d (.int top), .d (.int bot)] [] = .ok (.d (shD p q)) [] ∧ Sh (max j k) p q ∧ p * bot = top * q := by
  rw [shareS_eq hb hk hk2]
  exact reduced_ok hb ht hk hk2
section
variable {j k : Nat} {a b : D} {x y : Rat}
def cSumS : CS :=
 (cSeq (cSet 1 (cC (.int 0)))
 (cSeq (cSet 2 (cC (.int 1)))
 (cSeq (cFor (ciSeq (cVar 0)) (tgN 3)
 (cAsg (tgTup 2 (tgCons (tgN 1) (tgCons (tgN 2) tgNil))) (cCallP fShareS (lCons (cOp2 opAdd (cOp2 opMulV (cVar 1) (cOp2 opIx (cVar 3) (cC (.int 1)))) (cOp2 opMulV (cOp2 opIx (cVar 3) (cC (.int 0))) (cVar 2))) (lCons (cOp2 opMulV (cVar 2) (cOp2 opIx (cVar 3) (cC (.int 1)))) lNil)))))
 (cRet (cTup (cCons (cVar 1) (cCons (cVar 2) cNil)))))))
def fSumS : Fn := runF 4 cSumS
/-- the sum of a list or tuple of told shares, of at most k bits each -/
theorem sumS_t {k : Nat} {X : D} (ds : List D) (xs : List Rat) (hX : X = .list ds ∨ X = .tuple ds) (hl : ds.length = xs.length) (h : ∀ (i : Nat) (d : D) (x : Rat), ds[i]? = some d → xs[i]? = some x → Tell k d x) (hk : 1 + (k + 1) * ds.length + k ≤ 8000) : ∃ d, fSumS [.d X] [] = .ok (.d d) [] ∧ Tell (1 + (k + 1) * ds.length) d xs.sum := by
  have sq : ∀ v m, ciSeq (cVar 0) ⟨.d X :: v, m⟩ = .ok ds ⟨.d X :: v, m⟩ := fun v m => by
    rcases hX with rfl | rfl <;> simp
  obtain ⟨s', e, P, Q, x3, rfl, sh, hy⟩ := forL_inv (tg := tgN 3) (body := cAsg (tgTup 2 (tgCons (tgN 1) (tgCons (tgN 2) tgNil))) (cCallP fShareS (lCons (cOp2 opAdd (cOp2 opMulV (cVar 1) (cOp2 opIx (cVar 3) (cC (.int 1)))) (cOp2 opMulV (cOp2 opIx (cVar 3) (cC (.int 0))) (cVar 2))) (lCons (cOp2 opMulV (cVar 2) (cOp2 opIx (cVar 3) (cC (.int 1)))) lNil)))) (ds := ds) (fun i s => ∃ P Q x3, s = ⟨[.d X, .d (.int P), .d (.int Q), x3], []⟩ ∧ Sh (1 + (k + 1) * i) P Q ∧ (P : Rat) = (xs.take i).sum * Q) (s := ⟨[.d X, .d (.int 0), .d (.int 1), .u], []⟩) ⟨0, 1, _, rfl, ⟨by decide, by decide, show (0 : Int).natAbs < 2 ^ 1 by decide, show (1 : Int).natAbs < 2 ^ 1 by decide⟩, by simp [Rat.zero_mul]⟩ fun i s d hd hi => by
    obtain ⟨P, Q, x3, rfl, sh, hy⟩ := hi
    have hi := (List.getElem?_eq_some_iff.mp hd).1
    have hx : xs[i]? = some xs[i] := List.getElem?_eq_getElem (by omega)
    have hm : (k + 1) * (i + 1) ≤ (k + 1) * ds.length := Nat.mul_le_mul_left _ (by omega)
    have hs : (k + 1) * (i + 1) = (k + 1) * i + (k + 1) := Nat.mul_succ _ _
    obtain ⟨p, q, rfl, s2, r2⟩ := (h i d _ hd hx).ex
    have m1 : opMulV (.d (.int P)) (.d (.int q)) = some (.d (.int (P * q))) := opMul_i (sh.bp.mulOk s2.bq (by omega))
    have m2 : opMulV (.d (.int p)) (.d (.int Q)) = some (.d (.int (p * Q))) := opMul_i (s2.bp.mulOk sh.bq (by omega))
    have m3 : opMulV (.d (.int Q)) (.d (.int q)) = some (.d (.int (Q * q))) := opMul_i (sh.bq.mulOk s2.bq (by omega))
    have b1 : Bs (1 + (k + 1) * i + k + 1) (P * q + p * Q) := by
      have z1 := sh.bp.mul s2.bq
      have z2 := s2.bp.mul sh.bq
      rw [Nat.add_comm k] at z2
      exact z1.add z2 (Nat.le_refl _) (Nat.le_refl _)
    have b2 : Bs (1 + (k + 1) * i + k) (Q * q) := sh.bq.mul s2.bq
    have q1 : 1 ≤ Q * q := by
      have := sh.pos
      have := s2.pos
      exact Int.mul_pos (by omega) (by omega)
    obtain ⟨P', Q', e, s3, r3⟩ := shareS_ok q1 b1 b2 (by omega)
    have i0 : opIx (.d (shD p q)) (.d (.int 0)) = some (.d (.int p)) := rfl
    have i1 : opIx (.d (shD p q)) (.d (.int 1)) = some (.d (.int q)) := rfl
    refine ⟨_, ⟨[.d X, .d (.int P'), .d (.int Q'), .d (shD p q)], []⟩, rfl, .inl ?_, P', Q', _, rfl, s3.mono (by omega), ?_⟩
    · have e : fShareS [.d (.int (P * q + p * Q)), .d (.int (Q * q))] [] = .ok (.d (.tuple [.int P', .int Q'])) [] := e
      simp [i0, i1, m1, m2, m3, e, asg_2]
    · rw [List.take_add_one, hx, List.sum_append]
      have h1 := rat_ne sh.pos
      have h2 := rat_ne s2.pos
      rw [← Rat.intCast_inj, Rat.intCast_mul, Rat.intCast_mul, Rat.intCast_mul, Rat.intCast_add, Rat.intCast_mul, Rat.intCast_mul, hy, r2] at r3
      generalize (xs.take i).sum = y at *
      have h3 : (Q : Rat) * q ≠ 0 := by grind
      simp [Rat.add_zero]
      grind
  refine ⟨shD P Q, ?_, P, Q, rfl, sh, ?_⟩
  · unfold fSumS
    rw [runF_s]
    rcases hX with rfl | rfl <;> simp [cSumS, e, shD]
  · rw [hl, List.take_length] at hy
    exact hy
end
end Vm
namespace Vm
open PySem L2 PySem.Spec PyProof.Rows
/-! ### a def under another global name -/
structure DefA (K : Fg) (mg : Str → Option Value) (x z : Str) (st : Stmt) (ps : List Str) : Prop where
  ex : ∃ f fd, Fun K z z st f fd ∧ mg x = some (.ref f) ∧ ∀ us : List Value, us.length = ps.length → bindArgs fd ⟨us, []⟩ = pure (ps.zip us)
section
variable {P : Program} {wo : World} {K : Fg} {mg : Str → Option Value} {base : Heap} {ec : EC} {x z : Str} {st : Stmt} {ps : List Str} {k : Nat} {f : Fn}
theorem DefA.cal (D : DefA K mg x z st ps) (h : ∀ {fa : Addr} {fd : FuncData}, Fun K z z st fa fd → FnG P wo K mg base k fa fd ps (spF K ec ps.length f)) : Cal P wo K mg base ec x ps f k := by
  obtain ⟨fa, fd, F, hm, hb⟩ := D.ex
  obtain ⟨oc, od, kV, doc, pm, an, cdv, ct, osl, e, lk, _⟩ := F.ex
  exact ⟨fa, fd, oc, od, osl, lk, h F, hm, F.kp, .all hb⟩
end
end Vm
namespace Vm
open PySem L2
/-! ### the order of loads: plain laws -/
theorem Maj.trans {xs ys zs : List Int} (h : Maj xs ys) (g : Maj ys zs) (hl : xs.length = ys.length) : Maj xs zs := fun k hk => Int.le_trans (h k hk) (g k (by omega))
/-! ### a move makes no fuller -/
/-! ### lists of moves, walked -/
theorem Leads.append : ∀ {qs rs : List (Nat × Nat)} {ys zs xs : List Int}, Leads qs ys zs → Leads rs zs xs → Leads (qs ++ rs) ys xs
  | [], rs, ys, zs, xs, h, g => by
    have h : ys = zs := h
    subst h
    exact g
  | q :: qs, rs, ys, zs, xs, ⟨h1, h2, h3, h4⟩, g => ⟨h1, h2, h3, h4.append g⟩
/-! ### all in one box, and all even -/
end Vm
namespace Vm
open PySem L2 PySem.Spec PyProof.Rows
/-! ### a def handed to a def that calls it -/
/-- the start in which a slot f holds the def at a -/
abbrev EC.fn (ec : EC) (a : Addr) : EC := { ec with lf := a }
theorem Mem.fn {ec : EC} {K : Fg} {w : Wd} {m : List Cell} (h : Mem ec K w m) (a : Addr) : Mem (ec.fn a) K w m :=
  ⟨h.ext, h.len, h.nd, h.cell, h.fo, h.tab, h.inv, h.gt, h.nv⟩
theorem Mem.unfn {ec : EC} {a : Addr} {K : Fg} {w : Wd} {m : List Cell} (h : Mem (ec.fn a) K w m) : Mem ec K w m :=
  ⟨h.ext, h.len, h.nd, h.cell, h.fo, h.tab, h.inv, h.gt, h.nv⟩
theorem ExcF.fn {K : Fg} {mg : Str → Option Value} {ec : EC} {x : Str} {n : String} (h : ExcF K mg ec x n) (a : Addr) : ExcF K mg (ec.fn a) x n := ⟨h.g, h.x, h.k, h.b, h.t⟩
theorem IsF.fn {K : Fg} {mg : Str → Option Value} {ec : EC} {x : Str} {n : String} (h : IsF K mg ec x n) (a : Addr) : IsF K mg (ec.fn a) x n := ⟨h.ex⟩
theorem CatF.fn {K : Fg} {mg : Str → Option Value} {ec : EC} {x : Str} {L : List String} (h : CatF K mg ec x L) (a : Addr) : CatF K mg (ec.fn a) x L := ⟨h.ex⟩
theorem FOk.fn {K : Fg} {ec : EC} {a : Addr} {Q : VK} {E : XK} {w : Wd} {rf : RF} (h : FOk K ec Q E w rf) : FOk K (ec.fn a) Q E w rf := by
  cases rf with
  | bad => exact h
  | ex n m' => exact fun w2 le2 m2 => h w2 le2 m2.unfn
  | ok x m' => exact fun y w2 le2 m2 o fr => h y w2 le2 m2.unfn o fr
theorem FOk.unfn {K : Fg} {ec : EC} {a : Addr} {Q : VK} {E : XK} {w : Wd} {rf : RF} (h : FOk K (ec.fn a) Q E w rf) : FOk K ec Q E w rf := by
  cases rf with
  | bad => exact h
  | ex n m' => exact fun w2 le2 m2 => h w2 le2 (m2.fn a)
  | ok x m' => exact fun y w2 le2 m2 o fr => h y w2 le2 (m2.fn a) o fr
end Vm
namespace Vm
open PySem L2 PySem.Spec PyProof.Rows
/-! ### rules beside one another; whole numbers drawn (D), some moved behind, their rule -/
def cNeedAR : CS :=
 (cIfS (cB (cOp2 opNe (cOp1 opLen (cVar 0)) (cOp1 opLen (cVar 1))))
 (cRaise "Unlike")
 cNx)
def fNeedAR : Fn := runF 2 cNeedAR
/-- rules told by rationals -/
structure Rt (K n : Nat) (ds : List D) (xs : List Rat) : Prop where
  len : ds.length = n
  xlen : xs.length = n
  tell : ∀ (i : Nat) (d : D) (x : Rat), ds[i]? = some d → xs[i]? = some x → Tell K d x
theorem isum_le {ws : List Int} {b : Int} (h : ∀ w, w ∈ ws → w ≤ b) : ws.sum ≤ ws.length * b := by
  induction ws with
  | nil => simp
  | cons w ws ih =>
    have h1 := h w (List.mem_cons_self ..)
    have h2 := ih fun x hx => h x (List.mem_cons_of_mem _ hx)
    rw [List.sum_cons, List.length_cons, Int.natCast_add, Int.add_mul]
    omega
end Vm
namespace Vm
open PySem L2 PySem.Spec PyProof.Rows
/-! ### mixtures by first sums; the shares of whole numbers -/
theorem Rt.mono {j k n : Nat} {ds : List D} {xs : List Rat} (h : Rt j n ds xs) (q : j ≤ k) : Rt k n ds xs := ⟨h.len, h.xlen, fun i d x a b => (h.tell i d x a b).mono q⟩
theorem ratD_tell {k : Nat} {d : D} {x : Rat} (t : Tell k d x) : ratD d = x := by
  obtain ⟨p, q, rfl, sh, e⟩ := t.ex
  have h1 := rat_ne sh.pos
  show (p : Rat) / (q : Rat) = x
  grind
theorem sum_over {W : Int} : ∀ l : List Int, (l.map fun w : Int => (w : Rat) / (W : Rat)).sum = (l.sum : Int) / (W : Rat)
  | [] => by simp [Rat.div_def, Rat.zero_mul]
  | w :: l => by
    rw [List.map_cons, List.sum_cons, sum_over l, List.sum_cons, Rat.intCast_add]
    grind
end Vm
namespace Vm
open PySem L2 PySem.Spec PyProof.Rows
/-! ### mixtures of rules of unlike many bits -/
theorem IsRl.rt {k n : Nat} {ds : List D} (h : IsRl k n ds) : Rt k n ds (ds.map ratD) := ⟨h.1, by rw [List.length_map]; exact h.1, fun i d x hd hx => by
  rw [List.getElem?_map, hd] at hx
  cases hx
  exact (h.tell (List.mem_of_getElem? hd)).1⟩
theorem IsRl.ge {k n : Nat} {ds : List D} (h : IsRl k n ds) : ∀ x, x ∈ ds.map ratD → 0 ≤ x := fun x hx => by
  obtain ⟨d, hd, rfl⟩ := List.mem_map.mp hx
  exact (h.tell hd).2
end Vm
namespace Vm
open PySem L2 PySem.Spec PyProof.Rows
/-! ### tuples and lists whose elements are data or cells: the object never changes, its cells may -/
theorem elOk_mono {K : Fg} {G G' : Hp} {r r' : List Addr} {v : V} {e : El} (g : Same G G') (hr : ∀ (k : Nat) (p : Addr), r[k]? = some p → r'[k]? = some p) (h : ElOk K G r v e) : ElOk K G' r' v e := by
  cases e with
  | d y => exact Rp.mono g _ _ h
  | c k =>
    obtain ⟨p, e1, e2⟩ := h
    exact ⟨p, e1, hr k p e2⟩
theorem els_mono {K : Fg} {G G' : Hp} {r r' : List Addr} {vs : List V} {es : List El} (g : Same G G') (hr : ∀ (k : Nat) (p : Addr), r[k]? = some p → r'[k]? = some p) (h : Paired (ElOk K G r) vs es) : Paired (ElOk K G' r') vs es := Paired.mapP h fun _ _ q => elOk_mono g hr q
theorem els_app {K : Fg} {G : Hp} {r : List Addr} : ∀ {vs ws : List V} {es fs : List El}, Paired (ElOk K G r) vs es → Paired (ElOk K G r) ws fs → Paired (ElOk K G r) (vs ++ ws) (es ++ fs)
  | _, _, _, _, .nil, h => h
  | _, _, _, _, .cons r t, h => .cons r (els_app t h)
theorem els_get {K : Fg} {G : Hp} {r : List Addr} : ∀ {vs : List V} {es : List El} {i : Nat} {e : El}, Paired (ElOk K G r) vs es → es[i]? = some e → ∃ v, vs[i]? = some v ∧ ElOk K G r v e
  | _, _, _, _, .nil, h => by simp at h
  | _, _, 0, _, .cons q t, h => by
    simp at h
    subst h
    exact ⟨_, rfl, q⟩
  | _, _, i + 1, e, .cons q t, h => by
    obtain ⟨v, h1, h2⟩ := els_get (i := i) (e := e) t (by simpa using h)
    exact ⟨v, by simpa using h1, h2⟩
/-! ### argument lists whose lists stay cells -/
abbrev CAN := S → R (List El)
def nNil : CAN := fun s => .ok [] s
def nCons (c : CE) (ca : CAN) : CAN := fun s => (c s).bind fun a s1 => match a with
  | .d x => (ca s1).bind fun r s2 => .ok (.d x :: r) s2
  | .ref n => (ca s1).bind fun r s2 => .ok (.c n :: r) s2
  | .new (.l ds) => (ca ⟨s1.v, s1.m ++ [.l ds]⟩).bind fun r s2 => .ok (.c s1.m.length :: r) s2
  | _ => .bad
section
variable {X : Cx} {ec : EC} {W : WX}
def cTupN (ca : CAN) : CE := fun s => (ca s).bind fun es s1 => .ok (.t true es) s1
/-! ### items of them -/
def elV (es : List El) (k : Int) (s : S) : R Rv := match L2.ixN es.length k with
  | some j => match es[j]? with
    | some (.d x) => .ok (.d x) s
    | some (.c n) => .ok (.ref n) s
    | none => .bad
  | none => .bad
def kIxT (o : Rv) (i : Rv) (s2 : S) : R Rv := match o, i with
  | .t _ es, .d (.int k) => elV es k s2
  | o, i => opt (o.od s2.m) fun o => opt (i.od s2.m) fun o' => opt (opIx o o') fun rv => .ok rv s2
def cIxT (co ci : CE) : CE := fun s => (cv co s).bind fun o s1 => (cv ci s1).bind fun i s2 => kIxT o i s2
theorem e_ixT {a b : Expr} {ca cb : CE} {pos : Pos} (ha : Ex X ec W a ca) (hb : Ex X ec W b cb) (hp : PlainIx b := by exact fun _ _ => rfl) : Ex X ec W (.Subscript a b pos) (cIxT ca cb) :=
  (pe_ix ixr_V ha hb hp).imp fun σ H Q h => by
    obtain ⟨w, s, rfl, hr, h⟩ := h
    refine run_cv hr h fun x w1 s1 o le1 r1 ho hn h1 => ?_
    refine run_cv r1 (Res.mono h1 (fun _ _ q => q) fun _ _ q => okE_le le1 q) fun y w2 s2 i le2 r2 hi hn2 h2 => ?_
    have ho2 := ho.le hn le2
    have other : Res (okV ec X.K w σ Q) (okE X.K ec W σ w1) (opt (o.od s2.m) fun o => opt (i.od s2.m) fun o' => opt (opIx o o') fun rv => .ok rv s2) → rIxV X.K x y w2.H Q := fun h2 => by
      obtain ⟨o1, e1, h2⟩ := h2.opt
      obtain ⟨o2, e2, h2⟩ := h2.opt
      obtain ⟨rv, e3, h3⟩ := h2.opt
      exact s_ix w2 x y o1 o2 rv Q r2.mem.ext (od_of r2 ho2 e1) (od_of r2 hi e2) e3 (post_of r2 fun z w' le r' o f => h3 z w' ((le1.trans le2).trans le) r' o (f.back (le1.trans le2) le o))
    unfold kIxT at h2
    split at h2
    · rename_i b es k
      obtain ⟨a, vs, rfl, hG, ps⟩ := (show VtOk X.K w2.G w2.r x b es from ho2)
      have hi : Rp X.K w2.G y (.int k) := hi
      cases hi
      unfold elV at h2
      split at h2
      · rename_i j ej
        have lv : vs.length = es.length := Paired.length ps
        have done : ∀ (e : El), es[j]? = some e → ∃ v, atI vs k = some v ∧ ElOk X.K w2.G w2.r v e := fun e he => by
          obtain ⟨v, h3, h4⟩ := els_get ps he
          refine ⟨v, ?_, h4⟩
          unfold atI
          rw [lv, ej]
          exact h3
        have fin' : ∀ {v : V}, atI vs k = some v → Q v w2.H → rIxV X.K (.ref a) (.int k) w2.H Q := fun {v} e q => by
          cases b with
          | true => exact .inr (.inl ⟨a, vs, k, v, rfl, rfl, SqT.of (r2.mem.ext _ _ hG), e, q⟩)
          | false => exact .inl ⟨a, vs, k, v, rfl, rfl, SqL.of (r2.mem.ext _ _ hG), e, q⟩
        split at h2
        · rename_i d ed
          obtain ⟨v, h3, h4⟩ := done _ ed
          exact fin' h3 (h2 v w2 (le1.trans le2) r2 h4 .d)
        · rename_i n en
          obtain ⟨v, h3, h4⟩ := done _ en
          exact fin' h3 (h2 v w2 (le1.trans le2) r2 h4 .ref)
        · exact h2.elim
      · exact h2.elim
    · exact other h2
/-! ### read as data -/
def elsD (m : List Cell) : List El → Option (List D)
  | [] => some []
  | .d x :: r => match elsD m r with
    | some ds => some (x :: ds)
    | none => none
  | .c k :: r => match m[k]? with
    | some (.l ls) => match elsD m r with
      | some ds => some (.list ls :: ds)
      | none => none
    | _ => none
def outD : Bool → List D → D
  | true, ds => .tuple ds
  | false, ds => .list ds
/-- repr of such a thing, or of data -/
def kReprT (o : Rv) (s : S) : R Rv := match o with
  | .t b es => opt (elsD s.m es) fun ds => if okrX (outD b ds) = true then .ok (.d (.str (shX (outD b ds)).shown)) s else .bad
  | o => opt (o.od s.m) fun o => opt (opReprX o) fun rv => .ok rv s
def cReprT (c : CE) : CE := fun s => (cv c s).bind kReprT
/-! ### read for the last time, it becomes data -/
def fzE : List El → List Cell → Option (List D × List Cell)
  | [], m => some ([], m)
  | .d x :: r, m => match fzE r m with
    | some (ds, m') => some (x :: ds, m')
    | none => none
  | .c k :: r, m => match m[k]? with
    | some (.l ls) => match fzE r (m.set k .gone) with
      | some (ds, m') => some (.list ls :: ds, m')
      | none => none
    | _ => none
theorem fzE_ok {K : Fg} {σ : L2.St} : ∀ {es : List El} {vs : List V} {w : Wd} {s : S} {ds : List D} {m' : List Cell}, Rel ec K w σ s → Paired (ElOk K w.G w.r) vs es → fzE es s.m = some (ds, m') →
    ∃ G', Same w.G G' ∧ Rel ec K ⟨G', w.r, w.F, w.H⟩ σ ⟨s.v, m'⟩ ∧ Le w ⟨G', w.r, w.F, w.H⟩ ∧ RpAll K G' vs ds
  | [], _, w, s, ds, m', r, h, e => by
    cases h
    cases e
    exact ⟨w.G, Same.refl _, r, Le.refl w, .nil⟩
  | .d x :: es, _, w, s, ds, m', r, h, e => by
    cases h with
    | cons q t =>
      unfold fzE at e
      split at e
      · rename_i ds' m1 e'
        cases e
        obtain ⟨G', h1, h2, h3, h4⟩ := fzE_ok r t e'
        exact ⟨G', h1, h2, h3, .cons (Rp.mono h1 _ _ q) h4⟩
      · cases e
  | .c k :: es, _, w, s, ds, m', r, h, e => by
    cases h with
    | cons q t =>
      unfold fzE at e
      split at e
      · rename_i ls em
        split at e
        · rename_i ds' m1 e'
          cases e
          obtain ⟨p, rfl, hp⟩ := q
          obtain ⟨hg, us, hv, ra⟩ := r.mem.cell k p _ hp em
          obtain ⟨r2, le2, rr⟩ := cell_outN (d := .list ls) r hp hg hv noTb_l fun G' sg e => .lst (SqL.of e) (ra.mono sg)
          have sg := le2.g
          obtain ⟨G', h1, h2, h3, h4⟩ := fzE_ok (w := ⟨upd w.G p (.lst us), w.r, w.F, w.H⟩) (s := ⟨s.v, s.m.set k .gone⟩) r2 (els_mono sg (fun _ _ q => q) t) e'
          exact ⟨G', sg.trans h1, h2, le2.trans h3, .cons (rr.mono h1) h4⟩
        · cases e
      · cases e
def cFzE (i : Nat) : CE := fun s => match s.v[i]? with
  | some (.d x) => .ok (.d x) s
  | some (.t b es) => match fzE es s.m with
    | some (ds, m') => .ok (.d (outD b ds)) ⟨s.v.set i (.d (outD b ds)), m'⟩
    | none => .bad
  | _ => .bad
theorem e_fzE (i : Nat) {x : Str} {pos : Pos} (hN : X.N[i]? = some x := by rfl) (hv : Vis X.env.scope x := by first | exact Or.inl rfl | exact Or.inr (Or.inl rfl) | exact Or.inr (Or.inr rfl)) (hd : (x == ("__debug__" : Str)) = false := by decide)
    (hcd : (x == ("__classdict__" : Str)) = false := by decide) : Ex X ec W (.Name x pos) (cFzE i) := (pe_var hN hv hd hcd).imp fun σ H Q h => by
  obtain ⟨w, s, rfl, hr, h⟩ := h
  unfold cFzE at h
  split at h
  · rename_i y e
    obtain ⟨v, e2, rp⟩ := hr.slot i _ e
    exact ⟨v, e2, h v w (Le.refl w) hr rp .d⟩
  · rename_i b es e
    obtain ⟨v, e2, a, vs, rfl, hG, ps⟩ := hr.slot i _ e
    refine ⟨.ref a, e2, ?_⟩
    split at h
    · rename_i ds m' ef
      obtain ⟨G', g1, r2, le2, ra⟩ := fzE_ok hr ps ef
      have rp : Rp X.K G' (.ref a) (outD b ds) := by
        cases b with
        | true => exact .tup (g1 _ _ hG) ra
        | false => exact .lst (SqL.of (g1 _ _ hG)) ra
      refine h (.ref a) ⟨G', w.r, w.F, w.H⟩ le2 ⟨r2.mem, ?_, fun j sl ej => ?_⟩ rp .d
      · show σ.length = (s.v.set i _).length
        rw [List.length_set]
        exact hr.len
      · have ej : (s.v.set i (.d (outD b ds)))[j]? = some sl := ej
        by_cases hj : i = j
        · subst hj
          have hl : i < s.v.length := (List.getElem?_eq_some_iff.mp e).1
          rw [List.getElem?_set_self hl] at ej
          cases ej
          exact ⟨.ref a, e2, rp⟩
        · rw [List.getElem?_set_ne hj] at ej
          exact r2.slot j sl ej
    · exact h.elim
  · exact h.elim
end
/-! ### comprehensions whose turns make lists: a table -/
def lcN (own : List Nat) (v0 : List Sl) (tg : Tg) (el : CE) : List D → List El → List Cell → R Rv
  | [], acc, m => .ok (.t false acc) ⟨v0, m⟩
  | d :: ds, acc, m => match tg d ⟨wipeV v0 own, m⟩ with
    | none => .bad
    | some s1 => (el s1).nx.bind fun a s3 => match a with
        | .new (.l ls) => lcN own v0 tg el ds (acc ++ [.c s3.m.length]) (s3.m ++ [.l ls])
        | _ => .bad
def cLcN (own : List Nat) (ci : CI) (tg : Tg) (el : CE) : CE := fun s => (ci s).bind fun ds s1 => if ds.length ≤ 16000000 then lcN own s1.v tg el ds [] s1.m else .bad
section
variable {X : Cx} {ec : EC} {W : WX}
theorem lcN_read {σ : L2.St} {H : Hp} {Q : VK} {own : List Nat} {ci : CI} {tg : Tg} {el : CE} (h : rd X.K ec W (cLcN own ci tg el) σ H Q) :
    tLc (rdI X.K ec W ci) (rdG ec X.K own tg) (rdT X.K ec W0 ctYes) (rd X.K ec W0 el) own σ H Q := by
  obtain ⟨w, s, rfl, hr, h⟩ := h
  refine ⟨w, s, rfl, hr, ?_⟩
  unfold cLcN at h
  cases e0 : ci s with
  | bad => rw [e0] at h; exact h
  | ex n s' => rw [e0] at h; exact h
  | ok ds s0 =>
    rw [e0] at h
    by_cases hz : ds.length ≤ 16000000
    · simp only [R.bind, hz, if_true] at h
      intro J w0 le0 r0 hJ Dp hD
      have h0 : FinV X.K ec W σ Q w0 (lcN own s0.v tg el ds [] s0.m) := FinV.le le0 h
      refine ⟨fun i m H1 => ∃ w1 m1 acc vs, w1.H = H1 ∧ w1.F = (fun q => w0.F q ∨ q = Dp) ∧ Le w0 (w1.f w0.F) ∧ Rel ec X.K w1 σ ⟨s0.v, m1⟩ ∧ w1.H Dp = some (.lst vs) ∧ Paired (ElOk X.K w1.G w1.r) vs acc ∧ acc.length ≤ i ∧ i + m = ds.length ∧ FinV X.K ec W σ Q w0 (lcN own s0.v tg el (ds.drop i) acc m1),
        ⟨ds.length, w0.hold Dp (.lst []), s0.m, [], [], rfl, rfl, Le.hold hD, r0.hold hD, upd_same, .nil, Nat.le_refl _, Nat.zero_add _, h0⟩, fun i m H1 hW => ?_⟩
      obtain ⟨w1, m1, acc, vs, rfl, hF, le1, r1, hd, ra, hacc, hm, h1⟩ := hW
      have r1f : Rel ec X.K (w1.f w0.F) σ ⟨s0.v, m1⟩ := r1.f (fun q hq => r1.mem.fo q (by rw [hF]; exact .inl hq)) (r0.mem.tab.back r1.mem.tab) fun q hq => r1.mem.nv.2 q (by rw [hF]; exact .inl hq)
      obtain ⟨hgo, hst⟩ := hJ (w1.f w0.F) le1 r1.mem.ext i
      have gD : w1.G Dp = none := (r1.mem.fo Dp (by rw [hF]; exact .inr rfl)).1
      have rD : Dp ∉ w1.r := (r1.mem.fo Dp (by rw [hF]; exact .inr rfl)).2.1
      have fD : ¬ w0.F Dp := fun z => by
        obtain ⟨_, _, o, ho⟩ := r0.mem.fo Dp z
        rw [hD] at ho
        cases ho
      by_cases hi : i < ds.length
      · have hdi : ds[i]? = some ds[i] := List.getElem?_eq_getElem hi
        obtain ⟨g1, g2⟩ := hgo _ hdi
        rw [List.drop_eq_getElem_cons hi] at h1
        unfold lcN at h1
        refine .inr ⟨g1, fun H' => ∃ w' m' acc' vs', w'.H = H' ∧ w'.F = (fun q => w0.F q ∨ q = Dp) ∧ Le w0 (w'.f w0.F) ∧ Rel ec X.K w' σ ⟨s0.v, m'⟩ ∧ w'.H Dp = some (.lst vs') ∧ Paired (ElOk X.K w'.G w'.r) vs' acc' ∧ acc'.length ≤ i + 1 ∧ (i + 1) + (m - 1) = ds.length ∧ FinV X.K ec W σ Q w0 (lcN own s0.v tg el (ds.drop (i + 1)) acc' m'),
          fun H' ⟨w', m', acc', vs', a1, a2, a3, a4, a5, a6, a7, a8, a9⟩ => ⟨m - 1, by omega, w', m', acc', vs', a1, a2, a3, a4, a5, a6, a7, a8, a9⟩, fun x H' hy => ?_⟩
        obtain ⟨w2, gr, rfl, rp⟩ := g2 x H' hy
        have gr' : Gr w1 (w2.f w1.F) := ⟨gr.r, rfl, gr.g, gr.h, gr.e, gr.n, gr.t⟩
        have r2 : Rel ec X.K (w2.f w1.F) σ ⟨s0.v, m1⟩ := r1.grow gr'
        cases et : tg ds[i] ⟨wipeV s0.v own, m1⟩ with
        | none => rw [et] at h1; exact h1.elim
        | some s2 =>
          rw [et] at h1
          refine ⟨w2.f w1.F, ⟨wipeV s0.v own, m1⟩, ds[i], rfl, rel_wipe r2 own, rp, s2, et, fun σ' off r3 => ⟨wipe_off off, ?_⟩⟩
          dsimp only at h1
          refine ⟨w2.f w1.F, s2, rfl, r3, ?_⟩
          intro w3 le3 r4
          rw [if_pos rfl]
          refine ⟨w3, s2, rfl, r4, ?_⟩
          have hF3 : w3.F = (fun q => w0.F q ∨ q = Dp) := by rw [le3.s, ← hF]
          have lw3 : Le w0 (w3.f w0.F) := (le1.trans (gr'.le.ch w0.F)).trans (le3.ch w0.F)
          have d2 : (w2.f w1.F).H Dp = some (.lst vs) := gr.h _ _ hd
          have d3 : w3.H Dp = some (.lst vs) := le3.kN (p := Dp) d2 (by
            show Dp ∉ w2.r
            rw [gr.r]
            exact rD) noTb_l
          have ra3 : Paired (ElOk X.K w3.G w3.r) vs acc := els_mono (gr'.g.trans le3.g) (fun k p q => le3.cell (by
            show w2.r[k]? = some p
            rw [gr.r]
            exact q)) ra
          have r4' : Rel ec X.K w3 σ ⟨s0.v, s2.m⟩ := rel_mem (m := m1) le3 r2 r4.mem
          cases eel : el s2 with
          | bad => simp only [eel, R.nx, R.bind] at h1; exact h1.elim
          | ex n s' => simp only [eel, R.nx, R.bind] at h1; exact h1.elim
          | ok a s4 =>
            simp only [eel, R.nx, R.bind] at h1
            intro y w4 le4 r5 oa fr
            cases a with
            | d _ => exact h1.elim
            | ref _ => exact h1.elim
            | t _ _ => exact h1.elim
            | new c =>
              cases c with
              | l ls =>
                obtain ⟨p, rfl, hp, hc⟩ := oa
                obtain ⟨r6, le5⟩ := cell_in (w := w3) (c := .l ls) (by intro z; cases z) (by intro _ _ _ z; cases z) r4.mem.inv le4 r5 hp (fr _ rfl p rfl) hc
                have hF5 : (⟨w4.G, w4.r ++ [p], w4.F, w4.H⟩ : Wd).F = (fun q => w0.F q ∨ q = Dp) := by rw [le5.s, hF3]
                have d5 : w4.H Dp = some (.lst vs) := le5.kN d3 (r4'.mem.fo Dp (by rw [hF3]; exact .inr rfl)).2.1 noTb_l
                have ra5 : Paired (ElOk X.K w4.G (w4.r ++ [p])) vs acc := els_mono le5.g (fun k q z => le5.cell z) ra3
                have r6' : Rel ec X.K ⟨w4.G, w4.r ++ [p], w4.F, w4.H⟩ σ ⟨s0.v, s4.m ++ [.l ls]⟩ := rel_mem (m := s2.m) le5 r4' r6.mem
                have fD5 : (⟨w4.G, w4.r ++ [p], w4.F, w4.H⟩ : Wd).F Dp := by rw [hF5]; exact .inr rfl
                have r7 := r6'.rehold (o := .lst (vs ++ [.ref p])) fD5 d5 noTb_l (fun _ z => by cases z) (r0.new0 hD)
                have lw5 : Le w0 ((⟨w4.G, w4.r ++ [p], w4.F, w4.H⟩ : Wd).f w0.F) := lw3.trans (le5.ch w0.F)
                have lw7 : Le w0 ((⟨w4.G, w4.r ++ [p], w4.F, upd w4.H Dp (.lst (vs ++ [.ref p]))⟩ : Wd).f w0.F) := ⟨lw5.g, fun q u e n => by
                  obtain ⟨u', e', q'⟩ := lw5.k q u e n
                  refine ⟨u', ?_, q'⟩
                  show upd w4.H Dp _ q = some u'
                  rw [upd_ne (ne_of_none e hD)]
                  exact e', lw5.p, lw5.f, rfl⟩
                have ix : (w4.r ++ [p])[s4.m.length]? = some p := by
                  rw [← r5.mem.len, List.getElem?_append_right (Nat.le_refl _), Nat.sub_self]
                  rfl
                refine ⟨vs, d5, ?_, ⟨w4.G, w4.r ++ [p], w4.F, upd w4.H Dp (.lst (vs ++ [.ref p]))⟩, s4.m ++ [.l ls], acc ++ [.c s4.m.length], vs ++ [.ref p], rfl, hF5, lw7, r7, upd_same, els_app ra5 (.cons (show ElOk X.K w4.G (w4.r ++ [p]) (.ref p) (.c s4.m.length) from ⟨p, rfl, ix⟩) .nil), ?_, by omega, h1⟩
                · rw [Paired.length ra5]
                  exact lt16 (by omega)
                · rw [List.length_append]
                  show acc.length + 1 ≤ i + 1
                  omega
              | _ => exact h1.elim
      · refine .inl ⟨hst (by omega), ?_⟩
        rw [List.drop_eq_nil_of_le (by omega)] at h1
        obtain ⟨r2, le2⟩ := ground_in r1f (p := Dp) (o := .lst vs) ⟨rD, fD⟩ gD hd noTb_l
        exact h1 (.ref Dp) ⟨upd w1.G Dp (.lst vs), w1.r, w0.F, w1.H⟩ (le1.trans le2) r2 ⟨Dp, vs, rfl, upd_same, els_mono le2.g (fun _ _ q => q) ra⟩ .t
    · simp only [R.bind, hz, if_false] at h
      exact h.elim
theorem s_setLcN (i : Nat) {y : Str} {py : Pos} {elt tgt iter : Expr} {scope : Scope} {own : List (Str × Nat)} {pos spos : Pos} {ci : CI} {tg : Tg} {el : CE} (hN : X.N.Nodup) (ok : BlkOk X.N X.env.scope scope own) (hi : Ix X ec W tgt iter ci)
    (hg : ∀ (s : Shared) (H : Hp) (C : Addr) (cl : List (Str × Addr)) (fp : List Addr), PG (X.blk s H scope (compEnvC scope cl C X.env) fp) tgt (rdG ec X.K (own.map (·.2)) tg))
    (ht : ∀ (s : Shared) (H : Hp) (C : Addr) (cl : List (Str × Addr)) (fp : List Addr), PTs (X.blk s H scope (compEnvC scope cl C X.env) fp) [] (rdT X.K ec W0 ctYes))
    (he : ∀ (s : Shared) (H : Hp) (C : Addr) (cl : List (Str × Addr)) (fp : List Addr), PE (X.blk s H scope (compEnvC scope cl C X.env) fp) elt (rd X.K ec W0 el)) (hcal : X.calm = true := by rfl) (hy : X.N[i]? = some y := by rfl) (hyl : X.env.scope.names.lookup y = some .local := by rfl)
    (hsw : swapsWith (.ListComp elt [⟨tgt, iter, [], 0⟩] scope pos) (some (.Name y py)) spos.line X.env = pure true := by exact sw_true rfl rfl rfl (by decide +kernel)) (hs : ∀ x, foldedSetIterable iter X.env x = pure x := by intro _; rfl) :
    Sx X ec W (.Assign [.Name y py] (.ListComp elt [⟨tgt, iter, [], 0⟩] scope pos) spos) (cSet i (cLcN (own.map (·.2)) ci tg el)) :=
  (ps_setLc hcal hN hy hyl hsw hi ok hg ht he hs).imp fun D σ H h => by
    have h := rd_set (i := i) h
    exact lcN_read h
end
end Vm
namespace Vm
open PySem L2
/-! ### steps of things whose elements are data or cells, for simp -/
def kIx1 (ci : CE) (o : Rv) (s1 : S) : R Rv := (cv ci s1).bind (kIxT o)
@[simp] theorem kIx1_s {ci : CE} {o : Rv} {s1 : S} : kIx1 ci o s1 = (cv ci s1).bind (kIxT o) := Eq.trans rfl rfl
@[simp] theorem cIxT_s {co ci : CE} {s : S} : cIxT co ci s = (cv co s).bind (kIx1 ci) := Eq.trans rfl rfl
@[simp] theorem kIxT_t {b : Bool} {es : List El} {k : Int} {s : S} : kIxT (.t b es) (.d (.int k)) s = elV es k s := Eq.trans rfl rfl
theorem ixN_n {l k : Nat} (h : k < l) : L2.ixN l (k : Int) = some k := by
  unfold L2.ixN
  rw [if_pos (by omega), if_pos (by omega), Int.toNat_natCast]
theorem elV_c {es : List El} {k n : Nat} {s : S} (h : es[k]? = some (.c n)) : elV es (k : Int) s = .ok (.ref n) s := by
  unfold elV
  rw [ixN_n (List.getElem?_eq_some_iff.mp h).1]
  dsimp only
  rw [h]
@[simp] theorem nNil_s {s : S} : nNil s = .ok [] s := Eq.trans rfl rfl
def kNc (e : El) (r : List El) (s2 : S) : R (List El) := .ok (e :: r) s2
@[simp] theorem kNc_s {e : El} {r : List El} {s2 : S} : kNc e r s2 = .ok (e :: r) s2 := Eq.trans rfl rfl
def nconsR (ca : CAN) : Rv → S → R (List El)
  | .d x, s1 => (ca s1).bind (kNc (.d x))
  | .ref n, s1 => (ca s1).bind (kNc (.c n))
  | .new (.l ds), s1 => (ca ⟨s1.v, s1.m ++ [.l ds]⟩).bind (kNc (.c s1.m.length))
  | _, _ => .bad
@[simp] theorem nconsR_d {ca : CAN} {x : D} {s1 : S} : nconsR ca (.d x) s1 = (ca s1).bind (kNc (.d x)) := Eq.trans rfl rfl
@[simp] theorem nconsR_r {ca : CAN} {n : Nat} {s1 : S} : nconsR ca (.ref n) s1 = (ca s1).bind (kNc (.c n)) := Eq.trans rfl rfl
@[simp] theorem nconsR_l {ca : CAN} {ds : List D} {s1 : S} : nconsR ca (.new (.l ds)) s1 = (ca ⟨s1.v, s1.m ++ [.l ds]⟩).bind (kNc (.c s1.m.length)) := Eq.trans rfl rfl
@[simp] theorem nCons_s {c : CE} {ca : CAN} {s : S} : nCons c ca s = (c s).bind (nconsR ca) := by
  unfold nCons
  congr 1
  funext a s1
  cases a with
  | d x => rfl
  | ref n => rfl
  | t _ _ => rfl
  | new c => cases c <;> rfl
def kTn (es : List El) (s1 : S) : R Rv := .ok (.t true es) s1
@[simp] theorem kTn_s {es : List El} {s1 : S} : kTn es s1 = .ok (.t true es) s1 := Eq.trans rfl rfl
@[simp] theorem cTupN_s {ca : CAN} {s : S} : cTupN ca s = (ca s).bind kTn := Eq.trans rfl rfl
theorem cFzE_t {i : Nat} {s : S} {b : Bool} {es : List El} {ds : List D} {m' : List Cell} (h : s.v[i]? = some (.t b es)) (e : fzE es s.m = some (ds, m')) : cFzE i s = .ok (.d (outD b ds)) ⟨s.v.set i (.d (outD b ds)), m'⟩ := by
  unfold cFzE
  rw [h]
  dsimp only
  rw [e]
@[simp] theorem cReprT_s {c : CE} {s : S} : cReprT c s = (cv c s).bind kReprT := Eq.trans rfl rfl
/-- a table: each turn makes the list G x, wherever memory ends -/
theorem lcN_for {α : Type} {own : List Nat} {ci : CI} {tg : Tg} {el : CE} {s s1 : S} {xs : List α} {F : α → D} (G : α → List D) (h : ci s = .ok (xs.map F) s1) (hl : xs.length ≤ 16000000)
    (hb : ∀ (x : α) (m : List Cell), x ∈ xs → ∃ t, tg (F x) ⟨wipeV s1.v own, m⟩ = some t ∧ ∃ v3, el t = .ok (.new (.l (G x))) ⟨v3, m⟩) :
    cLcN own ci tg el s = .ok (.t false ((List.range xs.length).map fun j => .c (s1.m.length + j))) ⟨s1.v, s1.m ++ xs.map fun x => .l (G x)⟩ := by
  have go : ∀ (l : List α) (acc : List El) (m : List Cell), (∀ x, x ∈ l → x ∈ xs) → lcN own s1.v tg el (l.map F) acc m = .ok (.t false (acc ++ (List.range l.length).map fun j => .c (m.length + j))) ⟨s1.v, m ++ l.map fun x => .l (G x)⟩ := by
    intro l
    induction l with
    | nil =>
      intro acc m _
      show R.ok (Rv.t false acc) _ = _
      simp
    | cons x l ih =>
      intro acc m hx
      obtain ⟨t, h1, v3, h2⟩ := hb x m (hx x (List.mem_cons_self ..))
      rw [List.map_cons]
      unfold lcN
      rw [h1]
      dsimp only
      rw [h2]
      show lcN own s1.v tg el (l.map F) (acc ++ [.c m.length]) (m ++ [.l (G x)]) = _
      rw [ih _ _ fun y hy => hx y (List.mem_cons_of_mem _ hy)]
      congr 1
      · congr 1
        rw [List.append_assoc]
        congr 1
        rw [List.length_cons, List.range_succ_eq_map, List.map_cons, List.map_map, List.singleton_append]
        congr 1
        apply List.map_congr_left
        intro j _
        show El.c ((m ++ [Cell.l (G x)]).length + j) = El.c (m.length + (j + 1))
        rw [List.length_append, List.length_singleton]
        congr 1
        omega
      · rw [List.append_assoc]
        rfl
  unfold cLcN
  rw [h, bind_ok, if_pos (by rw [List.length_map]; exact hl), go xs [] s1.m fun x hx => hx, List.nil_append]
/-- a table's cells become data -/
theorem fzE_range {n : Nat} {T : Nat → List D} : ∀ (k : Nat) (m : List Cell) (a : Nat), (∀ j, j < k → m[a + j]? = some (.l (T j))) → ∃ m', fzE ((List.range k).map fun j => El.c (a + j)) m = some ((List.range k).map fun j => PyData.list (T j), m') ∧ m'.length = m.length ∧ ∀ i, i < a → m'[i]? = m[i]?
  | 0, m, a, _ => ⟨m, rfl, rfl, fun _ _ => rfl⟩
  | k + 1, m, a, h => by
    have h0 := h 0 (by omega)
    obtain ⟨m', e, hl, hi⟩ := fzE_range (n := n) (T := fun j => T (j + 1)) k (m.set a .gone) (a + 1) fun j hj => by
      rw [List.getElem?_set_ne (by omega), show a + 1 + j = a + (j + 1) by omega]
      exact h (j + 1) (by omega)
    refine ⟨m', ?_, by rw [hl, List.length_set], fun i hi' => by rw [hi i (by omega), List.getElem?_set_ne (by omega)]⟩
    rw [List.range_succ_eq_map, List.map_cons, List.map_cons, List.map_map, List.map_map]
    have e2 : ((fun j => El.c (a + j)) ∘ Nat.succ) = fun j => El.c (a + 1 + j) := funext fun j => by
      show El.c (a + (j + 1)) = _
      congr 1
      omega
    rw [e2]
    show (match m[a + 0]? with
      | some (.l ls) => match fzE _ (m.set (a + 0) .gone) with
        | some (ds, m') => some (PyData.list ls :: ds, m')
        | none => none
      | _ => none) = _
    rw [h0]
    dsimp only
    simp only [Nat.add_zero]
    rw [e]
    rfl
end Vm
namespace Vm
open PySem L2 PySem.Spec PyProof.Rows
/-! ### pairings: two rules gone through from the fullest box on, in whole numbers -/
/-- a rule over the bottom M -/
structure IR (K : Nat) (M : Int) (n : Nat) (ds : List D) (us : List Int) : Prop where
  len : ds.length = n
  ulen : us.length = n
  ge : ∀ u, u ∈ us → 0 ≤ u
  sum : us.sum = M
  m1 : 1 ≤ M
  bM : Bs K M
  tell : ∀ (i : Nat) (d : D) (u : Int), ds[i]? = some d → us[i]? = some u → Tell K d ((u : Rat) / (M : Rat))
theorem IR.rt {K n : Nat} {M : Int} {ds : List D} {us : List Int} (h : IR K M n ds us) : Rt K n ds (us.map fun u : Int => (u : Rat) / (M : Rat)) := ⟨h.len, by rw [List.length_map]; exact h.ulen, fun i d x hd hx => by
  rw [List.getElem?_map] at hx
  obtain ⟨u, hu, rfl⟩ := Option.map_eq_some_iff.mp hx
  exact h.tell i d u hd hu⟩
def rs (n : Nat) (f : Nat → Int) : Int := ((List.range n).map f).sum
theorem rs_succ {n : Nat} {f : Nat → Int} : rs (n + 1) f = rs n f + f n := by
  unfold rs
  rw [List.range_succ, List.map_append, List.sum_append]
  simp
theorem rs_zero {n : Nat} {f : Nat → Int} (h : ∀ a, a < n → f a = 0) : rs n f = 0 := by
  induction n with
  | zero => rfl
  | succ n ih => rw [rs_succ, ih fun a ha => h a (by omega), h n (by omega)]; rfl
theorem rs_ge {n : Nat} {f : Nat → Int} (h : ∀ a, 0 ≤ f a) {b : Nat} (hb : b < n) : f b ≤ rs n f := by
  unfold rs
  refine mem_le_sum (fun x hx => ?_) _ (List.mem_map_of_mem (List.mem_range.mpr hb))
  obtain ⟨a, _, rfl⟩ := List.mem_map.mp hx
  exact h a
/-- the two rules in whole numbers, the one no fuller -/
structure Two (n : Nat) (us vs : List Int) : Prop where
  ul : us.length = n
  vl : vs.length = n
  u0 : ∀ u, u ∈ us → 0 ≤ u
  v0 : ∀ u, u ∈ vs → 0 ≤ u
  sum : us.sum = vs.sum
  dom : ∀ k, k ≤ n → (us.take k).sum ≤ (vs.take k).sum
structure PI (n : Nat) (us vs : List Int) (i j : Nat) (h t : Int) (R : Nat → Nat → Int) : Prop where
  il : i < n
  jl : j < n
  eq : (us.take (i + 1)).sum - h = (vs.take (j + 1)).sum - t
  h0 : 0 ≤ h
  h1 : h ≤ us.getD i 0
  t0 : 0 ≤ t
  t1 : t ≤ vs.getD j 0
  row : ∀ a, a < n → rs n (R a) = if a < i then us.getD a 0 else if a = i then us.getD i 0 - h else 0
  col : ∀ b, b < n → rs n (fun a => R a b) = if b < j then vs.getD b 0 else if b = j then vs.getD j 0 - t else 0
  ge : ∀ a b, 0 ≤ R a b
  sup : ∀ a b, b < n → a < b → R a b = 0
/-- a pairing in whole numbers -/
structure Prg (n : Nat) (us vs : List Int) (R : Nat → Nat → Int) : Prop where
  row : ∀ a, a < n → rs n (R a) = us.getD a 0
  col : ∀ b, b < n → rs n (fun a => R a b) = vs.getD b 0
  ge : ∀ a b, 0 ≤ R a b
  sup : ∀ a b, b < n → a < b → R a b = 0
section
variable {n : Nat} {us vs : List Int} {i j : Nat} {h t : Int} {R : Nat → Nat → Int}
theorem getD_ge {xs : List Int} (h : ∀ x, x ∈ xs → 0 ≤ x) (i : Nat) : 0 ≤ xs.getD i 0 := by
  by_cases hi : i < xs.length
  · rw [getD_get hi]
    exact h _ (List.getElem_mem hi)
  · rw [List.getD_eq_getElem?_getD, List.getElem?_eq_none (by omega)]
    exact Int.le_refl _
theorem PI.start (T : Two n us vs) (hn : 0 < n) : PI n us vs 0 0 (us.getD 0 0) (vs.getD 0 0) (fun _ _ => 0) := by
  have h4 := sum_takeD (xs := us) (i := 0) (by rw [T.ul]; omega)
  have h5 := sum_takeD (xs := vs) (i := 0) (by rw [T.vl]; omega)
  have h6 := getD_ge T.u0 0
  have h7 := getD_ge T.v0 0
  rw [List.take_zero, List.sum_nil] at h4 h5
  refine ⟨hn, hn, by omega, h6, Int.le_refl _, h7, Int.le_refl _, fun a ha => ?_, fun b hb => ?_, fun _ _ => Int.le_refl _, fun _ _ _ _ => rfl⟩
  · rw [rs_zero fun _ _ => rfl, if_neg (by omega)]
    split <;> omega
  · rw [rs_zero fun _ _ => rfl, if_neg (by omega)]
    split <;> omega
end
end Vm
namespace Vm
open PySem L2 PySem.Spec PyProof.Rows
/-! ### the pairing told: the walk -/
theorem set_range {α : Type} {n i : Nat} {f : Nat → α} {x : α} : ((List.range n).map f).set i x = (List.range n).map fun a => if a = i then x else f a := by
  apply List.ext_getElem
  · simp
  · intro j h1 h2
    rw [List.getElem_set]
    simp
    by_cases e : i = j
    · rw [if_pos e, if_pos e.symm]
    · rw [if_neg e, if_neg fun z => e z.symm]
theorem IR.at {K n : Nat} {M : Int} {ds : List D} {us : List Int} (h : IR K M n ds us) {i : Nat} (hi : i < n) : ∃ d, opIx (.d (.tuple ds)) (.d (.int (i : Nat))) = some (.d d) ∧ ds[i]? = some d ∧ Tell K d ((us.getD i 0 : Int) / (M : Rat)) := by
  have hl := h.len
  have hu := h.ulen
  have g : ds[i]? = some (ds[i]'(by omega)) := List.getElem?_eq_getElem (by omega)
  refine ⟨ds[i]'(by omega), opIx_t (atI_nat (by omega) (by rw [Int.toNat_natCast]; exact g)), g, ?_⟩
  rw [getD_get (by omega)]
  exact h.tell i _ _ g (List.getElem?_eq_getElem (by omega))
theorem IR.le {K n : Nat} {M : Int} {ds : List D} {us : List Int} (h : IR K M n ds us) (i : Nat) : 0 ≤ us.getD i 0 ∧ us.getD i 0 ≤ M := by
  refine ⟨getD_ge h.ge i, ?_⟩
  by_cases hi : i < us.length
  · rw [getD_get hi, ← h.sum]
    exact mem_le_sum h.ge _ (List.getElem_mem hi)
  · rw [List.getD_eq_getElem?_getD, List.getElem?_eq_none (by omega)]
    have := h.m1
    show (0 : Int) ≤ M
    omega
/-- the rows of a table -/
abbrev rwT (n : Nat) (τ : Nat → Nat → D) (a : Nat) : List D := (List.range n).map (τ a)
structure Tb (K : Nat) (N : Int) (n : Nat) (τ : Nat → Nat → D) (R : Nat → Nat → Int) : Prop where
  tell : ∀ a b, a < n → b < n → Tell K (τ a b) ((R a b : Int) / (N : Rat))
end Vm
namespace Vm
open PySem L2 PySem.Spec PyProof.Rows
/-! ### the pairing told; what is a pairing -/
abbrev tbD (n : Nat) (τ : Nat → Nat → D) : D := .tuple ((List.range n).map fun a => .tuple (rwT n τ a))
theorem opNe_nilD {L : List D} (h : ∀ d, d ∈ L → d.plain = true ∧ d.depth ≤ 59) : opNe (.d (.list L)) (.d (.list [])) = some (.d (.bool (!L.isEmpty))) := by
  have k := (okd_seq h).1
  have k0 := (okd_seq (ds := []) fun d hd => nomatch hd).1
  unfold opNe eqB
  dsimp only
  rw [if_pos ⟨k, k0⟩]
  cases L <;> rfl
theorem tell_ne {j k : Nat} {a b : D} {x y : Rat} (h : Tell j a x) (g : Tell k b y) : opNe (.d a) (.d b) = some (.d (.bool (!decide (x = y)))) := by
  have e1 : a = b ↔ x = y := ⟨fun e => by
    subst e
    exact h.uniq g, fun e => by
    subst e
    exact h.one g⟩
  obtain ⟨p, q, rfl, _, _⟩ := h.ex
  obtain ⟨p', q', rfl, _, _⟩ := g.ex
  have e2 : [p, q] = [p', q'] ↔ x = y := by
    rw [← e1]
    constructor
    · intro z
      cases z
      rfl
    · intro z
      cases z
      rfl
  have := opNe_intsT (as := [p, q]) (bs := [p', q'])
  simp only [e2] at this
  exact this
theorem tell_plain {k : Nat} {a : D} {x : Rat} (h : Tell k a x) : a.plain = true ∧ a.depth ≤ 59 := by
  obtain ⟨p, q, rfl, _, _⟩ := h.ex
  exact plain_prI (p, q)
/-! ### any thing -/
def partB : D → Bool
  | .tuple [.int p, .int q] => decide (0 < q ∧ Int.gcd p q = 1 ∧ 0 ≤ p)
  | _ => false
def rowB (n : Nat) : D → Bool
  | .tuple ps => decide (ps.length = n) && ps.all partB
  | _ => false
def tabB (n : Nat) : D → Bool
  | .tuple rows => decide (rows.length = n) && rows.all (rowB n)
  | _ => false
structure BdD (K : Nat) (d : D) : Prop where
  bd : ∀ rows, d = .tuple rows → ∀ ps, .tuple ps ∈ rows → ∀ p q, .tuple [.int p, .int q] ∈ ps → Bs K p ∧ Bs K q
  pl : ∀ rows, d = .tuple rows → ∀ ps, .tuple ps ∈ rows → ∀ x, x ∈ ps → x.plain = true ∧ x.depth ≤ 59
def cell (d : D) (a b : Nat) : D := match d with
  | .tuple rows => match rows.getD a .none with
    | .tuple ps => ps.getD b .none
    | _ => .none
  | _ => .none
def fitB (n : Nat) (xs ys : List Rat) (d : D) (i : Nat) : Bool := (decide (((List.range n).map fun b => ratD (cell d i b)).sum = xs.getD i 0) && decide (((List.range n).map fun a => ratD (cell d a i)).sum = ys.getD i 0)) && ((List.range n).drop (i + 1)).all fun b => decide (ratD (cell d i b) = 0)
def prB (n : Nat) (xs ys : List Rat) (d : D) : Bool := tabB n d && (List.range n).all (fitB n xs ys d)
theorem notT {d : D} (h : ∀ rows, d ≠ .tuple rows) : isiB "tuple" (tyN (.d d)) = false := by
  rw [isi_t]
  split
  · exact absurd rfl (h _)
  · rfl
theorem tabB_t {n : Nat} {rows : List D} : tabB n (.tuple rows) = (decide (rows.length = n) && rows.all (rowB n)) := rfl
theorem rowB_t {n : Nat} {ps : List D} : rowB n (.tuple ps) = (decide (ps.length = n) && ps.all partB) := rfl
theorem partB_ex {d : D} (h : partB d = true) : ∃ p q : Int, d = shD p q ∧ 0 < q ∧ Int.gcd p q = 1 ∧ 0 ≤ p := by
  unfold partB at h
  split at h
  · exact ⟨_, _, rfl, of_decide_eq_true h⟩
  · cases h
theorem partB_no {d : D} (h : shareB d = false) : partB d = false := by
  cases e : partB d with
  | false => rfl
  | true =>
    obtain ⟨p, q, rfl, h1, h2, _⟩ := partB_ex e
    have : shareB (shD p q) = true := decide_eq_true ⟨h1, h2⟩
    rw [this] at h
    cases h
theorem partB_tell {K : Nat} {d : D} (h : partB d = true) (hb : ∀ p q, d = shD p q → Bs K p ∧ Bs K q) : Tell K d (ratD d) := by
  obtain ⟨p, q, rfl, h1, h2, _⟩ := partB_ex h
  have hq := rat_ne (show 1 ≤ q by omega)
  refine ⟨p, q, rfl, ⟨by omega, h2, (hb p q rfl).1, (hb p q rfl).2⟩, ?_⟩
  show (p : Rat) = (p : Rat) / q * q
  grind
theorem tab_ex {n : Nat} {d : D} (h : tabB n d = true) : ∃ τ, τ = cell d ∧ d = tbD n τ ∧ ∀ a b, a < n → b < n → partB (τ a b) = true := by
  unfold tabB at h
  split at h
  · rename_i rows
    rw [Bool.and_eq_true] at h
    have hl := of_decide_eq_true h.1
    have hr := List.all_eq_true.mp h.2
    have row : ∀ a, a < n → ∃ ps, rows[a]? = some (.tuple ps) ∧ ps.length = n ∧ ∀ p, p ∈ ps → partB p = true := fun a ha => by
      have h1 : rows[a]? = some (rows[a]'(by omega)) := List.getElem?_eq_getElem (by omega)
      have h2 := hr _ (List.getElem_mem (show a < rows.length by omega))
      cases e : rows[a]'(by omega) with
      | tuple ps =>
        rw [e] at h2
        unfold rowB at h2
        rw [Bool.and_eq_true] at h2
        exact ⟨ps, by rw [h1, e], of_decide_eq_true h2.1, List.all_eq_true.mp h2.2⟩
      | _ => rw [e] at h2; cases h2
    have ec : ∀ a b, a < n → b < n → ∃ ps, rows[a]? = some (.tuple ps) ∧ ps[b]? = some (cell (.tuple rows) a b) ∧ partB (cell (.tuple rows) a b) = true := fun a b ha hb => by
      obtain ⟨ps, h1, h2, h3⟩ := row a ha
      have h4 : ps[b]? = some (ps[b]'(by omega)) := List.getElem?_eq_getElem (by omega)
      have h5 : cell (.tuple rows) a b = ps[b]'(by omega) := by
        unfold cell
        dsimp only
        rw [List.getD_eq_getElem?_getD, h1]
        dsimp only [Option.getD]
        rw [List.getD_eq_getElem?_getD, h4]
        rfl
      exact ⟨ps, h1, by rw [h5]; exact h4, by rw [h5]; exact h3 _ (List.getElem_mem _)⟩
    refine ⟨cell (.tuple rows), rfl, ?_, fun a b ha hb => ?_⟩
    · unfold tbD
      congr 1
      apply List.ext_getElem
      · simp [hl]
      · intro a h1 h2
        have ha : a < n := by omega
        obtain ⟨ps, g1, g2, g3⟩ := row a ha
        have e1 : rows[a] = .tuple ps := by
          have := List.getElem?_eq_getElem h1
          rw [g1] at this
          exact (Option.some.inj this).symm
        rw [e1]
        simp
        apply List.ext_getElem
        · simp [g2]
        · intro b h3 h4
          obtain ⟨ps', z1, z2, _⟩ := ec a b ha (by omega)
          rw [g1] at z1
          cases z1
          rw [List.getElem?_eq_getElem h3] at z2
          simp
          exact Option.some.inj z2
    · obtain ⟨_, _, _, h⟩ := ec a b ha hb
      exact h
  · cases h
def cIsTable : CS :=
 (cSeq (cIfS (tOr' (tNot' (cTru (cOp1 (opIsi "tuple") (cVar 1)))) (cB (cOp2 opNe (cOp1 opLen (cVar 1)) (cVar 0))))
 (cRet (cC (.bool false)))
 cNx)
 (cSeq (cFor (ciSeq (cVar 1)) (tgN 2)
 (cSeq (cIfS (tOr' (tNot' (cTru (cOp1 (opIsi "tuple") (cVar 2)))) (cB (cOp2 opNe (cOp1 opLen (cVar 2)) (cVar 0))))
 (cRet (cC (.bool false)))
 cNx)
 (cFor (ciSeq (cVar 2)) (tgN 3)
 (cIfS (tOr' (tNot' (cTru (cCallP fIsShare (lCons (cVar 3) lNil)))) (cB (cOp2 opLt (cOp2 opIx (cVar 3) (cC (.int 0))) (cC (.int 0)))))
 (cRet (cC (.bool false)))
 cNx))))
 (cRet (cC (.bool true)))))
def fIsTable : Fn := runF 4 cIsTable
end Vm
namespace Vm
open PySem L2 PySem.Spec PyProof.Rows
/-! ### whether a thing pairs two rules -/
def fitT (n : Nat) (xs ys : List Rat) (τ : Nat → Nat → D) (i : Nat) : Bool := (decide (((List.range n).map fun b => ratD (τ i b)).sum = xs.getD i 0) && decide (((List.range n).map fun a => ratD (τ a i)).sum = ys.getD i 0)) && ((List.range n).drop (i + 1)).all fun b => decide (ratD (τ i b) = 0)
theorem fitB_t {n : Nat} {xs ys : List Rat} {d : D} {τ : Nat → Nat → D} (h : τ = cell d) : fitB n xs ys d = fitT n xs ys τ := by
  subst h
  rfl
theorem all_no {α : Type} {L : List α} {f : α → Bool} {x : α} (hx : x ∈ L) (h : f x = false) : L.all f = false := by
  cases e : L.all f with
  | false => rfl
  | true =>
    rw [List.all_eq_true.mp e x hx] at h
    cases h
theorem any_notE {α β : Type} {L : List α} {p : α → Bool} {G : α → β} : (((L.filter fun b => !p b).map G).isEmpty) = L.all p := by
  induction L with
  | nil => rfl
  | cons x L ih =>
    cases h : p x with
    | false => simp [h]
    | true =>
      simp only [List.filter_cons, h, List.all_cons]
      exact ih
structure TabIs (K n : Nat) (d : D) (τ : Nat → Nat → D) : Prop where
  e : d = tbD n τ
  c : τ = cell d
  t : ∀ a b, a < n → b < n → Tell K (τ a b) (ratD (τ a b))
  sh : ∀ a b, a < n → b < n → partB (τ a b) = true
theorem tab_is {K n : Nat} {d : D} (h : tabB n d = true) (hb : BdD K d) : ∃ τ, TabIs K n d τ := by
  obtain ⟨τ, h1, h2, h3⟩ := tab_ex h
  refine ⟨τ, h2, h1, fun a b ha hb' => partB_tell (h3 a b ha hb') fun p q e => ?_, h3⟩
  exact hb.bd _ h2 (rwT n τ a) (List.mem_map_of_mem (List.mem_range.mpr ha)) p q (by
    have : τ a b ∈ rwT n τ a := List.mem_map_of_mem (List.mem_range.mpr hb')
    rw [e] at this
    exact this)
section
variable {K n : Nat} {d : D} {τ : Nat → Nat → D}
theorem TabIs.row (T : TabIs K n d τ) {i : Nat} (hi : i < n) : opIx (.d d) (.d (.int (i : Nat))) = some (.d (.tuple (rwT n τ i))) := by
  rw [T.e]
  exact opIx_t (atI_nat (by omega) (by rw [Int.toNat_natCast]; simp [hi]))
theorem rwt_ix {i a : Nat} (hi : i < n) : opIx (.d (.tuple (rwT n τ a))) (.d (.int (i : Nat))) = some (.d (τ a i)) := opIx_t (atI_nat (by omega) (by rw [Int.toNat_natCast]; simp [hi]))
theorem rangeG {α : Type} {f : Nat → α} {i : Nat} {x : α} (h : ((List.range n).map f)[i]? = some x) : i < n ∧ x = f i := by
  rw [List.getElem?_map] at h
  obtain ⟨j, hj, rfl⟩ := Option.map_eq_some_iff.mp h
  have hi : i < n := by
    have := (List.getElem?_eq_some_iff.mp hj).1
    simpa using this
  rw [List.getElem?_range hi] at hj
  cases hj
  exact ⟨hi, rfl⟩
theorem tot_c {f : Nat → D} (hK : K ≤ 600) (hn : n ≤ 12) (h : ∀ b, b < n → Tell K (f b) (ratD (f b))) : ∃ a, fTotal [.d (.list ((List.range n).map f))] [] = .ok (.d a) [] ∧ Tell (1 + (K + 1) * n) a ((List.range n).map fun b => ratD (f b)).sum := by
  have hm : (K + 1) * n ≤ 601 * 12 := Nat.mul_le_mul (by omega) hn
  obtain ⟨a, e, t⟩ := total_t (k := K) ((List.range n).map f) ((List.range n).map fun b => ratD (f b)) (by simp) (fun i d x h1 h2 => by
    obtain ⟨hi, rfl⟩ := rangeG h1
    obtain ⟨_, rfl⟩ := rangeG h2
    exact h i hi) (by simp; omega)
  refine ⟨a, e, ?_⟩
  rw [List.length_map, List.length_range] at t
  exact t
theorem sumS_c {f : Nat → D} {X : D} (hX : X = .list ((List.range n).map f) ∨ X = .tuple ((List.range n).map f)) (hK : K ≤ 600) (hn : n ≤ 12) (h : ∀ b, b < n → Tell K (f b) (ratD (f b))) : ∃ a, fSumS [.d X] [] = .ok (.d a) [] ∧ Tell (1 + (K + 1) * n) a ((List.range n).map fun b => ratD (f b)).sum := by
  have hm : (K + 1) * n ≤ 601 * 12 := Nat.mul_le_mul (by omega) hn
  obtain ⟨a, e, t⟩ := sumS_t (k := K) (X := X) ((List.range n).map f) ((List.range n).map fun b => ratD (f b)) hX (by simp) (fun i d x h1 h2 => by
    obtain ⟨hi, rfl⟩ := rangeG h1
    obtain ⟨_, rfl⟩ := rangeG h2
    exact h i hi) (by simp; omega)
  refine ⟨a, e, ?_⟩
  rw [List.length_map, List.length_range] at t
  exact t
end
theorem Rt.at {K n : Nat} {ds : List D} {xs : List Rat} (h : Rt K n ds xs) {i : Nat} (hi : i < n) : ∃ d, opIx (.d (.tuple ds)) (.d (.int (i : Nat))) = some (.d d) ∧ ds[i]? = some d ∧ Tell K d (xs.getD i 0) := by
  have hl := h.len
  have hu := h.xlen
  have g : ds[i]? = some (ds[i]'(by omega)) := List.getElem?_eq_getElem (by omega)
  have gx : xs[i]? = some (xs[i]'(by omega)) := List.getElem?_eq_getElem (by omega)
  refine ⟨ds[i]'(by omega), opIx_t (atI_nat (by omega) (by rw [Int.toNat_natCast]; exact g)), g, ?_⟩
  rw [List.getD_eq_getElem?_getD, gx]
  exact h.tell i _ _ g gx
def cLetsPairing : CS :=
 (cSeq (cExp (cCallP fNeedAR (lCons (cVar 0) (lCons (cVar 1) lNil))))
 (cSeq (cSet 3 (cOp1 opLen (cVar 0)))
 (cSeq (cIfS (tNot' (cTru (cCallP fIsTable (lCons (cVar 3) (lCons (cVar 2) lNil)))))
 (cRet (cC (.bool false)))
 cNx)
 (cSeq (cFor (ciR1 (cVar 3)) (tgN 4)
 (cSeq (cIfS (tOr' (cB (cOp2 opNe (cCallP fTotal (lCons (cOp1 opList (cOp2 opIx (cVar 2) (cVar 4))) lNil)) (cOp2 opIx (cVar 0) (cVar 4)))) (cB (cOp2 opNe (cCallP fTotal (lCons (cLc [5] (ciSeq (cVar 2)) (tgN 5) ctYes (cOp2 opIx (cVar 5) (cVar 4))) lNil)) (cOp2 opIx (cVar 1) (cVar 4)))))
 (cRet (cC (.bool false)))
 cNx)
 (cIfS (cB (cOp2 opNe (cLc [6] (ciSeq (cSl (cOp2 opIx (cVar 2) (cVar 4)) (cPt (some (cOp2 opAdd (cVar 4) (cC (.int 1))))) (cPt none))) (tgN 6) (cB (cOp2 opNe (cOp2 opIx (cVar 6) (cC (.int 0))) (cC (.int 0)))) (cVar 6)) (cLst cNil)))
 (cRet (cC (.bool false)))
 cNx)))
 (cRet (cC (.bool true)))))))
def fLetsPairing : Fn := runF 7 cLetsPairing
theorem num_zero {d : D} (h : partB d = true) : ∃ p q : Int, d = .tuple [.int p, .int q] ∧ (p = 0 ↔ ratD d = 0) := by
  obtain ⟨p, q, rfl, h1, _, _⟩ := partB_ex h
  have hq := rat_ne (show 1 ≤ q by omega)
  refine ⟨p, q, rfl, ?_⟩
  show p = 0 ↔ (p : Rat) / q = 0
  constructor
  · intro z
    subst z
    rw [show ((0 : Int) : Rat) = 0 from rfl, Rat.div_def, Rat.zero_mul]
  · intro z
    have : (p : Rat) = 0 := by grind
    exact Rat.intCast_eq_zero_iff.mp this
end Vm
namespace Vm
open PySem L2 PySem.Spec PyProof.Rows
/-! ### the law's own answer: what is a share, what is a pairing -/
def cIsShareS : CS :=
 (cSeq (cIfS (tOr' (tNot' (cTru (cOp1 (opIsi "tuple") (cVar 0)))) (cB (cOp2 opNe (cOp1 opLen (cVar 0)) (cC (.int 2)))))
 (cRet (cC (.bool false)))
 cNx)
 (cSeq (cFor (ciSeq (cVar 0)) (tgN 1)
 (cIfS (tOr' (tNot' (cTru (cOp1 (opIsi "int") (cVar 1)))) (tOr' (cTru (cOp1 (opIsi "bool") (cVar 1))) (cB (cOp2 opLt (cVar 1) (cC (.int 0))))))
 (cRet (cC (.bool false)))
 cNx))
 (cRet (cAnd (cOp2 opGt (cOp2 opIx (cVar 0) (cC (.int 1))) (cC (.int 0))) (cOp2 opEq (cCallP fShareS (lCons (cOp2 opIx (cVar 0) (cC (.int 0))) (lCons (cOp2 opIx (cVar 0) (cC (.int 1))) lNil))) (cVar 0))))))
def fIsShareS : Fn := runF 2 cIsShareS
def intB : D → Bool
  | .int p => decide (0 ≤ p)
  | _ => false
theorem notI {d : D} (h : ∀ p, d ≠ .int p) : isiB "int" (tyN (.d d)) = false ∨ isiB "bool" (tyN (.d d)) = true := by
  cases d <;> first | exact absurd rfl (h _) | exact .inl rfl | exact .inr rfl
theorem isInt' {p : Int} : isiB "int" (tyN (.d (.int p))) = true ∧ isiB "bool" (tyN (.d (.int p))) = false := ⟨rfl, rfl⟩
theorem partB_len {ds : List D} (h : ¬ ds.length = 2) : partB (.tuple ds) = false := by
  unfold partB
  split
  · rename_i e
    cases e
    exact absurd rfl h
  · rfl
theorem partB_two {x y : D} (h : (intB x && intB y) = false) : partB (.tuple [x, y]) = false := by
  cases e : partB (.tuple [x, y]) with
  | false => rfl
  | true =>
    obtain ⟨p, q, e2, h1, h2, h3⟩ := partB_ex e
    cases e2
    have : (intB (.int p) && intB (.int q)) = true := by
      unfold intB
      rw [Bool.and_eq_true]
      exact ⟨decide_eq_true h3, decide_eq_true (by omega)⟩
    rw [this] at h
    cases h
theorem isShareS_ok {K : Nat} {d : D} (hb : ∀ p q, d = .tuple [.int p, .int q] → Bs K p ∧ Bs K q) (hK : K ≤ 200) : fIsShareS [.d d] [] = .ok (.d (.bool (partB d))) [] := by
  apply Ok.eq
  let X0 : Sl := .d d
  show Ok (fIsShareS [X0] []) _
  unfold fIsShareS
  apply run_ok
  unfold cIsShareS
  by_cases ht : ∃ ds, d = .tuple ds
  · obtain ⟨ds, rfl⟩ := ht
    by_cases hl : ds.length = 2
    · obtain ⟨x, y, rfl⟩ := len_two hl
      refine st (s1 := ⟨[X0, .u], []⟩) (by simp [X0, isi_t]; exact .rfl) ?_
      refine w_cut (fun s => (∃ x1, s = ⟨[X0, x1], []⟩) ∧ (intB x && intB y) = true) ?_ fun s hs => ?_
      · refine w_for (ds := [x, y]) (s1 := ⟨[X0, .u], []⟩) (fun i s => (∃ x1, s = ⟨[X0, x1], []⟩) ∧ ∀ r, r ∈ [x, y].take i → intB r = true) (by simp [X0]; exact .rfl) ⟨⟨_, rfl⟩, fun r hr => by simp at hr⟩ (fun i r s hr hi => ?_) fun s hi => ⟨hi.1, by rw [Bool.and_eq_true]; exact ⟨hi.2 x (by simp), hi.2 y (by simp)⟩⟩
        obtain ⟨⟨x1, rfl⟩, hall⟩ := hi
        have mem := List.mem_of_getElem? hr
        have no : intB r = false → partB (.tuple [x, y]) = false := fun z => partB_two (by
          simp at mem
          rcases mem with rfl | rfl
          · rw [z]; rfl
          · rw [z, Bool.and_false])
        refine ⟨⟨[X0, .d r], []⟩, rfl, ?_⟩
        by_cases hi : ∃ p, r = .int p
        · obtain ⟨p, rfl⟩ := hi
          obtain ⟨i1, i2⟩ := isInt' (p := p)
          by_cases hp : p < 0
          · refine w_ifT (s1 := ⟨[X0, .d (.int p)], []⟩) (by simp [i1, i2, hp]; exact .rfl) ?_
            exact w_ret (x := .d (.bool false)) (s1 := ⟨[X0, .d (.int p)], []⟩) (by simp; exact .rfl) (ok_0 ⟨by rw [no (decide_eq_false (by omega))], rfl⟩)
          · refine w_ifF (s1 := ⟨[X0, .d (.int p)], []⟩) (by simp [i1, i2, hp]; exact .rfl) (w_nx ⟨⟨_, rfl⟩, fun x' hx => ?_⟩)
            rw [List.take_add_one, hr] at hx
            rcases List.mem_append.mp hx with hx | hx
            · exact hall x' hx
            · simp at hx
              subst hx
              exact decide_eq_true (by omega)
        · have nr : intB r = false := by
            unfold intB
            split
            · exact absurd ⟨_, rfl⟩ hi
            · rfl
          rcases notI (d := r) fun p e => hi ⟨p, e⟩ with h | h
          · refine w_ifT (s1 := ⟨[X0, .d r], []⟩) (by simp [h]; exact .rfl) ?_
            exact w_ret (x := .d (.bool false)) (s1 := ⟨[X0, .d r], []⟩) (by simp; exact .rfl) (ok_0 ⟨by rw [no nr], rfl⟩)
          · refine w_ifT (s1 := ⟨[X0, .d r], []⟩) (by cases e : isiB "int" (tyN (.d r)) <;> simp [h, e] <;> exact .rfl) ?_
            exact w_ret (x := .d (.bool false)) (s1 := ⟨[X0, .d r], []⟩) (by simp; exact .rfl) (ok_0 ⟨by rw [no nr], rfl⟩)
      · obtain ⟨⟨x1, rfl⟩, h⟩ := hs
        rw [Bool.and_eq_true] at h
        obtain ⟨hx, hy⟩ := h
        obtain ⟨p, rfl⟩ : ∃ p, x = .int p := by
          unfold intB at hx
          split at hx
          · exact ⟨_, rfl⟩
          · cases hx
        obtain ⟨q, rfl⟩ : ∃ q, y = .int q := by
          unfold intB at hy
          split at hy
          · exact ⟨_, rfl⟩
          · cases hy
        have p0 : 0 ≤ p := of_decide_eq_true hx
        have q0 : 0 ≤ q := of_decide_eq_true hy
        have ip : opIx (.d (.tuple [PyData.int p, .int q])) (.d (.int 0)) = some (.d (.int p)) := rfl
        have iq : opIx (.d (.tuple [PyData.int p, .int q])) (.d (.int 1)) = some (.d (.int q)) := rfl
        obtain ⟨bp, bq⟩ := hb p q rfl
        by_cases hq : 0 < q
        · obtain ⟨p', q', e, sh, hm⟩ := shareS_ok (top := p) (bot := q) (by omega) bp bq (by omega)
          have eq := opEq_intsT (as := [p', q']) (bs := [p, q])
          have ec : decide ([p', q'] = [p, q]) = partB (.tuple [.int p, .int q]) := by
            show _ = decide (0 < q ∧ Int.gcd p q = 1 ∧ 0 ≤ p)
            apply decide_eq_decide.mpr
            constructor
            · intro z
              cases z
              exact ⟨hq, sh.cop, p0⟩
            · intro z
              obtain ⟨rfl, rfl⟩ := low_one sh.pos (by omega) sh.cop z.2.1 hm
              rfl
          rw [ec] at eq
          have e' : fShareS [.d (.int p), .d (.int q)] [] = .ok (.d (.tuple ([p', q'].map PyData.int))) [] := e
          have X0e : X0 = .d (.tuple ([p, q].map PyData.int)) := rfl
          generalize PyData.tuple ([p', q'].map PyData.int) = Z at *
          generalize partB (.tuple [.int p, .int q]) = B at *
          refine w_ret (x := .d (.bool B)) (s1 := ⟨[X0, x1], []⟩) (by simp at eq; simp [X0, ip, iq, hq, e', eq]; exact .rfl) (ok_0 ⟨rfl, rfl⟩)
        · have pf : partB (.tuple [.int p, .int q]) = false := decide_eq_false fun z => hq z.1
          rw [pf]
          exact w_ret (x := .d (.bool false)) (s1 := ⟨[X0, x1], []⟩) (by simp [X0, iq, hq]; exact .rfl) (ok_0 ⟨rfl, rfl⟩)
    · have hl' : ¬ (ds.length : Int) = 2 := by omega
      refine w_sif (s1 := ⟨[X0, .u], []⟩) (x := true) (by simp [X0, isi_t, hl']; exact .rfl) (fun _ => ?_) fun z => nomatch z
      exact w_retS (x := .d (.bool false)) (s1 := ⟨[X0, .u], []⟩) (by simp; exact .rfl) (ok_0 ⟨by rw [partB_len hl], rfl⟩)
  · have nt := notT (d := d) fun ps e => ht ⟨ps, e⟩
    refine w_sif (s1 := ⟨[X0, .u], []⟩) (x := true) (by simp [X0, nt]; exact .rfl) (fun _ => ?_) fun z => nomatch z
    exact w_retS (x := .d (.bool false)) (s1 := ⟨[X0, .u], []⟩) (by simp; exact .rfl) (ok_0 ⟨by
      unfold partB
      split
      · exact absurd ⟨_, rfl⟩ ht
      · rfl, rfl⟩)
end Vm
namespace Vm
open PySem L2 PySem.Spec PyProof.Rows
/-! ### rules drawn, over whole bottoms -/
/-- a pair of rules over one bottom -/
structure PairQ (q : List D × List D) : Prop where
  ex : ∃ n N us vs, 1 ≤ n ∧ n ≤ 12 ∧ IR 40 N n q.1 us ∧ IR 40 N n q.2 vs
theorem PairQ.swap {q : List D × List D} (h : PairQ q) : PairQ (q.2, q.1) := by
  obtain ⟨n, N, us, vs, a, b, c, d⟩ := h.ex
  exact ⟨n, N, vs, us, a, b, d, c⟩
/-! ### the pairing told passes -/
theorem Tb.is {K n : Nat} {N : Int} {τ : Nat → Nat → D} {R : Nat → Nat → Int} {us vs : List Int} (T : Tb K N n τ R) (P : Prg n us vs R) (hN : 1 ≤ N) (xs ys : List Rat) (hx : ∀ i, i < n → xs.getD i 0 = ((us.getD i 0 : Int) : Rat) / (N : Rat)) (hy : ∀ i, i < n → ys.getD i 0 = ((vs.getD i 0 : Int) : Rat) / (N : Rat)) :
    BdD K (tbD n τ) ∧ prB n xs ys (tbD n τ) = true ∧ (prB n ys xs (tbD n τ) = true → ∀ i, i < n → xs.getD i 0 = ys.getD i 0) := by
  have part : ∀ a b, a < n → b < n → partB (τ a b) = true := fun a b ha hb => by
    obtain ⟨p, q, e, s, r⟩ := (T.tell a b ha hb).ex
    rw [e]
    refine decide_eq_true ⟨by have := s.pos; omega, s.cop, ?_⟩
    have h1 : (0 : Rat) ≤ (R a b : Rat) := Rat.intCast_nonneg.mpr (P.ge a b)
    have h2 := rat_pos s.pos
    have h3 := rat_pos hN
    have : (0 : Rat) ≤ (p : Rat) := by
      rw [r, Rat.div_def]
      exact Rat.mul_nonneg (Rat.mul_nonneg h1 (Rat.le_of_lt (Rat.inv_pos.mpr h3))) (Rat.le_of_lt h2)
    exact Rat.intCast_nonneg.mp this
  have mem : ∀ ps, PyData.tuple ps ∈ (List.range n).map (fun a => PyData.tuple (rwT n τ a)) → ∀ x, x ∈ ps → ∃ a b, a < n ∧ b < n ∧ x = τ a b := fun ps hps x hx => by
    obtain ⟨a, ha, e⟩ := List.mem_map.mp hps
    cases e
    obtain ⟨b, hb, rfl⟩ := List.mem_map.mp hx
    exact ⟨a, b, List.mem_range.mp ha, List.mem_range.mp hb, rfl⟩
  have bd : BdD K (tbD n τ) := by
    constructor
    · intro rows e ps hps p q hm
      cases e
      obtain ⟨a, b, ha, hb, e⟩ := mem ps hps _ hm
      obtain ⟨p', q', e', s, _⟩ := (T.tell a b ha hb).ex
      rw [e'] at e
      cases e
      exact ⟨s.bp, s.bq⟩
    · intro rows e ps hps x hm
      cases e
      obtain ⟨a, b, ha, hb, rfl⟩ := mem ps hps _ hm
      exact tell_plain (T.tell a b ha hb)
  have tb : tabB n (tbD n τ) = true := by
    unfold tbD
    rw [tabB_t, Bool.and_eq_true]
    refine ⟨decide_eq_true (by simp), List.all_eq_true.mpr fun r hr => ?_⟩
    obtain ⟨a, ha, rfl⟩ := List.mem_map.mp hr
    rw [rowB_t, Bool.and_eq_true]
    refine ⟨decide_eq_true (by simp), List.all_eq_true.mpr fun x hx => ?_⟩
    obtain ⟨b, hb, rfl⟩ := List.mem_map.mp hx
    exact part a b (List.mem_range.mp ha) (List.mem_range.mp hb)
  obtain ⟨τ', T'⟩ := tab_is tb bd
  have same : ∀ a b, a < n → b < n → τ' a b = τ a b := fun a b ha hb => by
    have e := T'.e
    have e := PyData.tuple.inj e
    have h1 := congrArg (fun L : List D => L[a]?) e
    simp [ha] at h1
    exact (h1 b hb).symm
  have val : ∀ a b, a < n → b < n → ratD (τ' a b) = ((R a b : Int) : Rat) / (N : Rat) := fun a b ha hb => by
    rw [same a b ha hb]
    exact ratD_tell (T.tell a b ha hb)
  have srow : ∀ i, i < n → ((List.range n).map fun b => ratD (τ' i b)).sum = ((us.getD i 0 : Int) : Rat) / (N : Rat) := fun i hi => by
    rw [List.map_congr_left fun b hb => val i b hi (List.mem_range.mp hb)]
    have := sum_over (W := N) ((List.range n).map (R i))
    rw [List.map_map] at this
    rw [← P.row i hi]
    exact this
  have scol : ∀ i, i < n → ((List.range n).map fun a => ratD (τ' a i)).sum = ((vs.getD i 0 : Int) : Rat) / (N : Rat) := fun i hi => by
    rw [List.map_congr_left fun b hb => val b i (List.mem_range.mp hb) hi]
    have := sum_over (W := N) ((List.range n).map fun a => R a i)
    rw [List.map_map] at this
    rw [← P.col i hi]
    exact this
  refine ⟨bd, ?_, fun h i hi => ?_⟩
  · unfold prB
    rw [tb, Bool.true_and, fitB_t T'.c]
    refine List.all_eq_true.mpr fun i hi => ?_
    have hi := List.mem_range.mp hi
    unfold fitT
    rw [srow i hi, scol i hi, hx i hi, hy i hi, decide_eq_true rfl, decide_eq_true rfl]
    refine List.all_eq_true.mpr fun b hb => decide_eq_true ?_
    have hbn : b < n := List.mem_range.mp (List.mem_of_mem_drop hb)
    have hib : i < b := by
      obtain ⟨l, hl, rfl⟩ := List.getElem_of_mem hb
      simp
      omega
    rw [val i b hi hbn, P.sup i b hbn hib, show ((0 : Int) : Rat) = 0 from rfl, Rat.div_def, Rat.zero_mul]
  · unfold prB at h
    rw [tb, Bool.true_and, fitB_t T'.c] at h
    have h := List.all_eq_true.mp h i (List.mem_range.mpr hi)
    unfold fitT at h
    rw [Bool.and_eq_true, Bool.and_eq_true] at h
    have := of_decide_eq_true h.1.1
    rw [srow i hi, ← hx i hi] at this
    exact this
end Vm
namespace Vm
open PySem L2 PySem.Spec PyProof.Rows
/-! ### rules drawn (C) by whole weights -/
theorem rs_tel {f : Nat → Int} : ∀ n : Nat, rs n (fun i => f (i + 1) - f i) = f n - f 0
  | 0 => by simp [rs]
  | n + 1 => by
    rw [rs_succ, rs_tel n]
    omega
end Vm
namespace Vm
open PySem L2 PySem.Spec PyProof.Rows
/-! ### a common bottom; loads and spreads drawn (C) -/
/-! ### loads drawn -/
/-- sorted cuts from nought to b -/
structure Cuts (n : Nat) (b : Int) (cs : List Int) : Prop where
  len : cs.length = n + 1
  pw : cs.Pairwise (· ≤ ·)
  e : cs.getD n 0 - cs.getD 0 0 = b
  bd : ∀ c, c ∈ cs → 0 ≤ c ∧ c ≤ b
theorem Cuts.ld {n : Nat} {b : Int} {cs : List Int} (h : Cuts n b cs) : Ld n b (sortD ((List.range n).map fun i => cs.getD (i + 1) 0 - cs.getD i 0)) := by
  refine ⟨by rw [sortD_len]; simp, fun x hx => ?_, ?_, sortD_pw _⟩
  · obtain ⟨i, hi, rfl⟩ := List.mem_map.mp (sortD_mem.mp hx)
    have hi := List.mem_range.mp hi
    have hl := h.len
    have := List.pairwise_iff_getElem.mp h.pw i (i + 1) (by omega) (by omega) (by omega)
    rw [getD_get (show i + 1 < cs.length by omega), getD_get (show i < cs.length by omega)]
    omega
  · rw [sortD_sum]
    exact (rs_tel (f := fun i => cs.getD i 0) n).trans h.e
end Vm
namespace Vm
open PySem L2 PySem.Spec PyProof.Rows
/-! ### spreads drawn (C) -/
/-- weights of at most so many loads -/
structure CnD (n : Nat) (b : Int) (i : Nat) (F : List (List Int × Int)) : Prop where
  nd : (keys F).Nodup
  ld : ∀ k, k ∈ keys F → Ld n b k
  w : ∀ k, k ∈ keys F → 1 ≤ wt F k ∧ wt F k ≤ 100
  len : F.length ≤ i
  ne : 1 ≤ i → keys F ≠ []
theorem wt_aput {F : List (List Int × Int)} {k t : List Int} {v : Int} : wt (aput F k v) t = if t = k then v else wt F t := by
  unfold wt
  rw [aget_aput]
  split <;> rfl
theorem CnD.put {n : Nat} {b : Int} {i : Nat} {F : List (List Int × Int)} {k : List Int} {v : Int} (h : CnD n b i F) (hk : Ld n b k) (v1 : 1 ≤ v) (v2 : v ≤ 100) : CnD n b (i + 1) (aput F k v) := by
  refine ⟨nodup_aput h.nd, fun t ht => ?_, fun t ht => ?_, ?_, fun _ z => ?_⟩
  · rcases mem_aput.mp ht with ht | rfl
    · exact h.ld t ht
    · exact hk
  · rw [wt_aput]
    split
    · exact ⟨v1, v2⟩
    · rcases mem_aput.mp ht with ht | ht
      · exact h.w t ht
      · contradiction
  · have := aput_len (F := F) (k := k) (v := v)
    have := h.len
    omega
  · have : k ∈ keys (aput F k v) := mem_aput.mpr (.inr rfl)
    rw [z] at this
    cases this
theorem CnD.sum {n : Nat} {b : Int} {i : Nat} {F : List (List Int × Int)} (h : CnD n b i F) (i1 : 1 ≤ i) : 1 ≤ sumW F ∧ sumW F ≤ 100 * (i : Int) := by
  rw [← sum_keys h.nd]
  have kl : (keys F).length = F.length := by unfold keys; rw [List.length_map]
  have hl := h.len
  constructor
  · obtain ⟨k, ks, e⟩ : ∃ k ks, keys F = k :: ks := by
      cases e : keys F with
      | nil => exact absurd e (h.ne i1)
      | cons a l => exact ⟨a, l, rfl⟩
    have h1 := h.w k (by rw [e]; exact List.mem_cons_self ..)
    have h2 := mem_le_sum (xs := (keys F).map (wt F)) (fun x hx => by
      obtain ⟨t, ht, rfl⟩ := List.mem_map.mp hx
      have := h.w t ht
      omega) (wt F k) (List.mem_map_of_mem (by rw [e]; exact List.mem_cons_self ..))
    omega
  · have := isum_le (ws := (keys F).map (wt F)) (b := 100) fun x hx => by
      obtain ⟨t, ht, rfl⟩ := List.mem_map.mp hx
      exact (h.w t ht).2
    rw [List.length_map, kl] at this
    omega
end Vm
namespace Vm
open PySem L2 PySem.Spec PyProof.Rows
/-! ### lists beside an empty one: their items are not looked at -/
def rNeNil (K : Fg) : R2 := fun x y H Q => ∃ a b vs, x = .ref a ∧ y = .ref b ∧ SqL K H a vs ∧ SqL K H b [] ∧ Q (.bl (!vs.isEmpty)) H
theorem op_neNil {X : Cx} (hu : X.A.units + 64 < cLine) : OpR X (compareOp .NotEq) (rNeNil X.K) := by
  intro pins s σ H x y v u Q I rx ry h
  obtain ⟨a, b, vs, rfl, rfl, ha, hb, q⟩ := h
  cases rx
  cases ry
  obtain ⟨its, r1, p1, _⟩ := I.list ha
  obtain ⟨its2, r2, p2, _⟩ := I.list hb
  have l1 := r1.length
  have l2 := r2.length
  rw [List.length_nil] at l2
  by_cases hsz : its.toArray.size = its2.toArray.size
  · have e : vs = [] := by
      cases vs with
      | nil => rfl
      | cons _ _ =>
        simp at hsz l1
        omega
    subst e
    have hz : its.toArray.size = 0 := by
      simp at l1
      simp [← l1]
    have h3 := SeqAt.RcNeAt.lists (A := X.A) (e := fun _ => true) p1.isList p2.isList hsz (by omega) fun j j1 _ => by omega
    rw [hz] at h3
    exact h3 _ _ _ _ ⟨.bl _, H, I, rfl, q⟩
  · have e : vs.isEmpty = false := by
      cases vs with
      | nil =>
        simp at hsz l1
        omega
      | cons _ _ => rfl
    rw [e] at q
    exact SeqAt.RcNeAt.lists_lengths (A := X.A) p1.isList p2.isList (by simpa using hsz) (by omega) _ _ _ _ ⟨.bl _, H, I, rfl, q⟩
def opNeE : Od → Od → Option Rv
  | .d (.list L), .d (.list []) => some (.d (.bool (!L.isEmpty)))
  | x, y => opNe x y
theorem s_neE {K : Fg} : Op2S K (fun x y H Q => rNeNil K x y H Q ∨ rEqV K true x y H Q) opNeE := by
  intro w x y o o' rv Q hx h h' e q
  unfold opNeE at e
  split at e
  · rename_i L
    cases e
    have r1 := h.rp hx
    have r2 := h'.rp hx
    cases r1 with
    | lst s1 a1 =>
      cases r2 with
      | lst s2 a2 =>
        cases a2
        refine .inl ⟨_, _, _, rfl, rfl, s1, s2, ?_⟩
        have e3 : ∀ vs : List V, RpAll K w.H vs L → vs.isEmpty = L.isEmpty := fun vs h => by
          cases h <;> rfl
        rw [e3 _ a1]
        exact post_bool q
  · exact .inr (s_ne w x y _ _ rv Q hx h h' e q)
@[simp] theorem opNeE_nil {L : List D} : opNeE (.d (.list L)) (.d (.list [])) = some (.d (.bool (!L.isEmpty))) := rfl
/-! ### comprehensions over a thing whose elements are data or cells -/
def elSl : El → Sl
  | .d x => .d x
  | .c k => .c k
theorem elSl_ok {ec : EC} {K : Fg} {w : Wd} {v : V} {e : El} (h : ElOk K w.G w.r v e) : SlOk ec K w (some (some v)) (elSl e) := by
  cases e with
  | d x => exact ⟨v, rfl, h⟩
  | c k =>
    obtain ⟨p, rfl, hp⟩ := h
    exact ⟨p, rfl, hp⟩
abbrev CIE := S → R (List El)
def ItE (K : Fg) (w : Wd) (J : It) (es : List El) : Prop := ∀ w1, Le w w1 → Same w1.G w1.H → ∀ i, (∀ e, es[i]? = some e → J.go i w1.H ∧ ∀ x H', J.yld i w1.H x H' → ∃ w2, Gr w1 w2 ∧ w2.H = H' ∧ ElOk K w2.G w2.r x e) ∧ (es.length ≤ i → J.stop i w1.H)
def rdIE (K : Fg) (ec : EC) (W : WX) (c : CIE) : TI := fun σ H R => ∃ w s, w.H = H ∧ Rel ec K w σ s ∧ Res (fun es s' => ∀ J w', Le w w' → Rel ec K w' σ s' → ItE K w' J es → R J w'.H) (okE K ec W σ w) (c s)
def ciT (c : CE) : CIE := fun s => (cv c s).bind fun a s1 => match a with
  | .t _ es => .ok es s1
  | _ => .bad
def rdGE (ec : EC) (K : Fg) (own : List Nat) (i : Nat) : TG := fun v σ H Q => ∃ w s e, w.H = H ∧ Rel ec K w σ s ∧ ElOk K w.G w.r v e ∧ ∀ σ', Off own σ σ' → Rel ec K w σ' ⟨s.v.set i (elSl e), s.m⟩ → Q σ' H
section
variable {X : Cx} {ec : EC} {W : WX}
theorem i_T {tg l : Expr} {c : CE} (h : Ex X ec W l c) : L2.PI X tg l (rdIE X.K ec W (ciT c)) := PI.imp (pi_seq h) fun σ H R h => by
  obtain ⟨w, s, rfl, hr, h⟩ := h
  refine run_cv hr h fun x w1 s1 a le1 hr1 ha hn h1 => ?_
  cases a with
  | ref n => exact h1.elim
  | d _ => exact h1.elim
  | new c => exact h1.elim
  | t b es =>
    obtain ⟨a, vs, rfl, hG, ps⟩ := (show VtOk X.K w1.G w1.r x b es from ha)
    have lv : vs.length = es.length := Paired.length ps
    cases b with
    | false =>
      refine ⟨_, rfl, .inl ⟨_, hr1.mem.ext.seq (SqL.of hG), h1 _ w1 le1 hr1 fun w2 le2 e2 i => ⟨fun e he => ?_, fun hl => ⟨_, e2.seq (le2.g.seq (SqL.of hG)), by rw [lv]; exact hl⟩⟩⟩⟩
      obtain ⟨v, ev, rp⟩ := els_get ps he
      refine ⟨⟨_, v, e2.seq (le2.g.seq (SqL.of hG)), ev⟩, fun x H' hy => ⟨w2, Gr.refl w2, hy.1.symm, ?_⟩⟩
      have := hy.2 _ (e2.seq (le2.g.seq (SqL.of hG)))
      rw [ev] at this
      cases this
      exact elOk_mono le2.g (fun k p q => le2.cell q) rp
    | true =>
      refine ⟨_, rfl, .inr ⟨_, SqT.of (hr1.mem.ext _ _ hG), h1 _ w1 le1 hr1 fun w2 le2 e2 i => ⟨fun e he => ?_, fun hl => ⟨_, SqT.of (e2 _ _ (le2.g _ _ hG)), by rw [lv]; exact hl⟩⟩⟩⟩
      obtain ⟨v, ev, rp⟩ := els_get ps he
      refine ⟨⟨_, v, SqT.of (e2 _ _ (le2.g _ _ hG)), ev⟩, fun x H' hy => ⟨w2, Gr.refl w2, hy.1.symm, ?_⟩⟩
      have := hy.2 _ (SqT.of (e2 _ _ (le2.g _ _ hG)))
      rw [ev] at this
      cases this
      exact elOk_mono le2.g (fun k p q => le2.cell q) rp
theorem g_nameE (i : Nat) {own : List Nat} {x : Str} {pos : Pos} (hN : X.N.Nodup) (ho : i ∈ own) (hi : X.N[i]? = some x := by rfl) (hx : Loc X.env.scope x := by first | exact Or.inl rfl | exact Or.inr rfl) (hf : X.fn x = true ∨ X.env.scope.names.lookup x = some .local := by first | exact .inl rfl | exact .inr rfl) : PG X (.Name x pos) (rdGE ec X.K own i) :=
  PG.imp (pg_name hN hi hx hf) fun v σ H Q h => by
    obtain ⟨w, s, e, rfl, hr, rp, q⟩ := h
    exact q _ ⟨List.length_set, fun j hj => List.getElem?_set_ne fun z => hj (by rw [← z]; exact ho)⟩ (hr.set i (elSl_ok rp))
def lcE (own : List Nat) (v0 : List Sl) (i : Nat) (el : CE) : List El → List D → List Cell → R Rv
  | [], acc, m => .ok (.new (.l acc)) ⟨v0, m⟩
  | e :: es, acc, m => (cv el ⟨(wipeV v0 own).set i (elSl e), m⟩).nx.bind fun a s3 => match a with
        | .d x => lcE own v0 i el es (acc ++ [x]) s3.m
        | _ => .bad
def cLcE (own : List Nat) (ci : CIE) (i : Nat) (el : CE) : CE := fun s => (ci s).bind fun es s1 => if es.length ≤ 16000000 then lcE own s1.v i el es [] s1.m else .bad
theorem lcE_read {σ : L2.St} {H : Hp} {Q : VK} {own : List Nat} {ci : CIE} {k : Nat} {el : CE} (h : rd X.K ec W (cLcE own ci k el) σ H Q) :
    tLc (rdIE X.K ec W ci) (rdGE ec X.K own k) (rdT X.K ec W0 ctYes) (rd X.K ec W0 el) own σ H Q := by
  obtain ⟨w, s, rfl, hr, h⟩ := h
  refine ⟨w, s, rfl, hr, ?_⟩
  unfold cLcE at h
  cases e0 : ci s with
  | bad => rw [e0] at h; exact h
  | ex n s' => rw [e0] at h; exact h
  | ok ds s0 =>
    rw [e0] at h
    by_cases hz : ds.length ≤ 16000000
    · simp only [R.bind, hz, if_true] at h
      intro J w0 le0 r0 hJ Dp hD
      have h0 : FinV X.K ec W σ Q w0 (lcE own s0.v k el ds [] s0.m) := FinV.le le0 h
      -- what holds between two turns
      refine ⟨fun i m H1 => ∃ w1 m1 acc vs, w1.H = H1 ∧ w1.F = (fun q => w0.F q ∨ q = Dp) ∧ Le w0 (w1.f w0.F) ∧ Rel ec X.K w1 σ ⟨s0.v, m1⟩ ∧ w1.H Dp = some (.lst vs) ∧ RpAll X.K w1.G vs acc ∧ acc.length ≤ i ∧ i + m = ds.length ∧ FinV X.K ec W σ Q w0 (lcE own s0.v k el (ds.drop i) acc m1),
        ⟨ds.length, w0.hold Dp (.lst []), s0.m, [], [], rfl, rfl, Le.hold hD, r0.hold hD, upd_same, .nil, Nat.le_refl _, Nat.zero_add _, h0⟩, fun i m H1 hW => ?_⟩
      obtain ⟨w1, m1, acc, vs, rfl, hF, le1, r1, hd, ra, hacc, hm, h1⟩ := hW
      have r1f : Rel ec X.K (w1.f w0.F) σ ⟨s0.v, m1⟩ := r1.f (fun q hq => r1.mem.fo q (by rw [hF]; exact .inl hq)) (r0.mem.tab.back r1.mem.tab) fun q hq => r1.mem.nv.2 q (by rw [hF]; exact .inl hq)
      obtain ⟨hgo, hst⟩ := hJ (w1.f w0.F) le1 r1.mem.ext i
      have gD : w1.G Dp = none := (r1.mem.fo Dp (by rw [hF]; exact .inr rfl)).1
      have rD : Dp ∉ w1.r := (r1.mem.fo Dp (by rw [hF]; exact .inr rfl)).2.1
      have fD : ¬ w0.F Dp := fun z => by
        obtain ⟨_, _, o, ho⟩ := r0.mem.fo Dp z
        rw [hD] at ho
        cases ho
      by_cases hi : i < ds.length
      · have hdi : ds[i]? = some ds[i] := List.getElem?_eq_getElem hi
        obtain ⟨g1, g2⟩ := hgo _ hdi
        rw [List.drop_eq_getElem_cons hi] at h1
        unfold lcE at h1
        refine .inr ⟨g1, fun H' => ∃ w' m' acc' vs', w'.H = H' ∧ w'.F = (fun q => w0.F q ∨ q = Dp) ∧ Le w0 (w'.f w0.F) ∧ Rel ec X.K w' σ ⟨s0.v, m'⟩ ∧ w'.H Dp = some (.lst vs') ∧ RpAll X.K w'.G vs' acc' ∧ acc'.length ≤ i + 1 ∧ (i + 1) + (m - 1) = ds.length ∧ FinV X.K ec W σ Q w0 (lcE own s0.v k el (ds.drop (i + 1)) acc' m'),
          fun H' ⟨w', m', acc', vs', a1, a2, a3, a4, a5, a6, a7, a8, a9⟩ => ⟨m - 1, by omega, w', m', acc', vs', a1, a2, a3, a4, a5, a6, a7, a8, a9⟩, fun x H' hy => ?_⟩
        obtain ⟨w2, gr, rfl, rp⟩ := g2 x H' hy
        have gr' : Gr w1 (w2.f w1.F) := ⟨gr.r, rfl, gr.g, gr.h, gr.e, gr.n, gr.t⟩
        have r2 : Rel ec X.K (w2.f w1.F) σ ⟨s0.v, m1⟩ := r1.grow gr'
        obtain ⟨s2, hs2⟩ : ∃ s2 : S, (⟨(wipeV s0.v own).set k (elSl ds[i]), m1⟩ : S) = s2 := ⟨_, rfl⟩
        rw [hs2] at h1
        refine ⟨w2.f w1.F, ⟨wipeV s0.v own, m1⟩, ds[i], rfl, rel_wipe r2 own, rp, fun σ' off r3 => ⟨wipe_off off, ?_⟩⟩
        have r3 : Rel ec X.K (w2.f w1.F) σ' ⟨(wipeV s0.v own).set k (elSl ds[i]), m1⟩ := r3
        rw [hs2] at r3
        refine ⟨w2.f w1.F, s2, rfl, r3, ?_⟩
        intro w3 le3 r4
        have hF3 : w3.F = (fun q => w0.F q ∨ q = Dp) := by rw [le3.s, ← hF]
        have lw3 : Le w0 (w3.f w0.F) := (le1.trans (gr'.le.ch w0.F)).trans (le3.ch w0.F)
        have d2 : (w2.f w1.F).H Dp = some (.lst vs) := gr.h _ _ hd
        have d3 : w3.H Dp = some (.lst vs) := le3.kN (p := Dp) d2 (by
          show Dp ∉ w2.r
          rw [gr.r]
          exact rD) noTb_l
        have ra3 : RpAll X.K w3.G vs acc := ra.mono (gr'.g.trans le3.g)
        have r4' : Rel ec X.K w3 σ ⟨s0.v, s2.m⟩ := rel_mem (m := m1) le3 r2 r4.mem
        rw [if_pos rfl]
        refine ⟨w3, s2, rfl, r4, ?_⟩
        unfold cv at h1
        cases eel : el s2 with
        | bad => simp only [eel, R.bind] at h1; exact h1.elim
        | ex n s' => simp only [eel, R.bind] at h1; exact h1.elim
        | ok a s4 =>
          simp only [eel, R.bind] at h1
          intro y w4 le4 r5 oa fr
          -- the element became data
          have go : ∀ (d : D) (w5 : Wd), w5.H = w4.H → Le w3 w5 → Rel ec X.K w5 σ' s4 → Rp X.K w5.G y d → FinV X.K ec W σ Q w0 (lcE own s0.v k el (ds.drop (i + 1)) (acc ++ [d]) s4.m) → ∃ acc', w4.H Dp = some (.lst acc') ∧ acc'.length < sizeLine ∧ ∃ w' m' acc'' vs', w'.H = upd w4.H Dp (.lst (acc' ++ [y])) ∧ w'.F = (fun q => w0.F q ∨ q = Dp) ∧ Le w0 (w'.f w0.F) ∧ Rel ec X.K w' σ ⟨s0.v, m'⟩ ∧ w'.H Dp = some (.lst vs') ∧ RpAll X.K w'.G vs' acc'' ∧ acc''.length ≤ i + 1 ∧ (i + 1) + (m - 1) = ds.length ∧ FinV X.K ec W σ Q w0 (lcE own s0.v k el (ds.drop (i + 1)) acc'' m') := by
            intro d w5 eH le5 r6 rpd h4
            have hF5 : w5.F = (fun q => w0.F q ∨ q = Dp) := by rw [le5.s, hF3]
            have d5 : w5.H Dp = some (.lst vs) := le5.kN d3 (r4'.mem.fo Dp (by rw [hF3]; exact .inr rfl)).2.1 noTb_l
            have ra5 : RpAll X.K w5.G vs acc := ra3.mono le5.g
            have r6' : Rel ec X.K w5 σ ⟨s0.v, s4.m⟩ := rel_mem (m := s2.m) le5 r4' r6.mem
            have fD5 : w5.F Dp := by rw [hF5]; exact .inr rfl
            have r7 := r6'.rehold (o := .lst (vs ++ [y])) fD5 d5 noTb_l (fun _ z => by cases z) (r0.new0 hD)
            have lw5 : Le w0 (w5.f w0.F) := lw3.trans (le5.ch w0.F)
            have lw7 : Le w0 ((⟨w5.G, w5.r, w5.F, upd w5.H Dp (.lst (vs ++ [y]))⟩ : Wd).f w0.F) := ⟨lw5.g, fun q u e n => by
              obtain ⟨u', e', q'⟩ := lw5.k q u e n
              refine ⟨u', ?_, q'⟩
              show upd w5.H Dp _ q = some u'
              rw [upd_ne (ne_of_none e hD)]
              exact e', lw5.p, lw5.f, rfl⟩
            rw [← eH]
            refine ⟨vs, d5, ?_, ⟨w5.G, w5.r, w5.F, upd w5.H Dp (.lst (vs ++ [y]))⟩, s4.m, acc ++ [d], vs ++ [y], rfl, hF5, lw7, r7, upd_same, ra5.append (.cons rpd .nil), ?_, by omega, h4⟩
            · rw [ra5.length]
              exact lt16 (by omega)
            · rw [List.length_append]
              show acc.length + 1 ≤ i + 1
              omega
          cases a with
          | ref n => exact h1.elim
          | t _ _ => exact h1.elim
          | d d => exact go d w4 rfl le4 r5 oa h1
          | new c =>
            cases ed : c.D? with
            | none => simp only [ed] at h1; exact h1.elim
            | some d =>
              simp only [ed] at h1
              obtain ⟨G', r6, le6, rp6⟩ := freeze r5 oa (d := d) ed
              exact go d ⟨G', w4.r, w4.F, w4.H⟩ rfl (le4.trans le6) r6 rp6 h1
      · refine .inl ⟨hst (by omega), ?_⟩
        rw [List.drop_eq_nil_of_le (by omega)] at h1
        exact h1 (.ref Dp) (w1.f w0.F) le1 r1f ⟨Dp, rfl, ⟨rD, fD⟩, gD, vs, hd, ra⟩ fun _ _ p e => by
          cases e
          exact hD
    · simp only [R.bind, hz, if_false] at h
      exact h.elim
theorem e_lcE {elt iter : Expr} {x : Str} {px : Pos} {scope : Scope} {own : List (Str × Nat)} {pos : Pos} {k : Nat} {ci : CIE} {el : CE} (hN : X.N.Nodup) (ok : BlkOk X.N X.env.scope scope own) (hi : L2.PI X (Expr.Name x px) iter (rdIE X.K ec W ci))
    (hg : ∀ (s : Shared) (H : Hp) (C : Addr) (cl : List (Str × Addr)) (fp : List Addr), PG (X.blk s H scope (compEnvC scope cl C X.env) fp) (Expr.Name x px) (rdGE ec X.K (own.map (·.2)) k))
    (ht : ∀ (s : Shared) (H : Hp) (C : Addr) (cl : List (Str × Addr)) (fp : List Addr), PTs (X.blk s H scope (compEnvC scope cl C X.env) fp) [] (rdT X.K ec W0 ctYes))
    (he : ∀ (s : Shared) (H : Hp) (C : Addr) (cl : List (Str × Addr)) (fp : List Addr), PE (X.blk s H scope (compEnvC scope cl C X.env) fp) elt (rd X.K ec W0 el)) (hcal : X.calm = true := by rfl) (hs : ∀ x, foldedSetIterable iter X.env x = pure x := by intro _; rfl) :
    Ex X ec W (.ListComp elt [⟨Expr.Name x px, iter, [], 0⟩] scope pos) (cLcE (own.map (·.2)) ci k el) := (pe_lc hcal hN hi ok hg ht he hs).imp fun σ H Q h => lcE_read h
end
end Vm
namespace Vm
open PySem L2
def c_is_whole : CS :=
 (cRet (cAnd (cOp1 (opIsi "int") (cVar 0)) (cNot (cOp1 (opIsi "bool") (cVar 0)))))
abbrev f_is_whole : Fn := fWhole
def c_measure : CS :=
 (cSeq (cWh (fun _ => 1000000) (cB (cOp2 opGt (cVar 1) (cC (.int 0))))
 (cPar 0 1 (cVar 1) (cOp2 opMod (cVar 0) (cVar 1))))
 (cRet (cVar 0)))
abbrev f_measure : Fn := fMeasure
def c_share : CS :=
 (cSeq (cIfS (cB (cOp2 opEq (cVar 1) (cC (.int 0))))
 (cRaise "NoShare")
 cNx)
 (cSeq (cSet 2 (cCallP f_measure (lCons (cOp1 opAbs (cVar 0)) (lCons (cOp1 opAbs (cVar 1)) lNil))))
 (cSeq (cIfS (cB (cOp2 opLt (cVar 1) (cC (.int 0))))
 (cSet 2 (cOp2 opSub (cC (.int 0)) (cVar 2)))
 cNx)
 (cRet (cTup (cCons (cOp2 opDiv (cVar 0) (cVar 2)) (cCons (cOp2 opDiv (cVar 1) (cVar 2)) cNil)))))))
abbrev f_share : Fn := fShare
def c_is_share : CS :=
 (cSeq (cIfS (tOr' (tNot' (cTru (cOp1 (opIsi "tuple") (cVar 0)))) (tOr' (cB (cOp2 opNe (cOp1 opLen (cVar 0)) (cC (.int 2)))) (tNot' (cTru (cOp1 opAll (cLc [1] (ciSeq (cVar 0)) (tgN 1) ctYes (cCallP f_is_whole (lCons (cVar 1) lNil))))))))
 (cRet (cC (.bool false)))
 cNx)
 (cRet (cAnd (cOp2 opGt (cOp2 opIx (cVar 0) (cC (.int 1))) (cC (.int 0))) (cOp2 opEq (cCallP f_measure (lCons (cOp1 opAbs (cOp2 opIx (cVar 0) (cC (.int 0)))) (lCons (cOp2 opIx (cVar 0) (cC (.int 1))) lNil))) (cC (.int 1))))))
abbrev f_is_share : Fn := fIsShare
def c_plus : CS :=
 (cRet (cCallP f_share (lCons (cOp2 opAdd (cOp2 opMulV (cOp2 opIx (cVar 0) (cC (.int 0))) (cOp2 opIx (cVar 1) (cC (.int 1)))) (cOp2 opMulV (cOp2 opIx (cVar 1) (cC (.int 0))) (cOp2 opIx (cVar 0) (cC (.int 1))))) (lCons (cOp2 opMulV (cOp2 opIx (cVar 0) (cC (.int 1))) (cOp2 opIx (cVar 1) (cC (.int 1)))) lNil))))
abbrev f_plus : Fn := fPlus
def c_total : CS :=
 (cSeq (cSet 1 (cTup (cCons (cC (.int 0)) (cCons (cC (.int 1)) cNil))))
 (cSeq (cFor (ciSeq (cVar 0)) (tgN 2)
 (cSet 1 (cCallP f_plus (lCons (cVar 1) (lCons (cVar 2) lNil)))))
 (cRet (cVar 1))))
abbrev f_total : Fn := fTotal
def c_need_alike : CS :=
 (cIfS (cB (cOp2 opNe (cOp1 opLen (cVar 0)) (cOp1 opLen (cVar 1))))
 (cRaise "Unlike")
 cNx)
abbrev f_need_alike : Fn := fNeedAR
def c_is_table : CS :=
 (cSeq (cIfS (tOr' (tNot' (cTru (cOp1 (opIsi "tuple") (cVar 1)))) (cB (cOp2 opNe (cOp1 opLen (cVar 1)) (cVar 0))))
 (cRet (cC (.bool false)))
 cNx)
 (cSeq (cFor (ciSeq (cVar 1)) (tgN 2)
 (cSeq (cIfS (tOr' (tNot' (cTru (cOp1 (opIsi "tuple") (cVar 2)))) (cB (cOp2 opNe (cOp1 opLen (cVar 2)) (cVar 0))))
 (cRet (cC (.bool false)))
 cNx)
 (cFor (ciSeq (cVar 2)) (tgN 3)
 (cIfS (tOr' (tNot' (cTru (cCallP f_is_share (lCons (cVar 3) lNil)))) (cB (cOp2 opLt (cOp2 opIx (cVar 3) (cC (.int 0))) (cC (.int 0)))))
 (cRet (cC (.bool false)))
 cNx))))
 (cRet (cC (.bool true)))))
abbrev f_is_table : Fn := fIsTable
def c_lets_pairing : CS :=
 (cSeq (cExp (cCallP f_need_alike (lCons (cVar 0) (lCons (cVar 1) lNil))))
 (cSeq (cSet 3 (cOp1 opLen (cVar 0)))
 (cSeq (cIfS (tNot' (cTru (cCallP f_is_table (lCons (cVar 3) (lCons (cVar 2) lNil)))))
 (cRet (cC (.bool false)))
 cNx)
 (cSeq (cFor (ciR1 (cVar 3)) (tgN 4)
 (cSeq (cIfS (tOr' (cB (cOp2 opNe (cCallP f_total (lCons (cOp1 opList (cOp2 opIx (cVar 2) (cVar 4))) lNil)) (cOp2 opIx (cVar 0) (cVar 4)))) (cB (cOp2 opNe (cCallP f_total (lCons (cLc [5] (ciSeq (cVar 2)) (tgN 5) ctYes (cOp2 opIx (cVar 5) (cVar 4))) lNil)) (cOp2 opIx (cVar 1) (cVar 4)))))
 (cRet (cC (.bool false)))
 cNx)
 (cIfS (cB (cOp2 opNe (cLc [6] (ciSeq (cSl (cOp2 opIx (cVar 2) (cVar 4)) (cPt (some (cOp2 opAdd (cVar 4) (cC (.int 1))))) (cPt none))) (tgN 6) (cB (cOp2 opNe (cOp2 opIx (cVar 6) (cC (.int 0))) (cC (.int 0)))) (cVar 6)) (cLst cNil)))
 (cRet (cC (.bool false)))
 cNx)))
 (cRet (cC (.bool true)))))))
abbrev f_lets_pairing : Fn := fLetsPairing
def c__law_pen : CS :=
 (cRet (cLst (cCons (cVar 0) (cCons (cC (.int 0)) (cCons (cC (.int 0)) cNil)))))
abbrev f__law_pen : Fn := fPenS
def c__law_take : CS :=
 (cSeq (cIfS (cB (cOp2 opGt (cOp2 opIx (cVar 0) (cC (.int 2))) (cC (.int 0))))
 (cSeq (cSet 2 (cOp2 opMod (cOp2 opIx (cVar 0) (cC (.int 2))) (cVar 1)))
 (cSeq (cPutL (cVar 0) (cC (.int 2)) (cOp2 opDiv (cOp2 opIx (cVar 0) (cC (.int 2))) (cVar 1)))
 (cRet (cVar 2))))
 cNx)
 (cSeq (cSet 3 (cOp2 opIx (cVar 0) (cC (.int 1))))
 (cSeq (cPutL (cVar 0) (cC (.int 1)) (cOp2 opAdd (cVar 3) (cC (.int 1))))
 (cSeq (cSet 4 (cOp2 opAdd (cOp2 opMulV (cC (.int 13)) (cVar 3)) (cC (.int 7))))
 (cSeq (cIfS (cB (cOp2 opGt (cOp1 opLen (cOp2 opIx (cVar 0) (cC (.int 0)))) (cC (.int 0))))
 (cSet 4 (cOp2 opIx (cOp2 opIx (cVar 0) (cC (.int 0))) (cOp2 opMod (cVar 3) (cOp1 opLen (cOp2 opIx (cVar 0) (cC (.int 0)))))))
 cNx)
 (cSeq (cIfS (tAnd' (cB (cOp2 opLt (cVar 3) (cOp1 opLen (cOp2 opIx (cVar 0) (cC (.int 0)))))) (cB (cOp2 opGe (cOp1 opAbs (cVar 4)) (cOp2 opPow (cC (.int 10)) (cC (.int 18))))))
 (cSeq (cPutL (cVar 0) (cC (.int 2)) (cOp2 opDiv (cOp1 opAbs (cVar 4)) (cVar 1)))
 (cRet (cOp2 opMod (cOp1 opAbs (cVar 4)) (cVar 1))))
 cNx)
 (cSeq (cSet 5 (cOp2 opIx (cTup (cCons (cC (.int 2147483629)) (cCons (cC (.int 2147483587)) (cCons (cC (.int 2147483647)) (cCons (cC (.int 2147483563)) (cCons (cC (.int 2147483579)) (cCons (cC (.int 2147483543)) (cCons (cC (.int 2147483549)) cNil)))))))) (cOp2 opMod (cVar 3) (cC (.int 7)))))
 (cSeq (cSet 6 (cOp2 opMod (cOp2 opPow (cOp2 opAdd (cOp2 opMulV (cOp2 opMod (cVar 4) (cVar 5)) (cOp2 opAdd (cOp2 opMulV (cC (.int 2)) (cVar 3)) (cC (.int 5)))) (cVar 3)) (cC (.int 5))) (cVar 5)))
 (cSeq (cSet 6 (cOp2 opMod (cOp2 opAdd (cOp2 opMulV (cVar 6) (cOp2 opAdd (cOp2 opAdd (cOp2 opMod (cVar 6) (cC (.int 65519))) (cVar 3)) (cC (.int 1)))) (cOp2 opMod (cVar 4) (cC (.int 65521)))) (cC (.int 2147483489))))
 (cRet (cOp2 opMod (cOp2 opDiv (cVar 6) (cC (.int 32))) (cVar 1))))))))))))
abbrev f__law_take : Fn := fDrawS
def c__law_share : CS :=
 (cSeq (cSet 2 (cOp1 opAbs (cVar 0)))
 (cSeq (cSet 3 (cVar 1))
 (cSeq (cWh (fun _ => 1000000) (cB (cOp2 opGt (cVar 3) (cC (.int 0))))
 (cPar 2 3 (cVar 3) (cOp2 opMod (cVar 2) (cVar 3))))
 (cRet (cTup (cCons (cOp2 opDiv (cVar 0) (cVar 2)) (cCons (cOp2 opDiv (cVar 1) (cVar 2)) cNil)))))))
abbrev f__law_share : Fn := fShareS
def c__law_sum : CS :=
 (cSeq (cSet 1 (cC (.int 0)))
 (cSeq (cSet 2 (cC (.int 1)))
 (cSeq (cFor (ciSeq (cVar 0)) (tgN 3)
 (cAsg (tgTup 2 (tgCons (tgN 1) (tgCons (tgN 2) tgNil))) (cCallP f__law_share (lCons (cOp2 opAdd (cOp2 opMulV (cVar 1) (cOp2 opIx (cVar 3) (cC (.int 1)))) (cOp2 opMulV (cOp2 opIx (cVar 3) (cC (.int 0))) (cVar 2))) (lCons (cOp2 opMulV (cVar 2) (cOp2 opIx (cVar 3) (cC (.int 1)))) lNil)))))
 (cRet (cTup (cCons (cVar 1) (cCons (cVar 2) cNil)))))))
abbrev f__law_sum : Fn := fSumS
def c__law_table : CS :=
 (cSeq (cSet 2 (cOp2 opIx (cTup (cCons (cC (.int 10)) (cCons (cC (.int 2)) (cCons (cC (.int 4)) (cCons (cOp2 opIx (cTup (cCons (cC (.int 30)) (cCons (cC (.int 12)) cNil))) (cOp1 opInt (cOp2 opGt (cVar 1) (cC (.int 6))))) cNil))))) (cCall f__law_take (lCons (cVar 0) (lCons (cC (.int 4)) lNil)))))
 (cSeq (cSet 3 (cCall f__law_take (lCons (cVar 0) (lCons (cVar 1) lNil))))
 (cSeq (cSet 4 (cLcN [5] (ciR1 (cVar 1)) (tgN 5) (cLc [6] (ciR1 (cVar 1)) (tgN 6) ctYes (cOp2 opMulV (cCall f__law_take (lCons (cVar 0) (lCons (cVar 2) lNil))) (cOp1 opInt (cOp2 opLe (cVar 6) (cVar 5)))))))
 (cSeq (cIfS (cB (cOp2 opEq (cOp1 opSum (cLcE [7] (ciT (cVar 4)) 7 (cOp1 opSum (cVar 7)))) (cC (.int 0))))
 (cPutL (cIxT (cVar 4) (cVar 3)) (cC (.int 0)) (cC (.int 1)))
 cNx)
 (cRet (cFzE 4))))))
def f__law_table : Fn := runF 8 c__law_table
def c__law_shares : CS :=
 (cRet (cOp1 opTuple (cLc [2] (ciSeq (cVar 0)) (tgN 2) ctYes (cOp1 opTuple (cLc [3] (ciSeq (cVar 2)) (tgN 3) ctYes (cCallP f__law_share (lCons (cVar 3) (lCons (cVar 1) lNil))))))))
def f__law_shares : Fn := runF 4 c__law_shares
def c__law_is_share : CS :=
 (cSeq (cIfS (tOr' (tNot' (cTru (cOp1 (opIsi "tuple") (cVar 0)))) (cB (cOp2 opNe (cOp1 opLen (cVar 0)) (cC (.int 2)))))
 (cRet (cC (.bool false)))
 cNx)
 (cSeq (cFor (ciSeq (cVar 0)) (tgN 1)
 (cIfS (tOr' (tNot' (cTru (cOp1 (opIsi "int") (cVar 1)))) (tOr' (cTru (cOp1 (opIsi "bool") (cVar 1))) (cB (cOp2 opLt (cVar 1) (cC (.int 0))))))
 (cRet (cC (.bool false)))
 cNx))
 (cRet (cAnd (cOp2 opGt (cOp2 opIx (cVar 0) (cC (.int 1))) (cC (.int 0))) (cOp2 opEq (cCallP f__law_share (lCons (cOp2 opIx (cVar 0) (cC (.int 0))) (lCons (cOp2 opIx (cVar 0) (cC (.int 1))) lNil))) (cVar 0))))))
abbrev f__law_is_share : Fn := fIsShareS
def c__law_is_pairing : CS :=
 (cSeq (cIfS (tOr' (tNot' (cTru (cOp1 (opIsi "tuple") (cVar 2)))) (cB (cOp2 opNe (cOp1 opLen (cVar 2)) (cOp1 opLen (cVar 0)))))
 (cRet (cC (.bool false)))
 cNx)
 (cSeq (cFor (ciSeq (cVar 2)) (tgN 3)
 (cSeq (cIfS (tOr' (tNot' (cTru (cOp1 (opIsi "tuple") (cVar 3)))) (cB (cOp2 opNe (cOp1 opLen (cVar 3)) (cOp1 opLen (cVar 0)))))
 (cRet (cC (.bool false)))
 cNx)
 (cIfS (cB (cOp2 opNeE (cLc [5] (ciSeq (cVar 3)) (tgN 5) (tNot' (cTru (cCallP f__law_is_share (lCons (cVar 5) lNil)))) (cVar 5)) (cLst cNil)))
 (cRet (cC (.bool false)))
 cNx)))
 (cSeq (cFor (ciR1 (cOp1 opLen (cVar 0))) (tgN 4)
 (cSeq (cIfS (tOr' (cB (cOp2 opNe (cCallP f__law_sum (lCons (cOp2 opIx (cVar 2) (cVar 4)) lNil)) (cOp2 opIx (cVar 0) (cVar 4)))) (cB (cOp2 opNe (cCallP f__law_sum (lCons (cLc [3] (ciSeq (cVar 2)) (tgN 3) ctYes (cOp2 opIx (cVar 3) (cVar 4))) lNil)) (cOp2 opIx (cVar 1) (cVar 4)))))
 (cRet (cC (.bool false)))
 cNx)
 (cIfS (cB (cOp2 opNeE (cLc [5] (ciSeq (cSl (cOp2 opIx (cVar 2) (cVar 4)) (cPt (some (cOp2 opAdd (cVar 4) (cC (.int 1))))) (cPt none))) (tgN 5) (cB (cOp2 opNe (cVar 5) (cTup (cCons (cC (.int 0)) (cCons (cC (.int 1)) cNil))))) (cVar 5)) (cLst cNil)))
 (cRet (cC (.bool false)))
 cNx)))
 (cRet (cC (.bool true))))))
def f__law_is_pairing : Fn := runF 6 c__law_is_pairing
def c__law_shifted : CS :=
 (cSeq (cSet 3 (cOp1 opLen (cVar 1)))
 (cSeq (cSet 4 (cLcN [14] (ciSeq (cVar 1)) (tgN 14) (cOp1 opList (cVar 14))))
 (cSeq (cSet 5 (cCall f__law_take (lCons (cVar 0) (lCons (cVar 3) lNil))))
 (cSeq (cSet 6 (cCall f__law_take (lCons (cVar 0) (lCons (cVar 3) lNil))))
 (cSeq (cSet 7 (cCall f__law_take (lCons (cVar 0) (lCons (cVar 3) lNil))))
 (cSeq (cSet 8 (cCall f__law_take (lCons (cVar 0) (lCons (cVar 3) lNil))))
 (cSeq (cSet 9 (cOp2 opAdd (cC (.int 1)) (cCall f__law_take (lCons (cVar 0) (lCons (cC (.int 3)) lNil)))))
 (cSeq (cSet 10 (cOp2 opIx (cLst (cCons (cLst (cCons (cTup (cCons (cVar 5) (cCons (cVar 6) (cCons (cVar 9) cNil)))) (cCons (cTup (cCons (cVar 7) (cCons (cVar 6) (cCons (cOp1 opNeg (cVar 9)) cNil)))) cNil))) (cCons (cLst (cCons (cTup (cCons (cVar 5) (cCons (cVar 6) (cCons (cVar 9) cNil)))) (cCons (cTup (cCons (cVar 5) (cCons (cVar 8) (cCons (cOp1 opNeg (cVar 9)) cNil)))) cNil))) (cCons (cLst (cCons (cTup (cCons (cVar 5) (cCons (cVar 6) (cCons (cVar 9) cNil)))) cNil)) cNil)))) (cOp2 opMod (cVar 2) (cC (.int 3)))))
 (cSeq (cIfS (cB (cOp2 opGt (cVar 2) (cC (.int 2))))
 (cSet 10 (cLst (cCons (cTup (cCons (cVar 5) (cCons (cVar 6) (cCons (cVar 9) cNil)))) (cCons (cTup (cCons (cVar 7) (cCons (cVar 8) (cCons (cVar 9) cNil)))) (cCons (cTup (cCons (cVar 5) (cCons (cVar 8) (cCons (cOp1 opNeg (cVar 9)) cNil)))) (cCons (cTup (cCons (cVar 7) (cCons (cVar 6) (cCons (cOp1 opNeg (cVar 9)) cNil)))) cNil))))))
 cNx)
 (cSeq (cFor (ciSeq (cVar 10)) (tgTup 3 (tgCons (tgN 11) (tgCons (tgN 12) (tgCons (tgN 13) tgNil))))
 (cPutL (cIxT (cVar 4) (cVar 11)) (cVar 12) (cOp2 opAdd (cOp2 opIx (cIxT (cVar 4) (cVar 11)) (cVar 12)) (cVar 13))))
 (cRet (cFzE 4))))))))))))
def f__law_shifted : Fn := runF 15 c__law_shifted
def c__law_put : CS :=
 (cRet (cOp2 opAdd (cOp2 opAdd (cSl (cVar 0) (cPt none) (cPt (some (cVar 1)))) (cTup (cCons (cVar 2) cNil))) (cSl (cVar 0) (cPt (some (cOp2 opAdd (cVar 1) (cC (.int 1))))) (cPt none))))
def f__law_put : Fn := runF 3 c__law_put
def c__law_odd_share : CS :=
 (cSeq (cAsg (tgTup 2 (tgCons (tgN 2) (tgCons (tgN 3) tgNil))) (cVar 1))
 (cSeq (cSet 4 (cLst (cCons (cTup (cCons (cOp2 opMulV (cC (.int 2)) (cVar 2)) (cCons (cOp2 opMulV (cC (.int 2)) (cVar 3)) cNil))) (cCons (cTup (cCons (cOp2 opSub (cC (.int 0)) (cVar 2)) (cCons (cOp2 opSub (cC (.int 0)) (cVar 3)) cNil))) (cCons (cTup (cCons (cOp2 opSub (cVar 2) (cVar 3)) (cCons (cVar 3) cNil))) (cCons (cLst (cCons (cVar 2) (cCons (cVar 3) cNil))) (cCons (cTup (cCons (cVar 2) cNil)) cNil)))))))
 (cSeq (cSet 4 (cOp2 opAdd (cVar 4) (cLst (cCons (cTup (cCons (cVar 2) (cCons (cVar 3) (cCons (cC (.int 1)) cNil)))) (cCons (cVar 2) (cCons (cC .none) (cCons (cTup (cCons (cOp2 opEq (cVar 2) (cC (.int 1))) (cCons (cVar 3) cNil))) (cCons (cTup (cCons (cVar 2) (cCons (cOp2 opEq (cVar 3) (cC (.int 1))) cNil))) (cCons (cTup (cCons (cC (.int 0)) (cCons (cC (.int 2)) cNil))) (cCons (cOp1 opStr (cVar 2)) (cCons (cTup (cCons (cVar 2) (cCons (cC (.int 0)) cNil))) cNil)))))))))))
 (cSeq (cSet 4 (cOp2 opAdd (cVar 4) (cLst (cCons (cTup cNil) (cCons cNewK (cCons (cTup (cCons (cVar 2) (cCons (cC .none) cNil))) cNil))))))
 (cRet (cOp2 opIx (cVar 4) (cCall f__law_take (lCons (cVar 0) (lCons (cC (.int 16)) lNil)))))))))
def f__law_odd_share : Fn := runF 5 c__law_odd_share
def c__law_odd : CS :=
 (cSeq (cSet 2 (cCall f__law_take (lCons (cVar 0) (lCons (cC (.int 5)) lNil))))
 (cSeq (cSet 3 (cCall f__law_take (lCons (cVar 0) (lCons (cOp1 opLen (cVar 1)) lNil))))
 (cSeq (cSet 4 (cCall f__law_take (lCons (cVar 0) (lCons (cOp1 opLen (cVar 1)) lNil))))
 (cSeq (cSet 5 (cOp2 opIx (cVar 1) (cVar 3)))
 (cSeq (cIfS (cB (cOp2 opLt (cVar 2) (cC (.int 2))))
 (cRet (cCallP f__law_put (lCons (cVar 1) (lCons (cVar 3) (lCons (cCallP f__law_put (lCons (cVar 5) (lCons (cVar 4) (lCons (cCall f__law_odd_share (lCons (cVar 0) (lCons (cOp2 opIx (cVar 5) (cVar 4)) lNil))) lNil)))) lNil)))))
 cNx)
 (cSeq (cIfS (cB (cOp2 opEq (cVar 2) (cC (.int 2))))
 (cSeq (cSet 6 (cLst (cCons (cOp1 opList (cVar 5)) (cCons (cSl (cVar 5) (cPt none) (cPt (some (cOp1 opNeg (cC (.int 1)))))) (cCons (cOp2 opAdd (cVar 5) (cTup (cCons (cTup (cCons (cC (.int 0)) (cCons (cC (.int 1)) cNil))) cNil))) (cCons (cOp1 opRevA (cVar 5)) (cCons (cC .none) (cCons (cOp2 opIx (cVar 1) (cVar 4)) (cCons (cTup cNil) (cCons (cOp2 opIx (cVar 5) (cVar 4)) cNil))))))))))
 (cRet (cCallP f__law_put (lCons (cVar 1) (lCons (cVar 3) (lCons (cOp2 opIx (cVar 6) (cCall f__law_take (lCons (cVar 0) (lCons (cC (.int 8)) lNil)))) lNil))))))
 cNx)
 (cSeq (cSet 7 (cOp1 opTuple (cLc [9] (ciR1 (cOp1 opLen (cVar 1))) (tgN 9) ctYes (cOp1 opTuple (cLc [10] (ciSeq (cVar 1)) (tgN 10) ctYes (cOp2 opIx (cVar 10) (cVar 9)))))))
 (cSeq (cSet 8 (cLst (cCons (cOp1 opList (cVar 1)) (cCons (cOp2 opAdd (cSl (cVar 1) (cPt none) (cPt (some (cVar 3)))) (cSl (cVar 1) (cPt (some (cOp2 opAdd (cVar 3) (cC (.int 1))))) (cPt none))) (cCons (cOp2 opAdd (cVar 1) (cTup (cCons (cVar 5) cNil))) (cCons (cOp1 opRevA (cVar 1)) (cCons (cVar 7) (cCons (cLst cNil) (cCons (cTup cNil) (cCons (cC .none) (cCons (cC (.str "pairing")) (cCons (cC (.int 7)) cNil))))))))))))
 (cRet (cOp2 opIx (cOp2 opAdd (cVar 8) (cLst (cCons (cDisp [(.inl 0)] (cCons (cVar 1) cNil)) (cCons (cTup (cCons (cVar 1) cNil)) (cCons (cOp2 opAdd (cSl (cVar 1) (cPt (some (cVar 3))) (cPt none)) (cSl (cVar 1) (cPt none) (cPt (some (cVar 3))))) (cCons (cC (.bool true)) cNil)))))) (cCall f__law_take (lCons (cVar 0) (lCons (cC (.int 14)) lNil)))))))))))))
def f__law_odd : Fn := runF 11 c__law_odd
def c__law_told : CS :=
 (cSeq (cSet 3 (cC .none))
 (cSeq (cSet 4 (cC .none))
 (cSeq (cTry ["NoShare", "Unlike"] 5 4
 (cSet 3 (cCallP f_lets_pairing (lCons (cVar 0) (lCons (cVar 1) (lCons (cVar 2) lNil))))))
 (cSeq (cIfS (cB (cIsN 4))
 (cRet (cVar 3))
 cNx)
 (cRet (cOp2 opIx (cLst (cCons (cC (.str "other")) (cCons (cC (.str "unlike")) cNil))) (cOp1 opInt (cIsX 4 "Unlike"))))))))
def f__law_told : Fn := runF 6 c__law_told
def c_law : CS :=
 (cSeq (cSetM 1 (cCallP f__law_pen (lCons (cVar 0) lNil)))
 (cSeq (cFor (ciR1 (cC (.int 2))) (tgN 2)
 (cSeq (cSet 3 (cOp2 opAdd (cC (.int 1)) (cCall f__law_take (lCons (cVar 1) (lCons (cOp2 opIx (cTup (cCons (cC (.int 6)) (cCons (cC (.int 12)) cNil))) (cCall f__law_take (lCons (cVar 1) (lCons (cC (.int 2)) lNil)))) lNil)))))
 (cSeq (cSet 4 (cCall f__law_table (lCons (cVar 1) (lCons (cVar 3) lNil))))
 (cSeq (cSet 5 (cOp1 opSum (cLc [16] (ciSeq (cVar 4)) (tgN 16) ctYes (cOp1 opSum (cVar 16)))))
 (cSeq (cSet 6 (cOp1 opTuple (cLc [16] (ciSeq (cVar 4)) (tgN 16) ctYes (cCallP f__law_share (lCons (cOp1 opSum (cVar 16)) (lCons (cVar 5) lNil))))))
 (cSeq (cSet 7 (cOp1 opTuple (cLc [10] (ciR1 (cVar 3)) (tgN 10) ctYes (cCallP f__law_share (lCons (cOp1 opSum (cLc [16] (ciSeq (cVar 4)) (tgN 16) ctYes (cOp2 opIx (cVar 16) (cVar 10)))) (lCons (cVar 5) lNil))))))
 (cSeq (cSet 8 (cCallP f__law_shares (lCons (cVar 4) (lCons (cVar 5) lNil))))
 (cSeq (cSetM 9 (cLst (cCons (cVar 8) cNil)))
 (cSeq (cFor (ciR1 (cC (.int 8))) (tgN 10)
 (cSeq (cSet 11 (cCall f__law_take (lCons (cVar 1) (lCons (cC (.int 9)) lNil))))
 (cIfS (cB (cOp2 opLt (cVar 11) (cC (.int 6))))
 (cExp (cMut fApp (cVar 9) (cCons (cCallP f__law_shares (lCons (cCall f__law_shifted (lCons (cVar 1) (lCons (cVar 4) (lCons (cVar 11) lNil)))) (lCons (cVar 5) lNil))) cNil)))
 (cExp (cMut fApp (cVar 9) (cCons (cCall f__law_odd (lCons (cVar 1) (lCons (cVar 8) lNil))) cNil))))))
 (cSeq (cFor (ciSeq (cOp2 opAdd (cVar 9) (cLst (cCons (cVar 8) cNil)))) (tgN 12)
 (cSeq (cSet 13 (cOp1 opReprX (cVar 12)))
 (cSeq (cSet 14 (cCallP f__law_told (lCons (cVar 6) (lCons (cVar 7) (lCons (cVar 12) lNil)))))
 (cIfS (tOr' (tNot' (cTru (cOp1 (opIsi "bool") (cVar 14)))) (tOr' (cB (cOp2 opNe (cVar 14) (cCallP f__law_is_pairing (lCons (cVar 6) (lCons (cVar 7) (lCons (cVar 12) lNil)))))) (cB (cOp2 opNe (cOp1 opReprX (cVar 12)) (cVar 13)))))
 (cRet (cC (.bool false)))
 cNx))))
 (cSeq (cSet 15 (cOp2 opAdd (cTup (cCons (cTup (cCons (cC (.int 1)) (cCons (cC (.int 1)) cNil))) cNil)) (cOp2 opMulV (cTup (cCons (cTup (cCons (cC (.int 0)) (cCons (cC (.int 1)) cNil))) cNil)) (cOp2 opMod (cVar 3) (cC (.int 12))))))
 (cFor (ciSeq (cLst (cCons (cVar 8) (cCons (cC .none) (cCons (cOp2 opIx (cVar 9) (cC (.int 1))) cNil))))) (tgN 12)
 (cIfS (tOr' (cB (cOp2 opNe (cCallP f__law_told (lCons (cVar 15) (lCons (cVar 7) (lCons (cVar 12) lNil)))) (cC (.str "unlike")))) (cB (cOp2 opNe (cCallP f__law_told (lCons (cVar 6) (lCons (cVar 15) (lCons (cVar 12) lNil)))) (cC (.str "unlike")))))
 (cRet (cC (.bool false)))
 cNx)))))))))))))
 (cRet (cOp2 (opIs false) (cCallP f__law_told (lCons (cVar 6) (lCons (cVar 7) (lCons (cVar 8) lNil)))) (cC (.bool true))))))
def f_law : Fn := runF 17 c_law
end Vm
namespace Vm
open PySem L2 PySem.Spec PyProof.Rows
/-! ### any thing, whatever stands in it -/
structure BdE (K : Nat) (d : D) : Prop where
  bd : ∀ rows, d = .tuple rows → ∀ ps, .tuple ps ∈ rows → ∀ p q, .tuple [.int p, .int q] ∈ ps → Bs K p ∧ Bs K q
theorem isTable_e {K n : Nat} {d : D} (hb : BdE K d) (hK : K ≤ 200) : fIsTable [.d (.int (n : Nat)), .d d] [] = .ok (.d (.bool (tabB n d))) [] := by
  apply Ok.eq
  let X0 : Sl := .d (.int (n : Nat))
  let X1 : Sl := .d d
  show Ok (fIsTable [X0, X1] []) _
  unfold fIsTable
  apply run_ok
  unfold cIsTable
  by_cases ht : ∃ rows, d = .tuple rows
  · obtain ⟨rows, rfl⟩ := ht
    by_cases hl : rows.length = n
    · have hl' : (rows.length : Int) = (n : Int) := by omega
      refine st (s1 := ⟨[X0, X1, .u, .u], []⟩) (by simp [X0, X1, isT, hl']; exact .rfl) ?_
      have td : tabB n (.tuple rows) = rows.all (rowB n) := by rw [tabB_t, decide_eq_true hl, Bool.true_and]
      rw [td]
      refine w_cut (fun s => (∃ x2 x3, s = ⟨[X0, X1, x2, x3], []⟩) ∧ rows.all (rowB n) = true) ?_ fun s hs => ?_
      · refine w_for (ds := rows) (s1 := ⟨[X0, X1, .u, .u], []⟩) (fun i s => (∃ x2 x3, s = ⟨[X0, X1, x2, x3], []⟩) ∧ ∀ r, r ∈ rows.take i → rowB n r = true) (by simp [X1]; exact .rfl) ⟨⟨_, _, rfl⟩, fun r hr => by simp at hr⟩ (fun i r s hr hi => ?_) fun s hi => ⟨hi.1, List.all_eq_true.mpr fun r hr => hi.2 r (by rw [List.take_length]; exact hr)⟩
        obtain ⟨⟨x2, x3, rfl⟩, hall⟩ := hi
        have mem := List.mem_of_getElem? hr
        have no : rowB n r = false → rows.all (rowB n) = false := fun z => by
          cases e : rows.all (rowB n) with
          | false => rfl
          | true => rw [List.all_eq_true.mp e r mem] at z; cases z
        have yes : rowB n r = true → ∀ x, x ∈ rows.take (i + 1) → rowB n x = true := fun z x hx => by
          rw [List.take_add_one, hr] at hx
          rcases List.mem_append.mp hx with hx | hx
          · exact hall x hx
          · simp at hx
            subst hx
            exact z
        refine ⟨⟨[X0, X1, .d r, x3], []⟩, rfl, ?_⟩
        by_cases hrt : ∃ ps, r = .tuple ps
        · obtain ⟨ps, rfl⟩ := hrt
          by_cases hpl : ps.length = n
          · have hpl' : (ps.length : Int) = (n : Int) := by omega
            refine st (s1 := ⟨[X0, X1, .d (.tuple ps), x3], []⟩) (by simp [X0, isT, hpl']; exact .rfl) ?_
            have rd : rowB n (.tuple ps) = ps.all partB := by rw [rowB_t, decide_eq_true hpl, Bool.true_and]
            refine w_for (ds := ps) (s1 := ⟨[X0, X1, .d (.tuple ps), x3], []⟩) (fun j s => (∃ x3, s = ⟨[X0, X1, .d (.tuple ps), x3], []⟩) ∧ ∀ p, p ∈ ps.take j → partB p = true) (by simp; exact .rfl) ⟨⟨_, rfl⟩, fun p hp => by simp at hp⟩ (fun j p s hp hj => ?_) fun s hj => ⟨by
              obtain ⟨⟨x3, rfl⟩, _⟩ := hj
              exact ⟨_, _, rfl⟩, yes (by rw [rd]; exact List.all_eq_true.mpr fun p hp => hj.2 p (by rw [List.take_length]; exact hp))⟩
            obtain ⟨⟨x3, rfl⟩, hpall⟩ := hj
            have memp := List.mem_of_getElem? hp
            have nop : partB p = false → rows.all (rowB n) = false := fun z => no (by
              rw [rd]
              cases e : ps.all partB with
              | false => rfl
              | true => rw [List.all_eq_true.mp e p memp] at z; cases z)
            have sh := isShare_any (d := p) fun a b e => by
              subst e
              have := (hb.bd rows rfl ps mem a b memp).2
              exact Nat.lt_of_lt_of_le this (Nat.pow_le_pow_right (by decide) hK)
            refine ⟨⟨[X0, X1, .d (.tuple ps), .d p], []⟩, rfl, ?_⟩
            cases e : shareB p with
            | false =>
              rw [e] at sh
              refine w_ifT (s1 := ⟨[X0, X1, .d (.tuple ps), .d p], []⟩) (by simp [sh]; exact .rfl) ?_
              exact w_ret (x := .d (.bool false)) (s1 := ⟨[X0, X1, .d (.tuple ps), .d p], []⟩) (by simp; exact .rfl) (ok_0 ⟨by rw [nop (partB_no e)], rfl⟩)
            | true =>
              rw [e] at sh
              obtain ⟨a, b, rfl, h1, h2⟩ := shareB_ex e
              have ix : opIx (.d (.tuple [PyData.int a, .int b])) (.d (.int 0)) = some (.d (.int a)) := rfl
              by_cases ha : a < 0
              · refine w_ifT (s1 := ⟨[X0, X1, .d (.tuple ps), .d (shD a b)], []⟩) (by simp [sh, ix, ha]; exact .rfl) ?_
                exact w_ret (x := .d (.bool false)) (s1 := ⟨[X0, X1, .d (.tuple ps), .d (shD a b)], []⟩) (by simp; exact .rfl) (ok_0 ⟨by rw [nop (decide_eq_false fun z => by omega)], rfl⟩)
              · refine w_ifF (s1 := ⟨[X0, X1, .d (.tuple ps), .d (shD a b)], []⟩) (by simp [sh, ix, ha]; exact .rfl) (w_nx ⟨⟨_, rfl⟩, fun x hx => ?_⟩)
                rw [List.take_add_one, hp] at hx
                rcases List.mem_append.mp hx with hx | hx
                · exact hpall x hx
                · simp at hx
                  subst hx
                  exact decide_eq_true ⟨h1, h2, by omega⟩
          · have hpl' : ¬ (ps.length : Int) = (n : Int) := by omega
            refine w_sif (s1 := ⟨[X0, X1, .d (.tuple ps), x3], []⟩) (x := true) (by simp [X0, isT, hpl']; exact .rfl) (fun _ => ?_) fun z => nomatch z
            exact w_retS (x := .d (.bool false)) (s1 := ⟨[X0, X1, .d (.tuple ps), x3], []⟩) (by simp; exact .rfl) (ok_0 ⟨by rw [no (by rw [rowB_t, decide_eq_false hpl, Bool.false_and])], rfl⟩)
        · have nt := notT (d := r) fun ps e => hrt ⟨ps, e⟩
          refine w_sif (s1 := ⟨[X0, X1, .d r, x3], []⟩) (x := true) (by simp [X0, nt]; exact .rfl) (fun _ => ?_) fun z => nomatch z
          exact w_retS (x := .d (.bool false)) (s1 := ⟨[X0, X1, .d r, x3], []⟩) (by simp; exact .rfl) (ok_0 ⟨by rw [no (by
            unfold rowB
            split
            · exact absurd ⟨_, rfl⟩ hrt
            · rfl)], rfl⟩)
      · obtain ⟨⟨x2, x3, rfl⟩, ha⟩ := hs
        exact w_ret (x := .d (.bool true)) (s1 := ⟨[X0, X1, x2, x3], []⟩) (by simp; exact .rfl) (ok_0 ⟨by rw [ha], rfl⟩)
    · have hl' : ¬ (rows.length : Int) = (n : Int) := by omega
      refine w_sif (s1 := ⟨[X0, X1, .u, .u], []⟩) (x := true) (by simp [X0, X1, isT, hl']; exact .rfl) (fun _ => ?_) fun z => nomatch z
      exact w_retS (x := .d (.bool false)) (s1 := ⟨[X0, X1, .u, .u], []⟩) (by simp; exact .rfl) (ok_0 ⟨by rw [tabB_t, decide_eq_false hl, Bool.false_and], rfl⟩)
  · have nt := notT (d := d) fun ps e => ht ⟨ps, e⟩
    refine w_sif (s1 := ⟨[X0, X1, .u, .u], []⟩) (x := true) (by simp [X0, X1, nt]; exact .rfl) (fun _ => ?_) fun z => nomatch z
    exact w_retS (x := .d (.bool false)) (s1 := ⟨[X0, X1, .u, .u], []⟩) (by simp; exact .rfl) (ok_0 ⟨by
      unfold tabB
      split
      · exact absurd ⟨_, rfl⟩ ht
      · rfl, rfl⟩)
theorem tab_e {K n : Nat} {d : D} (h : tabB n d = true) (hb : BdE K d) : ∃ τ, TabIs K n d τ := by
  obtain ⟨τ, h1, h2, h3⟩ := tab_ex h
  refine ⟨τ, h2, h1, fun a b ha hb' => partB_tell (h3 a b ha hb') fun p q e => ?_, h3⟩
  exact hb.bd _ h2 (rwT n τ a) (List.mem_map_of_mem (List.mem_range.mpr ha)) p q (by
    have : τ a b ∈ rwT n τ a := List.mem_map_of_mem (List.mem_range.mpr hb')
    rw [e] at this
    exact this)
theorem lets_e {K j n : Nat} {ds es : List D} {xs ys : List Rat} {d : D} (A : Rt j n ds xs) (B : Rt j n es ys) (hb : BdE K d) (hK : K ≤ 200) (n2 : n ≤ 12) : fLetsPairing [.d (.tuple ds), .d (.tuple es), .d d] [] = .ok (.d (.bool (prB n xs ys d))) [] := by
  have l1 : opLen (.d (.tuple ds)) = some (.d (.int (n : Nat))) := by rw [opLen_t, A.len]
  have l2 : opLen (.d (.tuple es)) = some (.d (.int (n : Nat))) := by rw [opLen_t, B.len]
  have na : fNeedAR [.d (.tuple ds), .d (.tuple es)] [] = .ok (.d .none) [] := by
    unfold fNeedAR
    rw [runF_s]
    simp [cNeedAR, l1, l2, -opLen_t]
  have it := isTable_e (n := n) hb hK
  apply Ok.eq
  let X0 : Sl := .d (.tuple ds)
  let X1 : Sl := .d (.tuple es)
  let X2 : Sl := .d d
  show Ok (fLetsPairing [X0, X1, X2] []) _
  unfold fLetsPairing
  apply run_ok
  unfold cLetsPairing
  let dn : Sl := .d (.int (n : Nat))
  let ST := fun (x3 x4 : Sl) => (⟨[X0, X1, X2, x3, x4, .u, .u], []⟩ : S)
  refine st (s1 := ST .u .u) (by simp [X0, X1, na]; exact .rfl) ?_
  refine st (s1 := ST dn .u) (by simp [ST, X0, l1, -opLen_t]; exact .rfl) ?_
  cases ht : tabB n d with
  | false =>
    rw [ht] at it
    refine w_sif (s1 := ST dn .u) (x := true) (by simp [ST, dn, X2, it]; exact .rfl) (fun _ => ?_) fun z => nomatch z
    exact w_retS (x := .d (.bool false)) (s1 := ST dn .u) (by simp; exact .rfl) (ok_0 ⟨by unfold prB; rw [ht, Bool.false_and], rfl⟩)
  | true =>
    rw [ht] at it
    refine st (s1 := ST dn .u) (by simp [ST, dn, X2, it]; exact .rfl) ?_
    obtain ⟨τ, T⟩ := tab_e ht hb
    have hp : prB n xs ys d = (List.range n).all (fitT n xs ys τ) := by
      unfold prB
      rw [ht, Bool.true_and, fitB_t T.c]
    rw [hp]
    have r1 := ciR1_n (c := cVar 3) (s := ST dn .u) (s1 := ST dn .u) (n := n) (by simp [ST, dn]) (by omega)
    refine w_cut (fun s => (∃ x4, s = ST dn x4) ∧ (List.range n).all (fitT n xs ys τ) = true) ?_ fun s hs => ?_
    · refine w_for (fun i s => (∃ x4, s = ST dn x4) ∧ ∀ j, j < i → fitT n xs ys τ j = true) r1 ⟨⟨_, rfl⟩, fun j hj => absurd hj (Nat.not_lt_zero _)⟩ (fun i y s hd hi => ?_) fun s hi => ⟨hi.1, List.all_eq_true.mpr fun j hj => hi.2 j (by rw [List.length_map, List.length_range]; exact List.mem_range.mp hj)⟩
      obtain ⟨⟨x4, rfl⟩, hall⟩ := hi
      obtain ⟨hin, rfl⟩ := rangeN_get hd
      let di : Sl := .d (.int (i : Nat))
      refine ⟨ST dn di, rfl, ?_⟩
      have no : fitT n xs ys τ i = false → (List.range n).all (fitT n xs ys τ) = false := all_no (List.mem_range.mpr hin)
      have row := T.row hin
      obtain ⟨a, ea, ta⟩ := tot_c (n := n) (K := K) (f := τ i) (by omega) n2 fun b hb => T.t i b hin hb
      obtain ⟨c, ec, tc⟩ := tot_c (n := n) (K := K) (f := fun a => τ a i) (by omega) n2 fun b hb => T.t b i hb hin
      obtain ⟨da, ia, _, tda⟩ := A.at hin
      obtain ⟨db, ib, _, tdb⟩ := B.at hin
      have ea : fTotal [.d (.list (rwT n τ i))] [] = .ok (.d a) [] := ea
      have n1 := tell_ne ta tda
      have n2' := tell_ne tc tdb
      have lc := lc_for (own := [5]) (ci := ciSeq (cVar 2)) (tg := tgN 5) (el := cOp2 opIx (cVar 5) (cVar 4)) (s := ST dn di) (s1 := ST dn di) (xs := List.range n) (F := fun a => PyData.tuple (rwT n τ a)) (fun a => τ a i) (by simp [ST, X2, T.e]) (by simp; omega) fun a ha => by
        have := rwt_ix (n := n) (τ := τ) (a := a) hin
        generalize PyData.tuple (rwT n τ a) = L at *
        exact ⟨⟨[X0, X1, X2, dn, di, .d L, .u], []⟩, rfl, [X0, X1, X2, dn, di, .d L, .u], by simp [ST, di, this]⟩
      have ct := cutD_from (xs := rwT n τ i) (k := (i : Int) + 1) (by omega)
      rw [show ((i : Int) + 1).toNat = i + 1 by omega] at ct
      have edr : (rwT n τ i).drop (i + 1) = ((List.range n).drop (i + 1)).map (τ i) := List.map_drop.symm
      have lf := lc_some (own := [6]) (ci := ciSeq (cSl (cOp2 opIx (cVar 2) (cVar 4)) (cPt (some (cOp2 opAdd (cVar 4) (cC (.int 1))))) (cPt none))) (tg := tgN 6) (tt := (cB (cOp2 opNe (cOp2 opIx (cVar 6) (cC (.int 0))) (cC (.int 0))))) (el := cVar 6) (s := ST dn di) (s1 := ST dn di) (xs := (List.range n).drop (i + 1)) (F := τ i) (fun b => !decide (ratD (τ i b) = 0)) (τ i) (by
          rw [← edr]
          generalize rwT n τ i = L at *
          simp [ST, X2, di, row, ct]) (by simp; omega) fun b hb => by
        have hbn : b < n := List.mem_range.mp (List.mem_of_mem_drop hb)
        obtain ⟨p, q, e, hz⟩ := num_zero (T.sh i b hin hbn)
        have ix : opIx (.d (.tuple [PyData.int p, .int q])) (.d (.int 0)) = some (.d (.int p)) := rfl
        refine ⟨⟨[X0, X1, X2, dn, di, .u, .d (τ i b)], []⟩, rfl, [X0, X1, X2, dn, di, .u, .d (τ i b)], ?_, fun _ => ⟨[X0, X1, X2, dn, di, .u, .d (τ i b)], by simp [ST]⟩⟩
        simp only [← hz]
        rw [e]
        simp [ST, ix]
      have en := opNe_nilD (L := (((List.range n).drop (i + 1)).filter fun b => !decide (ratD (τ i b) = 0)).map (τ i)) fun x hx => by
        obtain ⟨b, hb, rfl⟩ := List.mem_map.mp hx
        exact tell_plain (T.t i b hin (List.mem_range.mp (List.mem_of_mem_drop (List.mem_filter.mp hb).1)))
      rw [any_notE] at en
      have fe : fitT n xs ys τ i = ((decide (((List.range n).map fun b => ratD (τ i b)).sum = xs.getD i 0) && decide (((List.range n).map fun a => ratD (τ a i)).sum = ys.getD i 0)) && ((List.range n).drop (i + 1)).all fun b => decide (ratD (τ i b) = 0)) := rfl
      generalize ((List.range n).map fun b => ratD (τ i b)).sum = s1 at *
      generalize ((List.range n).map fun a => ratD (τ a i)).sum = s2 at *
      generalize (((List.range n).drop (i + 1)).all fun b => decide (ratD (τ i b) = 0)) = b3 at *
      generalize (((List.range n).drop (i + 1)).filter fun b => !decide (ratD (τ i b) = 0)).map (τ i) = L3 at *
      generalize rwT n τ i = L1 at *
      generalize ((List.range n).map fun a => τ a i) = L2 at *
      generalize hb1 : decide (s1 = xs.getD i 0) = b1 at *
      generalize hb2 : decide (s2 = ys.getD i 0) = b2 at *
      simp only [ST, X0, X1, X2, di] at lc lf
      cases b1 with
      | false =>
        refine w_sif (s1 := ST dn di) (x := true) (by simp [ST, X0, X2, di, row, ea, ia, n1]; exact .rfl) (fun _ => ?_) fun z => nomatch z
        exact w_retS (x := .d (.bool false)) (s1 := ST dn di) (by simp; exact .rfl) (ok_0 ⟨by rw [no (by rw [fe]; rfl)], rfl⟩)
      | true =>
        cases b2 with
        | false =>
          refine w_sif (s1 := ST dn di) (x := true) (by simp [ST, X0, X1, X2, di, row, ea, ia, n1, lc, ec, ib, n2']; exact .rfl) (fun _ => ?_) fun z => nomatch z
          exact w_retS (x := .d (.bool false)) (s1 := ST dn di) (by simp; exact .rfl) (ok_0 ⟨by rw [no (by rw [fe]; rfl)], rfl⟩)
        | true =>
          refine st (s1 := ST dn di) (by simp [ST, X0, X1, X2, di, row, ea, ia, n1, lc, ec, ib, n2']; exact .rfl) ?_
          cases b3 with
          | false =>
            refine w_ifT (s1 := ST dn di) (by simp [ST, X0, X1, X2, di, lf, en]; exact .rfl) ?_
            exact w_ret (x := .d (.bool false)) (s1 := ST dn di) (by simp; exact .rfl) (ok_0 ⟨by rw [no (by rw [fe]; rfl)], rfl⟩)
          | true =>
            refine w_ifF (s1 := ST dn di) (by simp [ST, X0, X1, X2, di, lf, en]; exact .rfl) (w_nx ⟨⟨_, rfl⟩, fun j hj => ?_⟩)
            by_cases e : j = i
            · rw [e, fe]
              rfl
            · exact hall j (by omega)
    · obtain ⟨⟨x4, rfl⟩, ha⟩ := hs
      exact w_ret (x := .d (.bool true)) (s1 := ST dn x4) (by simp; exact .rfl) (ok_0 ⟨by rw [ha], rfl⟩)
theorem isPairing_e {K j n : Nat} {ds es : List D} {xs ys : List Rat} {d : D} (A : Rt j n ds xs) (B : Rt j n es ys) (hb : BdE K d) (hK : K ≤ 200) (n2 : n ≤ 12) : f__law_is_pairing [.d (.tuple ds), .d (.tuple es), .d d] [] = .ok (.d (.bool (prB n xs ys d))) [] := by
  have l1 : opLen (.d (.tuple ds)) = some (.d (.int (n : Nat))) := by rw [opLen_t, A.len]
  apply Ok.eq
  let X0 : Sl := .d (.tuple ds)
  let X1 : Sl := .d (.tuple es)
  let X2 : Sl := .d d
  show Ok (f__law_is_pairing [X0, X1, X2] []) _
  unfold f__law_is_pairing
  apply run_ok
  unfold c__law_is_pairing
  let ST := fun (x3 x4 : Sl) => (⟨[X0, X1, X2, x3, x4, .u], []⟩ : S)
  have pno : tabB n d = false → prB n xs ys d = false := fun z => by
    unfold prB
    rw [z, Bool.false_and]
  by_cases ht : ∃ rows, d = .tuple rows
  · obtain ⟨rows, hrows⟩ := ht
    by_cases hl : rows.length = n
    · have hl' : (rows.length : Int) = (n : Int) := by omega
      refine st (s1 := ST .u .u) (by
          have hX : X2 = Sl.d (.tuple rows) := congrArg Sl.d hrows
          simp [ST, X0, hX, isi_t, hl', A.len]
          exact .rfl) ?_
      have td : tabB n d = rows.all (rowB n) := by rw [hrows, tabB_t, decide_eq_true hl, Bool.true_and]
      refine w_cut (fun s => (∃ y3, s = ST y3 .u) ∧ tabB n d = true) ?_ fun s hs => ?_
      · refine w_for (ds := rows) (s1 := ST .u .u) (fun i s => (∃ y3, s = ST y3 .u) ∧ ∀ r, r ∈ rows.take i → rowB n r = true) (by simp [ST, X2, hrows]; exact .rfl) ⟨⟨_, rfl⟩, fun r hr => by simp at hr⟩ (fun i r s hr hi => ?_) fun s hi => ⟨hi.1, by rw [td]; exact List.all_eq_true.mpr fun r hr => hi.2 r (by rw [List.take_length]; exact hr)⟩
        obtain ⟨⟨x3, rfl⟩, hall⟩ := hi
        have mem := List.mem_of_getElem? hr
        have no : rowB n r = false → prB n xs ys d = false := fun z => pno (by rw [td]; exact all_no mem z)
        refine ⟨ST (.d r) .u, rfl, ?_⟩
        by_cases hrt : ∃ ps, r = .tuple ps
        · obtain ⟨ps, rfl⟩ := hrt
          by_cases hpl : ps.length = n
          · have hpl' : (ps.length : Int) = (n : Int) := by omega
            refine st (s1 := ST (.d (.tuple ps)) .u) (by simp [ST, X0, isi_t, hpl', A.len]; exact .rfl) ?_
            have rd : rowB n (.tuple ps) = ps.all partB := by rw [rowB_t, decide_eq_true hpl, Bool.true_and]
            have lf := lc_some (own := [5]) (ci := ciSeq (cVar 3)) (tg := tgN 5) (tt := (tNot' (cTru (cCallP fIsShareS (lCons (cVar 5) lNil))))) (el := cVar 5) (s := ST (.d (.tuple ps)) .u) (s1 := ST (.d (.tuple ps)) .u) (xs := ps) (F := id) (fun x => !partB x) id (by simp [ST]) (by omega) fun x hx => by
              have sh := isShareS_ok (d := x) (K := K) (fun a b e => by
                subst e
                exact hb.bd rows hrows ps mem a b hx) hK
              exact ⟨⟨[X0, X1, X2, .d (.tuple ps), .u, .d x], []⟩, rfl, [X0, X1, X2, .d (.tuple ps), .u, .d x], by cases e : partB x <;> rw [e] at sh <;> simp [ST, sh], fun _ => ⟨[X0, X1, X2, .d (.tuple ps), .u, .d x], by simp [ST]⟩⟩
            have en := opNeE_nil (L := (ps.filter fun x => !partB x).map id)
            rw [any_notE] at en
            generalize (ps.filter fun x => !partB x).map id = L3 at *
            simp only [ST] at lf
            cases hB : ps.all partB with
            | false =>
              rw [hB] at en
              refine w_ifT (s1 := ST (.d (.tuple ps)) .u) (by simp [ST, lf, en]; exact .rfl) ?_
              exact w_ret (x := .d (.bool false)) (s1 := ST (.d (.tuple ps)) .u) (by simp; exact .rfl) (ok_0 ⟨by rw [no (by rw [rd, hB])], rfl⟩)
            | true =>
              rw [hB] at en
              refine w_ifF (s1 := ST (.d (.tuple ps)) .u) (by simp [ST, lf, en]; exact .rfl) (w_nx ⟨⟨_, rfl⟩, fun x hx => ?_⟩)
              rw [List.take_add_one, hr] at hx
              rcases List.mem_append.mp hx with hx | hx
              · exact hall x hx
              · simp at hx
                subst hx
                rw [rd, hB]
          · have hpl' : ¬ (ps.length : Int) = (n : Int) := by omega
            refine w_sif (s1 := ST (.d (.tuple ps)) .u) (x := true) (by simp [ST, X0, isi_t, hpl', A.len]; exact .rfl) (fun _ => ?_) fun z => nomatch z
            exact w_retS (x := .d (.bool false)) (s1 := ST (.d (.tuple ps)) .u) (by simp; exact .rfl) (ok_0 ⟨by rw [no (by rw [rowB_t, decide_eq_false hpl, Bool.false_and])], rfl⟩)
        · have nt := notT (d := r) fun ps e => hrt ⟨ps, e⟩
          refine w_sif (s1 := ST (.d r) .u) (x := true) (by simp [ST, nt]; exact .rfl) (fun _ => ?_) fun z => nomatch z
          exact w_retS (x := .d (.bool false)) (s1 := ST (.d r) .u) (by simp; exact .rfl) (ok_0 ⟨by rw [no (by
            unfold rowB
            split
            · exact absurd ⟨_, rfl⟩ hrt
            · rfl)], rfl⟩)
      · obtain ⟨⟨y3, rfl⟩, ht⟩ := hs
        obtain ⟨τ, T⟩ := tab_e ht hb
        have hp : prB n xs ys d = (List.range n).all (fitT n xs ys τ) := by
          unfold prB
          rw [ht, Bool.true_and, fitB_t T.c]
        rw [hp]
        have r1 := ciR1_n (c := cOp1 opLen (cVar 0)) (s := ST y3 .u) (s1 := ST y3 .u) (n := n) (by simp [ST, X0, l1, -opLen_t]) (by omega)
        refine w_cut (fun s => (∃ x4, s = ST y3 x4) ∧ (List.range n).all (fitT n xs ys τ) = true) ?_ fun s hs => ?_
        · refine w_for (fun i s => (∃ x4, s = ST y3 x4) ∧ ∀ j, j < i → fitT n xs ys τ j = true) r1 ⟨⟨_, rfl⟩, fun j hj => absurd hj (Nat.not_lt_zero _)⟩ (fun i y s hd hi => ?_) fun s hi => ⟨hi.1, List.all_eq_true.mpr fun j hj => hi.2 j (by rw [List.length_map, List.length_range]; exact List.mem_range.mp hj)⟩
          obtain ⟨⟨x4, rfl⟩, hall⟩ := hi
          obtain ⟨hin, rfl⟩ := rangeN_get hd
          let di : Sl := .d (.int (i : Nat))
          refine ⟨ST y3 di, rfl, ?_⟩
          have no : fitT n xs ys τ i = false → (List.range n).all (fitT n xs ys τ) = false := all_no (List.mem_range.mpr hin)
          have row := T.row hin
          obtain ⟨a, ea, ta⟩ := sumS_c (n := n) (K := K) (f := τ i) (X := .tuple (rwT n τ i)) (.inr rfl) (by omega) n2 fun b hb => T.t i b hin hb
          obtain ⟨c, ec, tc⟩ := sumS_c (n := n) (K := K) (f := fun a => τ a i) (X := .list ((List.range n).map fun a => τ a i)) (.inl rfl) (by omega) n2 fun b hb => T.t b i hb hin
          obtain ⟨da, ia, _, tda⟩ := A.at hin
          obtain ⟨db, ib, _, tdb⟩ := B.at hin
          have ea : fSumS [.d (.tuple (rwT n τ i))] [] = .ok (.d a) [] := ea
          have n1 := tell_ne ta tda
          have n2' := tell_ne tc tdb
          have lc := lc_for (own := [3]) (ci := ciSeq (cVar 2)) (tg := tgN 3) (el := cOp2 opIx (cVar 3) (cVar 4)) (s := ST y3 di) (s1 := ST y3 di) (xs := List.range n) (F := fun a => PyData.tuple (rwT n τ a)) (fun a => τ a i) (by simp [ST, X2, T.e]) (by simp; omega) fun a ha => by
            have := rwt_ix (n := n) (τ := τ) (a := a) hin
            generalize PyData.tuple (rwT n τ a) = L at *
            exact ⟨⟨[X0, X1, X2, .d L, di, .u], []⟩, rfl, [X0, X1, X2, .d L, di, .u], by simp [ST, di, this]⟩
          have ct := cutD_from (xs := rwT n τ i) (k := (i : Int) + 1) (by omega)
          rw [show ((i : Int) + 1).toNat = i + 1 by omega] at ct
          have edr : (rwT n τ i).drop (i + 1) = ((List.range n).drop (i + 1)).map (τ i) := List.map_drop.symm
          have lf := lc_some (own := [5]) (ci := ciSeq (cSl (cOp2 opIx (cVar 2) (cVar 4)) (cPt (some (cOp2 opAdd (cVar 4) (cC (.int 1))))) (cPt none))) (tg := tgN 5) (tt := (cB (cOp2 opNe (cVar 5) (cTup (cCons (cC (.int 0)) (cCons (cC (.int 1)) cNil)))))) (el := cVar 5) (s := ST y3 di) (s1 := ST y3 di) (xs := (List.range n).drop (i + 1)) (F := τ i) (fun b => !decide (ratD (τ i b) = 0)) (τ i) (by
              rw [← edr]
              generalize rwT n τ i = L at *
              simp [ST, X2, di, row, ct]) (by simp; omega) fun b hb => by
            have hbn : b < n := List.mem_range.mp (List.mem_of_mem_drop hb)
            have tn := tell_ne (T.t i b hin hbn) tell_none
            rw [show shD 0 1 = PyData.tuple [.int 0, .int 1] from rfl] at tn
            exact ⟨⟨[X0, X1, X2, y3, di, .d (τ i b)], []⟩, rfl, [X0, X1, X2, y3, di, .d (τ i b)], by simp [ST, tn], fun _ => ⟨[X0, X1, X2, y3, di, .d (τ i b)], by simp [ST]⟩⟩
          have en := opNeE_nil (L := (((List.range n).drop (i + 1)).filter fun b => !decide (ratD (τ i b) = 0)).map (τ i))
          rw [any_notE] at en
          have fe : fitT n xs ys τ i = ((decide (((List.range n).map fun b => ratD (τ i b)).sum = xs.getD i 0) && decide (((List.range n).map fun a => ratD (τ a i)).sum = ys.getD i 0)) && ((List.range n).drop (i + 1)).all fun b => decide (ratD (τ i b) = 0)) := rfl
          generalize ((List.range n).map fun b => ratD (τ i b)).sum = s1 at *
          generalize ((List.range n).map fun a => ratD (τ a i)).sum = s2 at *
          generalize (((List.range n).drop (i + 1)).all fun b => decide (ratD (τ i b) = 0)) = b3 at *
          generalize (((List.range n).drop (i + 1)).filter fun b => !decide (ratD (τ i b) = 0)).map (τ i) = L3 at *
          generalize rwT n τ i = L1 at *
          generalize ((List.range n).map fun a => τ a i) = L2 at *
          generalize hb1 : decide (s1 = xs.getD i 0) = b1 at *
          generalize hb2 : decide (s2 = ys.getD i 0) = b2 at *
          simp only [ST, X0, X1, X2, di] at lc lf
          cases b1 with
          | false =>
            refine w_sif (s1 := ST y3 di) (x := true) (by simp [ST, X0, X2, di, row, ea, ia, n1]; exact .rfl) (fun _ => ?_) fun z => nomatch z
            exact w_retS (x := .d (.bool false)) (s1 := ST y3 di) (by simp; exact .rfl) (ok_0 ⟨by rw [no (by rw [fe]; rfl)], rfl⟩)
          | true =>
            cases b2 with
            | false =>
              refine w_sif (s1 := ST y3 di) (x := true) (by simp [ST, X0, X1, X2, di, row, ea, ia, n1, lc, ec, ib, n2']; exact .rfl) (fun _ => ?_) fun z => nomatch z
              exact w_retS (x := .d (.bool false)) (s1 := ST y3 di) (by simp; exact .rfl) (ok_0 ⟨by rw [no (by rw [fe]; rfl)], rfl⟩)
            | true =>
              refine st (s1 := ST y3 di) (by simp [ST, X0, X1, X2, di, row, ea, ia, n1, lc, ec, ib, n2']; exact .rfl) ?_
              cases b3 with
              | false =>
                refine w_ifT (s1 := ST y3 di) (by simp [ST, X0, X1, X2, di, lf, en]; exact .rfl) ?_
                exact w_ret (x := .d (.bool false)) (s1 := ST y3 di) (by simp; exact .rfl) (ok_0 ⟨by rw [no (by rw [fe]; rfl)], rfl⟩)
              | true =>
                refine w_ifF (s1 := ST y3 di) (by simp [ST, X0, X1, X2, di, lf, en]; exact .rfl) (w_nx ⟨⟨_, rfl⟩, fun j hj => ?_⟩)
                by_cases e : j = i
                · rw [e, fe]
                  rfl
                · exact hall j (by omega)
        · obtain ⟨⟨x4, rfl⟩, ha⟩ := hs
          exact w_ret (x := .d (.bool true)) (s1 := ST y3 x4) (by simp; exact .rfl) (ok_0 ⟨by rw [ha], rfl⟩)
    · have hl' : ¬ (rows.length : Int) = (n : Int) := by omega
      refine w_sif (s1 := ST .u .u) (x := true) (by
          have hX : X2 = Sl.d (.tuple rows) := congrArg Sl.d hrows
          simp [ST, X0, hX, isi_t, hl', A.len]
          exact .rfl) (fun _ => ?_) fun z => nomatch z
      exact w_retS (x := .d (.bool false)) (s1 := ST .u .u) (by simp; exact .rfl) (ok_0 ⟨by rw [pno (by rw [hrows, tabB_t, decide_eq_false hl, Bool.false_and])], rfl⟩)
  · have nt := notT (d := d) fun ps e => ht ⟨ps, e⟩
    refine w_sif (s1 := ST .u .u) (x := true) (by simp [X2, nt]; exact .rfl) (fun _ => ?_) fun z => nomatch z
    exact w_retS (x := .d (.bool false)) (s1 := ST .u .u) (by simp; exact .rfl) (ok_0 ⟨by rw [pno (by
      unfold tabB
      split
      · exact absurd ⟨_, rfl⟩ ht
      · rfl)], rfl⟩)
theorem told_ok {K j n : Nat} {ds es : List D} {xs ys : List Rat} {d : D} (A : Rt j n ds xs) (B : Rt j n es ys) (hb : BdE K d) (hK : K ≤ 200) (n2 : n ≤ 12) : f__law_told [.d (.tuple ds), .d (.tuple es), .d d] [] = .ok (.d (.bool (prB n xs ys d))) [] := by
  have e := lets_e A B hb hK n2
  generalize prB n xs ys d = b at *
  let X0 : Sl := .d (.tuple ds)
  let X1 : Sl := .d (.tuple es)
  let X2 : Sl := .d d
  have q : cTry ["NoShare", "Unlike"] 5 4 (cSet 3 (cCallP fLetsPairing (lCons (cVar 0) (lCons (cVar 1) (lCons (cVar 2) lNil))))) ⟨[X0, X1, X2, .d .none, .d .none, .u], []⟩ = .nx ⟨[X0, X1, X2, .d (.bool b), .d .none, .u], []⟩ := cTry_nx (by simp [X0, X1, X2, e])
  have q4 : cIsN 4 ⟨[X0, X1, X2, .d (.bool b), .d .none, .u], []⟩ = .ok (.d (.bool true)) ⟨[X0, X1, X2, .d (.bool b), .d .none, .u], []⟩ := cIsN_d (d := .none) rfl
  show f__law_told [X0, X1, X2] [] = _
  unfold f__law_told
  rw [runF_s]
  simp [c__law_told, q, q4]
theorem told_not {ds es : List D} {d : D} (h : ds.length ≠ es.length) : f__law_told [.d (.tuple ds), .d (.tuple es), .d d] [] = .ok (.d (.str "unlike")) [] := by
  have h' : ¬ ((ds.length : Int) = (es.length : Int)) := fun z => h (by omega)
  have na : fNeedAR [.d (.tuple ds), .d (.tuple es)] [] = .ex "Unlike" [] := by
    unfold fNeedAR
    rw [runF_s]
    simp [cNeedAR, h']
  let X0 : Sl := .d (.tuple ds)
  let X1 : Sl := .d (.tuple es)
  let X2 : Sl := .d d
  have e : fLetsPairing [X0, X1, X2] [] = .ex "Unlike" [] := by
    unfold fLetsPairing
    rw [runF_s]
    simp [cLetsPairing, X0, X1, na]
  have q : cTry ["NoShare", "Unlike"] 5 4 (cSet 3 (cCallP fLetsPairing (lCons (cVar 0) (lCons (cVar 1) (lCons (cVar 2) lNil))))) ⟨[X0, X1, X2, .d .none, .d .none, .u], []⟩ = .nx ⟨[X0, X1, X2, .d .none, .x "Unlike", .u], []⟩ := cTry_ex (n := "Unlike") (s' := ⟨[X0, X1, X2, .d .none, .d .none, .u], []⟩) (by simp only [X0, X1, X2] at e ⊢; simp [e]) rfl
  have q4 : cIsN 4 ⟨[X0, X1, X2, .d .none, .x "Unlike", .u], []⟩ = .ok (.d (.bool false)) ⟨[X0, X1, X2, .d .none, .x "Unlike", .u], []⟩ := rfl
  have q5 : cIsX 4 "Unlike" ⟨[X0, X1, X2, .d .none, .x "Unlike", .u], []⟩ = .ok (.d (.bool true)) ⟨[X0, X1, X2, .d .none, .x "Unlike", .u], []⟩ := rfl
  have ix : opIx (.d (.list [PyData.str "other", .str "unlike"])) (.d (.int 1)) = some (.d (.str "unlike")) := rfl
  show f__law_told [X0, X1, X2] [] = _
  unfold f__law_told
  rw [runF_s]
  simp [c__law_told, q, q4, q5, ix]
end Vm
namespace Vm
open PySem L2 PySem.Spec PyProof.Rows
/-! ### tables drawn -/
/-- a table whose lines are drawn; the pen is the first cell -/
theorem lcN_draws {own : List Nat} {ci : CI} {tg : Tg} {el : CE} {s : S} {v1 : List Sl} {p0 : Cell} {r : List Cell} {ds : List D} (J : Nat → Cell → Prop) (Q : Nat → List D → Prop) (h : ci s = .ok ds ⟨v1, p0 :: r⟩) (hl : ds.length ≤ 16000000) (h0 : J 0 p0)
    (hb : ∀ i d p rest, ds[i]? = some d → J i p → ∃ t, tg d ⟨wipeV v1 own, p :: rest⟩ = some t ∧ ∃ L p' v3, el t = .ok (.new (.l L)) ⟨v3, p' :: rest⟩ ∧ J (i + 1) p' ∧ Q i L) :
    ∃ (Ls : List (List D)) (p' : Cell), cLcN own ci tg el s = .ok (.t false ((List.range ds.length).map fun j => .c (r.length + 1 + j))) ⟨v1, p' :: (r ++ Ls.map Cell.l)⟩ ∧ Ls.length = ds.length ∧ (∀ i L, Ls[i]? = some L → Q i L) ∧ J ds.length p' := by
  have go : ∀ (l : List D) (k : Nat) (Ls : List (List D)) (p : Cell), l = ds.drop k → Ls.length = k → (∀ i L, Ls[i]? = some L → Q i L) → J k p →
      ∃ (Ls' : List (List D)) (p' : Cell), lcN own v1 tg el l ((List.range k).map fun j => .c (r.length + 1 + j)) (p :: (r ++ Ls.map Cell.l)) = .ok (.t false ((List.range (k + l.length)).map fun j => .c (r.length + 1 + j))) ⟨v1, p' :: (r ++ Ls'.map Cell.l)⟩ ∧ Ls'.length = k + l.length ∧ (∀ i L, Ls'[i]? = some L → Q i L) ∧ J (k + l.length) p' := by
    intro l
    induction l with
    | nil =>
      intro k Ls p hk hL hQ hJ
      exact ⟨Ls, p, rfl, hL, hQ, hJ⟩
    | cons d l ih =>
      intro k Ls p hk hL hQ hJ
      have hd : ds[k]? = some d := by
        have := congrArg (fun z : List D => z[0]?) hk
        simp at this
        exact this.symm
      have hl' : l = ds.drop (k + 1) := by
        have := congrArg List.tail hk
        simp at this
        exact this
      obtain ⟨t, h1, L, p', v3, h2, h3, h4⟩ := hb k d p (r ++ Ls.map Cell.l) hd hJ
      unfold lcN
      rw [h1]
      dsimp only
      rw [h2]
      obtain ⟨Ls', p2, e, a, b, c⟩ := ih (k + 1) (Ls ++ [L]) p' hl' (by simp [hL]) (fun i L' hi => by
        by_cases hlt : i < Ls.length
        · rw [List.getElem?_append_left hlt] at hi
          exact hQ i L' hi
        · rw [List.getElem?_append_right (by omega)] at hi
          have : i - Ls.length = 0 := by
            have := (List.getElem?_eq_some_iff.mp hi).1
            simp at this
            omega
          rw [this] at hi
          cases hi
          have : i = k := by omega
          subst this
          exact h4) h3
      refine ⟨Ls', p2, ?_, by rw [List.length_cons]; omega, b, by rw [List.length_cons, show k + (l.length + 1) = k + 1 + l.length by omega]; exact c⟩
      rw [List.length_cons, show k + (l.length + 1) = k + 1 + l.length by omega, ← e]
      show lcN own v1 tg el l (((List.range k).map fun j => El.c (r.length + 1 + j)) ++ [.c (p' :: (r ++ Ls.map Cell.l)).length]) (p' :: (r ++ Ls.map Cell.l) ++ [.l L]) = _
      congr 1
      · rw [List.range_succ, List.map_append]
        congr 1
        simp [hL]
        omega
      · simp
  obtain ⟨Ls, p', e, a, b, c⟩ := go ds 0 [] p0 rfl rfl (fun i L hi => by simp at hi) h0
  rw [Nat.zero_add] at e a c
  refine ⟨Ls, p', ?_, a, b, c⟩
  unfold cLcN
  rw [h, bind_ok, if_pos hl]
  rw [← e]
  simp
/-- over cells, one behind another -/
theorem lcE_cells {own : List Nat} {ci : CIE} {i n a : Nat} {el : CE} {s s1 : S} (G : Nat → D) (h : ci s = .ok ((List.range n).map fun j => El.c (a + j)) s1) (hn : n ≤ 16000000) (hb : ∀ j, j < n → ∃ v3, cv el ⟨(wipeV s1.v own).set i (.c (a + j)), s1.m⟩ = .ok (.d (G j)) ⟨v3, s1.m⟩) :
    cLcE own ci i el s = .ok (.new (.l ((List.range n).map G))) s1 := by
  have go : ∀ (l : List Nat) (acc : List D), (∀ j, j ∈ l → j < n) → lcE own s1.v i el (l.map fun j => El.c (a + j)) acc s1.m = .ok (.new (.l (acc ++ l.map G))) s1 := by
    intro l
    induction l with
    | nil =>
      intro acc _
      simp [lcE]
    | cons j l ih =>
      intro acc hj
      obtain ⟨v3, e⟩ := hb j (hj j (List.mem_cons_self ..))
      rw [List.map_cons]
      unfold lcE
      rw [show elSl (El.c (a + j)) = Sl.c (a + j) from rfl, e]
      show lcE own s1.v i el (l.map fun j => El.c (a + j)) (acc ++ [G j]) s1.m = _
      rw [ih _ fun x hx => hj x (List.mem_cons_of_mem _ hx), List.map_cons, List.append_assoc]
      rfl
  unfold cLcE
  rw [h, bind_ok, if_pos (by simp; exact hn), go _ [] fun j hj => List.mem_range.mp hj, List.nil_append]
/-! ### a table of whole numbers -/
abbrev tbI (n : Nat) (T : Nat → Nat → Int) : List D := (List.range n).map fun a => PyData.list ((List.range n).map fun b => PyData.int (T a b))
structure Low (n : Nat) (T : Nat → Nat → Int) : Prop where
  ge : ∀ a b, 0 ≤ T a b
  le : ∀ a b, T a b ≤ 29
  sup : ∀ a b, b < n → a < b → T a b = 0
  s1 : 1 ≤ rs n fun a => rs n (T a)
end Vm
namespace Vm
open PySem L2 PySem.Spec PyProof.Rows
def intOf : D → Int
  | .int i => i
  | _ => 0
theorem list_range {α : Type} {n : Nat} {xs : List α} {f : Nat → α} (hl : xs.length = n) (h : ∀ b, b < n → xs[b]? = some (f b)) : xs = (List.range n).map f := by
  apply List.ext_getElem
  · simp [hl]
  · intro i h1 h2
    have := h i (by omega)
    rw [List.getElem?_eq_getElem h1] at this
    simp
    exact Option.some.inj this
/-- the lines of a table as cells behind others -/
abbrev lnC (n : Nat) (T : Nat → Nat → Int) : List Cell := (List.range n).map fun a => Cell.l ((List.range n).map fun b => PyData.int (T a b))
theorem lnC_get {n a : Nat} {T : Nat → Nat → Int} {p : Cell} {r : List Cell} (h : a < n) : (p :: (r ++ lnC n T))[r.length + 1 + a]? = some (.l ((List.range n).map fun b => PyData.int (T a b))) := by
  rw [show r.length + 1 + a = (r.length + a) + 1 by omega, List.getElem?_cons_succ, List.getElem?_append_right (by omega), show r.length + a - r.length = a by omega]
  simp [h]
def putI (T : Nat → Nat → Int) (i j : Nat) (v : Int) : Nat → Nat → Int := fun a b => if a = i ∧ b = j then v else T a b
theorem lnC_set {n i j : Nat} {T : Nat → Nat → Int} {p : Cell} {r : List Cell} {v : Int} : (p :: (r ++ lnC n T)).set (r.length + 1 + i) (.l (((List.range n).map fun b => PyData.int (T i b)).set j (.int v))) = p :: (r ++ lnC n (putI T i j v)) := by
  rw [show r.length + 1 + i = (r.length + i) + 1 by omega, List.set_cons_succ, List.set_append_right _ _ (by omega), show r.length + i - r.length = i by omega]
  congr 2
  unfold lnC
  rw [set_range, set_range]
  apply List.map_congr_left
  intro a _
  by_cases h : a = i
  · subst h
    rw [if_pos rfl]
    congr 1
    apply List.map_congr_left
    intro b _
    unfold putI
    by_cases hb : b = j
    · rw [if_pos hb, if_pos ⟨rfl, hb⟩]
    · rw [if_neg hb, if_neg fun z => hb z.2]
  · rw [if_neg h]
    congr 1
    apply List.map_congr_left
    intro b _
    unfold putI
    rw [if_neg fun z => h z.1]
/-- all lines become data -/
theorem fz_lines {n i : Nat} {T : Nat → Nat → Int} {p : Cell} {r : List Cell} {v : List Sl} {TL : List El} (hTL : TL = (List.range n).map fun j => El.c (r.length + 1 + j)) (hv : v[i]? = some (.t false TL)) : ∃ m', cFzE i ⟨v, p :: (r ++ lnC n T)⟩ = .ok (.d (.list (tbI n T))) ⟨v.set i (.d (.list (tbI n T))), m'⟩ ∧ m'.take (r.length + 1) = p :: r := by
  obtain ⟨m', ef, hl, hi⟩ := fzE_range (n := n) (T := fun a => (List.range n).map fun b => PyData.int (T a b)) n (p :: (r ++ lnC n T)) (r.length + 1) fun j hj => lnC_get hj
  have ef' : fzE TL (p :: (r ++ lnC n T)) = some ((List.range n).map fun j => PyData.list ((List.range n).map fun b => PyData.int (T j b)), m') := by rw [hTL]; exact ef
  refine ⟨m', cFzE_t (s := ⟨v, p :: (r ++ lnC n T)⟩) (b := false) hv ef', ?_⟩
  apply List.ext_getElem?
  intro k
  rw [List.getElem?_take]
  by_cases hk : k < r.length + 1
  · rw [if_pos hk, hi k hk]
    cases k with
    | zero => rfl
    | succ k =>
      rw [List.getElem?_cons_succ, List.getElem?_cons_succ, List.getElem?_append_left (by omega)]
  · rw [if_neg hk, List.getElem?_eq_none (by simp; omega)]
theorem table_ok {B n : Nat} {p : Cell} (r : List Cell) (hp : IsPenL B p) (hB : B < 800000) (n1 : 1 ≤ n) (n2 : n ≤ 12) : ∃ T p', f__law_table [.c 0, .d (.int (n : Nat))] (p :: r) = .ok (.d (.list (tbI n T))) (p' :: r) ∧ Low n T ∧ IsPenL (B + 200) p' := by
  suffices h : Ok (f__law_table [.c 0, .d (.int (n : Nat))] (p :: r)) fun x m => ∃ T p', x = .d (.list (tbI n T)) ∧ m = p' :: r ∧ Low n T ∧ IsPenL (B + 200) p' by
    obtain ⟨_, _, e, T, p', rfl, rfl, h⟩ := h
    exact ⟨T, p', e, h⟩
  unfold f__law_table
  refine run_ok ?_
  unfold c__law_table
  let dn : Sl := .d (.int (n : Nat))
  let ST := fun (x2 x3 x4 x5 x6 x7 : Sl) (m : List Cell) => (⟨[.c 0, dn, x2, x3, x4, x5, x6, x7], m⟩ : S)
  obtain ⟨y, p1, e1, y0, y1, hp1⟩ := dS r 4 hp
  obtain ⟨w, ew, w2, w30⟩ : ∃ w : Int, (∀ z : Int, (z = if (6 : Int) < (n : Int) then 1 else 0) → opIx (.d (.tuple [PyData.int 30, .int 12])) (.d (.int z)) = some (.d (.int (if (6 : Int) < (n : Int) then 12 else 30)))) ∧ (2 ≤ w ∧ w ≤ 30) ∧ opIx (.d (.tuple [PyData.int 10, .int 2, .int 4, .int (if (6 : Int) < (n : Int) then 12 else 30)])) (.d (.int y)) = some (.d (.int w)) := by
    have hy : y = 0 ∨ y = 1 ∨ y = 2 ∨ y = 3 := by omega
    have e0 : ∀ z : Int, (z = if (6 : Int) < (n : Int) then 1 else 0) → opIx (.d (.tuple [PyData.int 30, .int 12])) (.d (.int z)) = some (.d (.int (if (6 : Int) < (n : Int) then 12 else 30))) := fun z hz => by
      subst hz
      split <;> rfl
    rcases hy with rfl | rfl | rfl | rfl
    · exact ⟨10, e0, ⟨by decide, by decide⟩, rfl⟩
    · exact ⟨2, e0, ⟨by decide, by decide⟩, rfl⟩
    · exact ⟨4, e0, ⟨by decide, by decide⟩, rfl⟩
    · exact ⟨_, e0, ⟨by split <;> decide, by split <;> decide⟩, rfl⟩
  obtain ⟨w2, w3⟩ := w2
  let d2 : Sl := .d (.int w)
  refine st (s1 := ST d2 .u .u .u .u .u (p1 :: r)) (by
    by_cases h6 : (6 : Int) < (n : Int)
    · have e0 := ew 1 (by rw [if_pos h6])
      rw [if_pos h6] at e0 w30
      have h6' : 6 < n := by omega
      simp [dn, h6, h6', e0, e1, w30]
      exact .rfl
    · have e0 := ew 0 (by rw [if_neg h6])
      rw [if_neg h6] at e0 w30
      have h6' : ¬ 6 < n := by omega
      simp [dn, h6, h6', e0, e1, w30]
      exact .rfl) ?_
  obtain ⟨t', p2, e2, t0, t1, hp2⟩ := dS r (n : Int) hp1
  obtain ⟨t, rfl⟩ : ∃ t : Nat, t' = (t : Int) := ⟨t'.toNat, by omega⟩
  have tn : t < n := by omega
  let d3 : Sl := .d (.int (t : Nat))
  refine st (s1 := ST d2 d3 .u .u .u .u (p2 :: r)) (by simp [ST, dn, e2]; exact .rfl) ?_
  have r1 := ciR1_n (c := cVar 1) (s := ST d2 d3 .u .u .u .u (p2 :: r)) (s1 := ST d2 d3 .u .u .u .u (p2 :: r)) (n := n) (by simp [ST, dn]) (by omega)
  obtain ⟨Ls, p3, e3, hL, hQ, hp3⟩ := lcN_draws (own := [5]) (tg := tgN 5) (el := (cLc [6] (ciR1 (cVar 1)) (tgN 6) ctYes (cOp2 opMulV (cCall fDrawS (lCons (cVar 0) (lCons (cVar 2) lNil))) (cOp1 opInt (cOp2 opLe (cVar 6) (cVar 5)))))) (fun i p => IsPenL (B + 2 + n * i) p)
    (fun i L => ∃ f : Nat → Int, L = (List.range n).map (fun b => PyData.int (f b)) ∧ ∀ b, 0 ≤ f b ∧ f b ≤ 29 ∧ (b < n → i < b → f b = 0)) r1 (by simp; omega) (hp2.mono (by omega)) fun i d p rest hd hpi => by
    obtain ⟨hin, rfl⟩ := rangeN_get hd
    let SI := fun (x6 : Sl) (m : List Cell) => (⟨[.c 0, dn, d2, d3, .u, .d (.int (i : Nat)), x6, .u], m⟩ : S)
    refine ⟨SI .u (p :: rest), rfl, ?_⟩
    have r2 := ciR1_n (c := cVar 1) (s := SI .u (p :: rest)) (s1 := SI .u (p :: rest)) (n := n) (by simp [SI, dn]) (by omega)
    have hm : n * i ≤ 144 := Nat.le_trans (Nat.mul_le_mul n2 (by omega : i ≤ 12)) (by decide)
    obtain ⟨acc, m', e4, hI⟩ := lc_inv (own := [6]) (tg := tgN 6) (tt := ctYes) (el := (cOp2 opMulV (cCall fDrawS (lCons (cVar 0) (lCons (cVar 2) lNil))) (cOp1 opInt (cOp2 opLe (cVar 6) (cVar 5))))) (fun k acc m => ∃ p, m = p :: rest ∧ IsPenL (B + 2 + n * i + k) p ∧ acc.length = k ∧ ∀ (l : Nat) (d : D), acc[l]? = some d → ∃ z : Int, d = .int z ∧ 0 ≤ z ∧ z ≤ 29 ∧ (i < l → z = 0)) r2 (by simp; omega) ⟨p, rfl, hpi, rfl, fun l d h => by simp at h⟩ fun k acc m d hd hk => by
      obtain ⟨p, rfl, hp, hal, hacc⟩ := hk
      obtain ⟨hkn, rfl⟩ := rangeN_get hd
      refine ⟨SI (.d (.int (k : Nat))) (p :: rest), rfl, true, SI (.d (.int (k : Nat))) (p :: rest), rfl, (fun z => nomatch z), fun _ => ?_⟩
      obtain ⟨v, p', ev, v0, v1, hp'⟩ := dS rest w hp
      have mul : ∀ c : Int, (c = 0 ∨ c = 1) → opMulV (.d (.int v)) (.d (.int c)) = some (.d (.int (v * c))) := fun c hc => opMul_b (by omega) (by omega) (by omega) (by omega)
      have m0 := mul 0 (.inl rfl)
      have m1 := mul 1 (.inr rfl)
      rw [Int.mul_zero] at m0
      rw [Int.mul_one] at m1
      have snoc : ∀ z : Int, 0 ≤ z → z ≤ 29 → (i < k → z = 0) → ∀ (l : Nat) (d : D), (acc ++ [PyData.int z])[l]? = some d → ∃ z : Int, d = .int z ∧ 0 ≤ z ∧ z ≤ 29 ∧ (i < l → z = 0) := fun z z0 z1 zz l d hl => by
        by_cases hlt : l < acc.length
        · rw [List.getElem?_append_left hlt] at hl
          exact hacc l d hl
        · rw [List.getElem?_append_right (by omega)] at hl
          have : l - acc.length = 0 := by
            have := (List.getElem?_eq_some_iff.mp hl).1
            simp at this
            omega
          rw [this] at hl
          cases hl
          exact ⟨z, rfl, z0, z1, fun h => zz (by omega)⟩
      by_cases hki : k ≤ i
      · have hki' : (k : Int) ≤ (i : Int) := by omega
        exact ⟨.int v, SI (.d (.int (k : Nat))) (p' :: rest), by simp [SI, d2, ev, hki, hki', m1], p', rfl, hp'.mono (by omega), by simp [hal], snoc v v0 (by omega) fun h => by omega⟩
      · have hki' : ¬ (k : Int) ≤ (i : Int) := by omega
        exact ⟨.int 0, SI (.d (.int (k : Nat))) (p' :: rest), by simp [SI, d2, ev, hki, hki', m0], p', rfl, hp'.mono (by omega), by simp [hal], snoc 0 (by decide) (by decide) fun _ => rfl⟩
    obtain ⟨p', rfl, hp', hal, hacc⟩ := hI
    rw [List.length_map, List.length_range] at hal hp'
    refine ⟨acc, p', _, e4, hp'.mono (by rw [Nat.mul_succ]; omega), fun b => intOf (acc.getD b .none), list_range hal fun b hb => ?_, fun b => ?_⟩
    · have g := List.getElem?_eq_getElem (show b < acc.length by omega)
      obtain ⟨z, ez, _⟩ := hacc b _ g
      show acc[b]? = some (PyData.int (intOf (acc.getD b .none)))
      rw [List.getD_eq_getElem?_getD, g, ez]
      rfl
    · by_cases hb : b < acc.length
      · have g := List.getElem?_eq_getElem hb
        obtain ⟨z, ez, z0, z1, zz⟩ := hacc b _ g
        have e : intOf (acc.getD b .none) = z := by rw [List.getD_eq_getElem?_getD, g, ez]; rfl
        show 0 ≤ intOf (acc.getD b .none) ∧ intOf (acc.getD b .none) ≤ 29 ∧ (b < n → i < b → intOf (acc.getD b .none) = 0)
        rw [e]
        exact ⟨z0, z1, fun _ => zz⟩
      · have e : intOf (acc.getD b .none) = 0 := by rw [List.getD_eq_getElem?_getD, List.getElem?_eq_none (by omega)]; rfl
        show 0 ≤ intOf (acc.getD b .none) ∧ intOf (acc.getD b .none) ≤ 29 ∧ (b < n → i < b → intOf (acc.getD b .none) = 0)
        rw [e]
        exact ⟨by decide, by decide, fun _ _ => rfl⟩
  rw [List.length_map, List.length_range] at e3 hL hp3
  let T : Nat → Nat → Int := fun a b => if a < n ∧ b < n then intOf ((Ls.getD a []).getD b .none) else 0
  have hT : ∀ a, a < n → ∃ f : Nat → Int, Ls[a]? = some ((List.range n).map fun b => PyData.int (f b)) ∧ (∀ b, b < n → T a b = f b) ∧ ∀ b, 0 ≤ f b ∧ f b ≤ 29 ∧ (b < n → a < b → f b = 0) := fun a ha => by
    have g := List.getElem?_eq_getElem (show a < Ls.length by omega)
    obtain ⟨f, ef, hf⟩ := hQ a _ g
    refine ⟨f, by rw [g, ef], fun b hb => ?_, hf⟩
    show (if a < n ∧ b < n then intOf ((Ls.getD a []).getD b .none) else 0) = f b
    rw [if_pos ⟨ha, hb⟩, List.getD_eq_getElem?_getD (l := Ls), g, ef]
    simp [List.getD_eq_getElem?_getD, hb, intOf]
  have T0 : ∀ a b, 0 ≤ T a b ∧ T a b ≤ 29 := fun a b => by
    by_cases h : a < n ∧ b < n
    · obtain ⟨f, _, e, hf⟩ := hT a h.1
      rw [e b h.2]
      exact ⟨(hf b).1, (hf b).2.1⟩
    · show 0 ≤ (if a < n ∧ b < n then intOf ((Ls.getD a []).getD b .none) else 0) ∧ (if a < n ∧ b < n then intOf ((Ls.getD a []).getD b .none) else 0) ≤ 29
      rw [if_neg h]
      exact ⟨by decide, by decide⟩
  have Tz : ∀ a b, b < n → a < b → T a b = 0 := fun a b hb hab => by
    obtain ⟨f, _, e, hf⟩ := hT a (by omega)
    rw [e b hb]
    exact (hf b).2.2 hb hab
  have eLs : Ls.map Cell.l = lnC n T := list_range (by rw [List.length_map]; exact hL) fun a ha => by
    obtain ⟨f, g, e, _⟩ := hT a ha
    rw [List.getElem?_map, g]
    have eq : (List.range n).map (fun b => PyData.int (f b)) = (List.range n).map fun b => PyData.int (T a b) := List.map_congr_left fun b hb => by rw [e b (List.mem_range.mp hb)]
    rw [← eq]
    rfl
  rw [eLs] at e3
  clear_value T
  obtain ⟨TL, hTL⟩ : ∃ TL, TL = (List.range n).map fun j => El.c (r.length + 1 + j) := ⟨_, rfl⟩
  rw [← hTL] at e3
  let d4 : Sl := .t false TL
  have fin : ∀ (T : Nat → Nat → Int), Low n T → Wp (cRet (cFzE 4)) (poF (p :: r) fun x m => ∃ T p', x = .d (.list (tbI n T)) ∧ m = p' :: r ∧ Low n T ∧ IsPenL (B + 200) p') (ST d2 d3 d4 .u .u .u (p3 :: (r ++ lnC n T))) := fun T hL => by
    obtain ⟨m', ef, em⟩ := fz_lines (i := 4) (n := n) (T := T) (p := p3) (r := r) (v := [.c 0, dn, d2, d3, d4, .u, .u, .u]) hTL rfl
    refine w_ret (x := .d (.list (tbI n T))) (s1 := ⟨[.c 0, dn, d2, d3, .d (.list (tbI n T)), .u, .u, .u], m'⟩) (by simp only [ST]; rw [ef]; exact .rfl) (ok_d ⟨T, p3, rfl, ?_, hL, hp3.mono (by have := Nat.mul_le_mul n2 n2; omega)⟩)
    show m'.take (p :: r).length = _
    rw [List.length_cons]
    exact em
  refine st (s1 := ST d2 d3 d4 .u .u .u (p3 :: (r ++ lnC n T))) (by simp only [ST] at e3 ⊢; simp [e3]; exact .rfl) ?_
  have ce := lcE_cells (own := [7]) (i := 7) (n := n) (a := r.length + 1) (ci := ciT (cVar 4)) (el := cOp1 opSum (cVar 7)) (s := ST d2 d3 d4 .u .u .u (p3 :: (r ++ lnC n T))) (s1 := ST d2 d3 d4 .u .u .u (p3 :: (r ++ lnC n T))) (fun a => PyData.int (rs n (T a))) (by simp [ST, d4, ciT, hTL]) (by omega) fun a ha => by
    have g := lnC_get (n := n) (T := T) (p := p3) (r := r) ha
    have so := opSum_il (ns := (List.range n).map (T a))
    rw [List.map_map] at so
    have so : opSum (.d (.list ((List.range n).map fun b => PyData.int (T a b)))) = some (.d (.int (rs n (T a)))) := so
    refine ⟨[.c 0, dn, d2, d3, d4, .u, .u, .c (r.length + 1 + a)], ?_⟩
    generalize lnC n T = lc at *
    simp [ST, wipeV, g, so]
  have so2 := opSum_il (ns := (List.range n).map fun a => rs n (T a))
  rw [List.map_map] at so2
  have so2 : opSum (.d (.list ((List.range n).map fun a => PyData.int (rs n (T a))))) = some (.d (.int (rs n fun a => rs n (T a)))) := so2
  have rnn : ∀ a, 0 ≤ rs n (T a) := fun a => by
    have := rs_ge (n := n) (f := T a) (fun b => (T0 a b).1) (b := 0) (by omega)
    have := (T0 a 0).1
    omega
  have tot0 : 0 ≤ rs n fun a => rs n (T a) := by
    have := rs_ge (n := n) (f := fun a => rs n (T a)) rnn (b := 0) (by omega)
    have := rnn 0
    omega
  generalize hS : (rs n fun a => rs n (T a)) = S at *
  generalize (List.range n).map (fun a => PyData.int (rs n (T a))) = sums at *
  by_cases h0 : S = 0
  · have v0 := elV_c (es := TL) (k := t) (n := r.length + 1 + t) (s := ST d2 d3 d4 .u .u .u (p3 :: (r ++ lnC n T))) (by rw [hTL]; simp [tn])
    have pu := putLR_s (n := r.length + 1 + t) (k := 0) (v := .int 1) (s3 := ST d2 d3 d4 .u .u .u (p3 :: (r ++ lnC n T))) (xs := (List.range n).map fun b => PyData.int (T t b)) (lnC_get tn) (by decide) (by simp; omega)
    have es := lnC_set (n := n) (i := t) (j := 0) (T := T) (p := p3) (r := r) (v := 1)
    have pu : putLR (.d (.int 0)) (.ref (r.length + 1 + t)) (.d (.int 1)) (ST d2 d3 d4 .u .u .u (p3 :: (r ++ lnC n T))) = .nx (ST d2 d3 d4 .u .u .u (p3 :: (r ++ lnC n (putI T t 0 1)))) := by
      rw [pu, ← es]
      rfl
    have L2 : Low n (putI T t 0 1) := by
      have ge : ∀ a b, 0 ≤ putI T t 0 1 a b := fun a b => by
        unfold putI
        split
        · decide
        · exact (T0 a b).1
      refine ⟨ge, fun a b => ?_, fun a b hb hab => ?_, ?_⟩
      · unfold putI
        split
        · decide
        · exact (T0 a b).2
      · unfold putI
        rw [if_neg fun z => by omega]
        exact Tz a b hb hab
      · have h1 := rs_ge (n := n) (f := putI T t 0 1 t) (ge t) (b := 0) (by omega)
        have h2 := rs_ge (n := n) (f := fun a => rs n (putI T t 0 1 a)) (fun a => by
          have h3 := rs_ge (n := n) (f := putI T t 0 1 a) (ge a) (b := 0) (by omega)
          have := ge a 0
          omega) (b := t) tn
        have h4 : putI T t 0 1 t 0 = 1 := by
          unfold putI
          rw [if_pos ⟨rfl, rfl⟩]
        omega
    have F := fin _ L2
    generalize lnC n (putI T t 0 1) = lc2 at *
    generalize lnC n T = lc at *
    refine st (s1 := ST d2 d3 d4 .u .u .u (p3 :: (r ++ lc2))) (by
      simp only [ST] at ce v0 pu ⊢
      simp [ce, so2, h0, d4, d3, v0] at ce v0 pu ⊢
      simp [ce, so2, h0, v0, pu]
      exact .rfl) F
  · refine st (s1 := ST d2 d3 d4 .u .u .u (p3 :: (r ++ lnC n T))) (by
      generalize lnC n T = lc at *
      simp only [ST] at ce ⊢
      simp [ce, so2, h0]
      exact .rfl) (fin _ ⟨fun a b => (T0 a b).1, fun a b => (T0 a b).2, Tz, by omega⟩)
end Vm
namespace Vm
open PySem L2 PySem.Spec PyProof.Rows
theorem shares_ok {n : Nat} {T : Nat → Nat → Int} {W : Int} (n2 : n ≤ 12) (W1 : 1 ≤ W) (W2 : W ≤ 5000) (hT : ∀ a b, -1000 ≤ T a b ∧ T a b ≤ 1000) : ∃ τ, f__law_shares [.d (.list (tbI n T)), .d (.int W)] [] = .ok (.d (tbD n τ)) [] ∧ ∀ a b, Tell 20 (τ a b) ((T a b : Rat) / (W : Rat)) := by
  have ch : ∀ z : Int, ∃ d : D, (-1000 ≤ z ∧ z ≤ 1000) → fShareS [.d (.int z), .d (.int W)] [] = .ok (.d d) [] ∧ Tell 20 d ((z : Rat) / (W : Rat)) := fun z => by
    by_cases hz : -1000 ≤ z ∧ z ≤ 1000
    · obtain ⟨p, q, e, s, h⟩ := shareS_ok (top := z) (bot := W) (j := 20) (k := 20) W1 (show z.natAbs < 2 ^ 20 by omega) (show W.natAbs < 2 ^ 20 by omega) (by decide)
      refine ⟨shD p q, fun _ => ⟨e, p, q, rfl, s, ?_⟩⟩
      have h1 := rat_ne W1
      have h2 : (p : Rat) * (W : Rat) = (z : Rat) * (q : Rat) := by rw [← Rat.intCast_mul, ← Rat.intCast_mul, h]
      grind
    · exact ⟨.none, fun h => absurd h hz⟩
  obtain ⟨σ, hσ⟩ := Classical.axiomOfChoice ch
  refine ⟨fun a b => σ (T a b), ?_, fun a b => (hσ _ (hT a b)).2⟩
  let X0 : Sl := .d (.list (tbI n T))
  let X1 : Sl := .d (.int W)
  have lo := lc_for (own := [2]) (ci := ciSeq (cVar 0)) (tg := tgN 2) (el := (cOp1 opTuple (cLc [3] (ciSeq (cVar 2)) (tgN 3) ctYes (cCallP fShareS (lCons (cVar 3) (lCons (cVar 1) lNil)))))) (s := ⟨[X0, X1, .u, .u], []⟩) (s1 := ⟨[X0, X1, .u, .u], []⟩) (xs := List.range n) (F := fun a => PyData.list ((List.range n).map fun b => PyData.int (T a b))) (fun a => PyData.tuple (rwT n (fun a b => σ (T a b)) a)) (by simp [X0]) (by simp; omega) fun a ha => by
    let X2 : Sl := .d (.list ((List.range n).map fun b => PyData.int (T a b)))
    refine ⟨⟨[X0, X1, X2, .u], []⟩, rfl, [X0, X1, X2, .u], ?_⟩
    have li := lc_for (own := [3]) (ci := ciSeq (cVar 2)) (tg := tgN 3) (el := cCallP fShareS (lCons (cVar 3) (lCons (cVar 1) lNil))) (s := ⟨[X0, X1, X2, .u], []⟩) (s1 := ⟨[X0, X1, X2, .u], []⟩) (xs := List.range n) (F := fun b => PyData.int (T a b)) (fun b => σ (T a b)) (by simp [X2]) (by simp; omega) fun b hb => by
      have e := (hσ _ (hT a b)).1
      generalize T a b = z at *
      exact ⟨⟨[X0, X1, X2, .d (.int z)], []⟩, rfl, [X0, X1, X2, .d (.int z)], by simp [X1, e]⟩
    simp [li]
  show f__law_shares [X0, X1] [] = _
  unfold f__law_shares
  rw [runF_s]
  simp [c__law_shares, lo]
/-! ### shifted -/
def chD (q : Nat × Nat × Int) : D := .tuple [.int (q.1 : Nat), .int (q.2.1 : Nat), .int q.2.2]
theorem shifted_ok {B n : Nat} {T : Nat → Nat → Int} {p : Cell} (r : List Cell) {sp : Int} (hp : IsPenL B p) (hB : B < 800000) (n1 : 1 ≤ n) (n2 : n ≤ 12) (s0 : 0 ≤ sp) (s5 : sp ≤ 5) (hT : ∀ a b, 0 ≤ T a b ∧ T a b ≤ 29) :
    ∃ T' p', f__law_shifted [.c 0, .d (.list (tbI n T)), .d (.int sp)] (p :: r) = .ok (.d (.list (tbI n T'))) (p' :: r) ∧ (∀ a b, -1000 ≤ T' a b ∧ T' a b ≤ 1000) ∧ IsPenL (B + 10) p' := by
  suffices h : Ok (f__law_shifted [.c 0, .d (.list (tbI n T)), .d (.int sp)] (p :: r)) fun x m => ∃ T' p', x = .d (.list (tbI n T')) ∧ m = p' :: r ∧ (∀ a b, -1000 ≤ T' a b ∧ T' a b ≤ 1000) ∧ IsPenL (B + 10) p' by
    obtain ⟨_, _, e, T', p', rfl, rfl, h⟩ := h
    exact ⟨T', p', e, h⟩
  let X1 : Sl := .d (.list (tbI n T))
  let X2 : Sl := .d (.int sp)
  show Ok (f__law_shifted [.c 0, X1, X2] (p :: r)) _
  unfold f__law_shifted
  refine run_ok ?_
  unfold c__law_shifted
  let dn : Sl := .d (.int (n : Nat))
  let ST := fun (x3 x4 x5 x6 x7 x8 x9 x10 x11 x12 x13 : Sl) (m : List Cell) => (⟨[.c 0, X1, X2, x3, x4, x5, x6, x7, x8, x9, x10, x11, x12, x13, .u], m⟩ : S)
  have ol : opLen (.d (.list (tbI n T))) = some (.d (.int (n : Nat))) := by
    have := opLen_l (ds := tbI n T)
    rw [this]
    simp
  refine st (s1 := ST dn .u .u .u .u .u .u .u .u .u .u (p :: r)) (by simp [X1, ol, -opLen_l]; exact .rfl) ?_
  have lt := lcN_for (own := [14]) (ci := ciSeq (cVar 1)) (tg := tgN 14) (el := cOp1 opList (cVar 14)) (s := ST dn .u .u .u .u .u .u .u .u .u .u (p :: r)) (s1 := ST dn .u .u .u .u .u .u .u .u .u .u (p :: r)) (xs := List.range n) (F := fun a => PyData.list ((List.range n).map fun b => PyData.int (T a b))) (fun a => (List.range n).map fun b => PyData.int (T a b)) (by simp [ST, X1]) (by simp; omega) fun a m _ => by
    generalize (List.range n).map (fun b => PyData.int (T a b)) = L
    exact ⟨⟨[.c 0, X1, X2, dn, .u, .u, .u, .u, .u, .u, .u, .u, .u, .u, .d (.list L)], m⟩, rfl, [.c 0, X1, X2, dn, .u, .u, .u, .u, .u, .u, .u, .u, .u, .u, .d (.list L)], by simp⟩
  obtain ⟨TL, hTL⟩ : ∃ TL, TL = (List.range n).map fun j => El.c (r.length + 1 + j) := ⟨_, rfl⟩
  let d4 : Sl := .t false TL
  have lt : cLcN [14] (ciSeq (cVar 1)) (tgN 14) (cOp1 opList (cVar 14)) (ST dn .u .u .u .u .u .u .u .u .u .u (p :: r)) = .ok (.t false TL) (ST dn .u .u .u .u .u .u .u .u .u .u (p :: (r ++ lnC n T))) := by
    rw [lt, hTL, List.length_range]
    rfl
  refine st (s1 := ST dn d4 .u .u .u .u .u .u .u .u .u (p :: (r ++ lnC n T))) (by simp only [ST] at lt ⊢; simp [lt]; exact .rfl) ?_
  obtain ⟨i', p1, e1, i0, i1, hp1⟩ := dS (r ++ lnC n T) (n : Int) hp
  obtain ⟨i, rfl⟩ : ∃ i : Nat, i' = (i : Int) := ⟨i'.toNat, by omega⟩
  let d5 : Sl := .d (.int (i : Nat))
  refine st (s1 := ST dn d4 d5 .u .u .u .u .u .u .u .u (p1 :: (r ++ lnC n T))) (by simp [ST, dn, e1]; exact .rfl) ?_
  obtain ⟨j', p2, e2, j0, j1, hp2⟩ := dS (r ++ lnC n T) (n : Int) hp1
  obtain ⟨j, rfl⟩ : ∃ j : Nat, j' = (j : Int) := ⟨j'.toNat, by omega⟩
  let d6 : Sl := .d (.int (j : Nat))
  refine st (s1 := ST dn d4 d5 d6 .u .u .u .u .u .u .u (p2 :: (r ++ lnC n T))) (by simp [ST, dn, e2]; exact .rfl) ?_
  obtain ⟨f', p3, e3, f0, f1, hp3⟩ := dS (r ++ lnC n T) (n : Int) hp2
  obtain ⟨f, rfl⟩ : ∃ f : Nat, f' = (f : Int) := ⟨f'.toNat, by omega⟩
  let d7 : Sl := .d (.int (f : Nat))
  refine st (s1 := ST dn d4 d5 d6 d7 .u .u .u .u .u .u (p3 :: (r ++ lnC n T))) (by simp [ST, dn, e3]; exact .rfl) ?_
  obtain ⟨w', p4, e4, w0, w1, hp4⟩ := dS (r ++ lnC n T) (n : Int) hp3
  obtain ⟨w, rfl⟩ : ∃ w : Nat, w' = (w : Int) := ⟨w'.toNat, by omega⟩
  let d8 : Sl := .d (.int (w : Nat))
  refine st (s1 := ST dn d4 d5 d6 d7 d8 .u .u .u .u .u (p4 :: (r ++ lnC n T))) (by simp [ST, dn, e4]; exact .rfl) ?_
  obtain ⟨m', p5, e5, m0, m1, hp5⟩ := dS (r ++ lnC n T) 3 hp4
  obtain ⟨mu, hmu⟩ : ∃ mu : Int, 1 + m' = mu := ⟨_, rfl⟩
  let d9 : Sl := .d (.int mu)
  refine st (s1 := ST dn d4 d5 d6 d7 d8 d9 .u .u .u .u (p5 :: (r ++ lnC n T))) (by simp [ST, e5, hmu]; exact .rfl) ?_
  let A : Nat × Nat × Int := (i, j, mu)
  have md : opMod (.d (.int sp)) (.d (.int 3)) = some (.d (.int (sp % 3))) := opMod_i (by decide)
  have three : ∀ L0 L1 L2 : D, ∃ L, opIx (.d (.list [L0, L1, L2])) (.d (.int (sp % 3))) = some (.d L) ∧ (L = L0 ∨ L = L1 ∨ L = L2) := fun L0 L1 L2 => by
    have : sp % 3 = 0 ∨ sp % 3 = 1 ∨ sp % 3 = 2 := by omega
    rcases this with h | h | h <;> rw [h]
    · exact ⟨L0, rfl, .inl rfl⟩
    · exact ⟨L1, rfl, .inr (.inl rfl)⟩
    · exact ⟨L2, rfl, .inr (.inr rfl)⟩
  let qs0 : List (Nat × Nat × Int) := [(i, j, mu), (f, j, -mu)]
  let qs1 : List (Nat × Nat × Int) := [(i, j, mu), (i, w, -mu)]
  let qs2 : List (Nat × Nat × Int) := [(i, j, mu)]
  let qs3 : List (Nat × Nat × Int) := [(i, j, mu), (f, w, mu), (i, w, -mu), (f, j, -mu)]
  obtain ⟨L, eL, hL⟩ := three (.list (qs0.map chD)) (.list (qs1.map chD)) (.list (qs2.map chD))
  have okq : ∀ qs : List (Nat × Nat × Int), (qs = qs0 ∨ qs = qs1 ∨ qs = qs2 ∨ qs = qs3) → qs.length ≤ 4 ∧ ∀ q, q ∈ qs → q.1 < n ∧ q.2.1 < n ∧ -3 ≤ q.2.2 ∧ q.2.2 ≤ 3 := fun qs h => by
    rcases h with rfl | rfl | rfl | rfl <;> refine ⟨by simp [qs0, qs1, qs2, qs3], fun q hq => ?_⟩ <;> simp [qs0, qs1, qs2, qs3] at hq
    · rcases hq with rfl | rfl <;> simp <;> omega
    · rcases hq with rfl | rfl <;> simp <;> omega
    · subst hq; simp; omega
    · rcases hq with rfl | rfl | rfl | rfl <;> simp <;> omega
  obtain ⟨qs, hqs, eq0⟩ : ∃ qs : List (Nat × Nat × Int), (qs.length ≤ 4 ∧ ∀ q, q ∈ qs → q.1 < n ∧ q.2.1 < n ∧ -3 ≤ q.2.2 ∧ q.2.2 ≤ 3) ∧ L = .list (qs.map chD) := by
    rcases hL with rfl | rfl | rfl
    · exact ⟨qs0, okq _ (.inl rfl), rfl⟩
    · exact ⟨qs1, okq _ (.inr (.inl rfl)), rfl⟩
    · exact ⟨qs2, okq _ (.inr (.inr (.inl rfl))), rfl⟩
  refine st (s1 := ST dn d4 d5 d6 d7 d8 d9 (.d L) .u .u .u (p5 :: (r ++ lnC n T))) (by
    simp [qs0, qs1, qs2, chD] at eL
    simp [ST, X2, d5, d6, d7, d8, d9, md, eL]
    exact .rfl) ?_
  -- the walk over the changes
  have walk : ∀ qs : List (Nat × Nat × Int), (qs.length ≤ 4 ∧ ∀ q, q ∈ qs → q.1 < n ∧ q.2.1 < n ∧ -3 ≤ q.2.2 ∧ q.2.2 ≤ 3) → Wp (cSeq (cFor (ciSeq (cVar 10)) (tgTup 3 (tgCons (tgN 11) (tgCons (tgN 12) (tgCons (tgN 13) tgNil)))) (cPutL (cIxT (cVar 4) (cVar 11)) (cVar 12) (cOp2 opAdd (cOp2 opIx (cIxT (cVar 4) (cVar 11)) (cVar 12)) (cVar 13)))) (cRet (cFzE 4)))
      (poF (p :: r) fun x m => ∃ T' p', x = .d (.list (tbI n T')) ∧ m = p' :: r ∧ (∀ a b, -1000 ≤ T' a b ∧ T' a b ≤ 1000) ∧ IsPenL (B + 10) p') (ST dn d4 d5 d6 d7 d8 d9 (.d (.list (qs.map chD))) .u .u .u (p5 :: (r ++ lnC n T))) := fun qs hqs => by
    let d10 : Sl := .d (.list (qs.map chD))
    refine w_cut (fun s => ∃ x11 x12 x13 T', s = ST dn d4 d5 d6 d7 d8 d9 d10 x11 x12 x13 (p5 :: (r ++ lnC n T')) ∧ ∀ a b, -1000 ≤ T' a b ∧ T' a b ≤ 1000) ?_ fun s hs => ?_
    · refine w_for (ds := qs.map chD) (s1 := ST dn d4 d5 d6 d7 d8 d9 d10 .u .u .u (p5 :: (r ++ lnC n T))) (fun k s => ∃ x11 x12 x13 T', s = ST dn d4 d5 d6 d7 d8 d9 d10 x11 x12 x13 (p5 :: (r ++ lnC n T')) ∧ ∀ a b, -(3 * (k : Int)) ≤ T' a b ∧ T' a b ≤ 29 + 3 * (k : Int)) (by simp [ST]; exact .rfl) ⟨_, _, _, T, rfl, fun a b => by have := hT a b; omega⟩ (fun k d s hd hk => ?_) fun s hs => by
        obtain ⟨x11, x12, x13, T', h1, h2⟩ := hs
        rw [List.length_map] at h2
        exact ⟨x11, x12, x13, T', h1, fun a b => by have := h2 a b; omega⟩
      obtain ⟨x11, x12, x13, T', rfl, hT'⟩ := hk
      rw [List.getElem?_map] at hd
      obtain ⟨q, hq, rfl⟩ := Option.map_eq_some_iff.mp hd
      obtain ⟨q1, q2, q3, q4⟩ := hqs.2 q (List.mem_of_getElem? hq)
      obtain ⟨a, b, c⟩ := q
      dsimp only at q1 q2 q3 q4
      let d11 : Sl := .d (.int (a : Nat))
      let d12 : Sl := .d (.int (b : Nat))
      let d13 : Sl := .d (.int c)
      refine ⟨ST dn d4 d5 d6 d7 d8 d9 d10 d11 d12 d13 (p5 :: (r ++ lnC n T')), rfl, ?_⟩
      have g := lnC_get (n := n) (T := T') (p := p5) (r := r) q1
      have v0 := elV_c (es := TL) (k := a) (n := r.length + 1 + a) (s := ST dn d4 d5 d6 d7 d8 d9 d10 d11 d12 d13 (p5 :: (r ++ lnC n T'))) (by rw [hTL]; simp [q1])
      have ix : opIx (.d (.list ((List.range n).map fun b => PyData.int (T' a b)))) (.d (.int (b : Nat))) = some (.d (.int (T' a b))) := opIx_l (atI_nat (by omega) (by rw [Int.toNat_natCast]; simp [q2]))
      have pu := putLR_s (n := r.length + 1 + a) (k := (b : Int)) (v := .int (T' a b + c)) (s3 := ST dn d4 d5 d6 d7 d8 d9 d10 d11 d12 d13 (p5 :: (r ++ lnC n T'))) (xs := (List.range n).map fun b => PyData.int (T' a b)) g (by omega) (by simp; omega)
      have es := lnC_set (n := n) (i := a) (j := b) (T := T') (p := p5) (r := r) (v := T' a b + c)
      have pu : putLR (.d (.int (b : Nat))) (.ref (r.length + 1 + a)) (.d (.int (T' a b + c))) (ST dn d4 d5 d6 d7 d8 d9 d10 d11 d12 d13 (p5 :: (r ++ lnC n T'))) = .nx (ST dn d4 d5 d6 d7 d8 d9 d10 d11 d12 d13 (p5 :: (r ++ lnC n (putI T' a b (T' a b + c))))) := by
        rw [pu, ← es, Int.toNat_natCast]
      have hT2 : ∀ x y, -(3 * ((k + 1 : Nat) : Int)) ≤ putI T' a b (T' a b + c) x y ∧ putI T' a b (T' a b + c) x y ≤ 29 + 3 * ((k + 1 : Nat) : Int) := fun x y => by
        have h1 := hT' x y
        have h2 := hT' a b
        unfold putI
        split <;> omega
      have step : cPutL (cIxT (cVar 4) (cVar 11)) (cVar 12) (cOp2 opAdd (cOp2 opIx (cIxT (cVar 4) (cVar 11)) (cVar 12)) (cVar 13)) (ST dn d4 d5 d6 d7 d8 d9 d10 d11 d12 d13 (p5 :: (r ++ lnC n T'))) = .nx (ST dn d4 d5 d6 d7 d8 d9 d10 d11 d12 d13 (p5 :: (r ++ lnC n (putI T' a b (T' a b + c))))) := by
        clear hT2
        generalize lnC n (putI T' a b (T' a b + c)) = lc2 at *
        generalize lnC n T' = lc at *
        generalize (List.range n).map (fun b => PyData.int (T' a b)) = line at *
        simp only [ST] at v0 pu ⊢
        simp [d4, d11, d12, d13] at v0 pu ⊢
        simp [v0, g, ix, pu]
        exact es
      exact st_last step ⟨d11, d12, d13, _, rfl, hT2⟩
    · obtain ⟨x11, x12, x13, T', rfl, hT'⟩ := hs
      obtain ⟨m', ef, em⟩ := fz_lines (i := 4) (n := n) (T := T') (p := p5) (r := r) (v := [.c 0, X1, X2, dn, d4, d5, d6, d7, d8, d9, d10, x11, x12, x13, .u]) hTL rfl
      refine w_ret (x := .d (.list (tbI n T'))) (s1 := ⟨[.c 0, X1, X2, dn, .d (.list (tbI n T')), d5, d6, d7, d8, d9, d10, x11, x12, x13, .u], m'⟩) (by simp only [ST]; rw [ef]; exact .rfl) (ok_d ⟨T', p5, rfl, ?_, hT', hp5.mono (by omega)⟩)
      show m'.take (p :: r).length = _
      rw [List.length_cons]
      exact em
  by_cases h2 : sp > 2
  · refine st (s1 := ST dn d4 d5 d6 d7 d8 d9 (.d (.list (qs3.map chD))) .u .u .u (p5 :: (r ++ lnC n T))) (by simp [ST, X2, d5, d6, d7, d8, d9, h2, qs3, chD]; exact .rfl) ?_
    exact walk qs3 (okq _ (.inr (.inr (.inr rfl))))
  · refine st (s1 := ST dn d4 d5 d6 d7 d8 d9 (.d L) .u .u .u (p5 :: (r ++ lnC n T))) (by simp [ST, X2, h2]; exact .rfl) ?_
    rw [eq0]
    exact walk qs hqs
end Vm
namespace Vm
open PySem L2 PySem.Spec PyProof.Rows
/-! ### all whole numbers inside are small -/
mutual
def sm (K : Nat) : D → Prop
  | .int i => Bs K i
  | .list xs => smAll K xs
  | .tuple xs => smAll K xs
  | _ => True
def smAll (K : Nat) : List D → Prop
  | [] => True
  | x :: xs => sm K x ∧ smAll K xs
end
theorem smAll_mem {K : Nat} : ∀ {xs : List D}, smAll K xs ↔ ∀ x, x ∈ xs → sm K x
  | [] => by simp [smAll]
  | x :: xs => by
    rw [smAll, smAll_mem (xs := xs)]
    simp
theorem sm_tup {K : Nat} {xs : List D} : sm K (.tuple xs) ↔ ∀ x, x ∈ xs → sm K x := by rw [sm, smAll_mem]
theorem sm_lst {K : Nat} {xs : List D} : sm K (.list xs) ↔ ∀ x, x ∈ xs → sm K x := by rw [sm, smAll_mem]
theorem sm_bd {K : Nat} {d : D} (h : sm K d) : BdE K d := ⟨fun rows e ps hps p q hm => by
  subst e
  have h1 := sm_tup.mp (sm_tup.mp (sm_tup.mp h _ hps) _ hm)
  have hp := h1 (.int p) (by simp)
  have hq := h1 (.int q) (by simp)
  rw [sm] at hp hq
  exact ⟨hp, hq⟩⟩
structure Pt (b : Bool) (d : D) : Prop where
  kd : Kd b 400 2 d
  sm : sm 40 d
structure Rw (b : Bool) (d : D) : Prop where
  kd : Kd b 6000 3 d
  sm : sm 40 d
structure Th (b : Bool) (d : D) : Prop where
  kd : Kd b 300000 6 d
  sm : sm 40 d
theorem row_mk {b : Bool} {xs : List D} (hl : xs.length ≤ 13) (h : ∀ x, x ∈ xs → Pt b x) : Rw b (.tuple xs) := by
  refine ⟨(Kd.tuple (n := 400) (m := 2) fun d hd => (h d hd).kd).mono ?_ (by decide), sm_tup.mpr fun x hx => (h x hx).sm⟩
  have := Nat.mul_le_mul_right (400 + 2) hl
  omega
theorem rowL_mk {xs : List D} (hl : xs.length ≤ 13) (h : ∀ x, x ∈ xs → Pt true x) : Rw true (.list xs) := by
  refine ⟨(Kd.list (n := 400) (m := 2) fun d hd => (h d hd).kd).mono ?_ (by decide), sm_lst.mpr fun x hx => (h x hx).sm⟩
  have := Nat.mul_le_mul_right (400 + 2) hl
  omega
theorem thing_mk {b : Bool} {xs : List D} (hl : xs.length ≤ 13) (h : ∀ x, x ∈ xs → Rw b x) : Kd b 100000 4 (.tuple xs) ∧ sm 40 (.tuple xs) := by
  refine ⟨(Kd.tuple (n := 6000) (m := 3) fun d hd => (h d hd).kd).mono ?_ (by decide), sm_tup.mpr fun x hx => (h x hx).sm⟩
  have := Nat.mul_le_mul_right (6000 + 2) hl
  omega
theorem thingL_mk {xs : List D} (hl : xs.length ≤ 13) (h : ∀ x, x ∈ xs → Rw true x) : Kd true 100000 4 (.list xs) ∧ sm 40 (.list xs) := by
  refine ⟨(Kd.list (n := 6000) (m := 3) fun d hd => (h d hd).kd).mono ?_ (by decide), sm_lst.mpr fun x hx => (h x hx).sm⟩
  have := Nat.mul_le_mul_right (6000 + 2) hl
  omega
theorem Pt.rw' {b : Bool} {d : D} (h : Pt b d) : Rw b d := ⟨h.kd.mono (by decide) (by decide), h.sm⟩
theorem Rw.th {b : Bool} {d : D} (h : Rw b d) : Th b d := ⟨h.kd.mono (by decide) (by decide), h.sm⟩
/-! ### the parts -/
theorem b_int {b : Bool} {z : Int} (h : -10000000 ≤ z ∧ z ≤ 10000000) : Kd b 60 0 (.int z) ∧ sm 40 (.int z) := by
  have hb : Bs 40 z := by
    show z.natAbs < 2 ^ 40
    omega
  exact ⟨(Kd.int hb (by decide)).mono (by decide) (by decide), by rw [sm]; exact hb⟩
theorem b_bool {b c : Bool} : Kd b 60 0 (.bool c) ∧ sm 40 (.bool c) := ⟨Kd.bool.mono (by decide) (by decide), by simp [sm]⟩
theorem b_none {b : Bool} : Kd b 60 0 .none ∧ sm 40 .none := ⟨Kd.none.mono (by decide) (by decide), by simp [sm]⟩
theorem pt_base {b : Bool} {d : D} (h : Kd b 60 0 d ∧ sm 40 d) : Pt b d := ⟨h.1.mono (by decide) (by decide), h.2⟩
theorem pt_tup {b : Bool} {xs : List D} (hl : xs.length ≤ 3) (h : ∀ x, x ∈ xs → Kd b 60 0 x ∧ sm 40 x) : Pt b (.tuple xs) := by
  refine ⟨(Kd.tuple (n := 60) (m := 0) fun d hd => (h d hd).1).mono ?_ (by decide), sm_tup.mpr fun x hx => (h x hx).2⟩
  have := Nat.mul_le_mul_right (60 + 2) hl
  omega
theorem pt_lst {xs : List D} (hl : xs.length ≤ 3) (h : ∀ x, x ∈ xs → Kd true 60 0 x ∧ sm 40 x) : Pt true (.list xs) := by
  refine ⟨(Kd.list (n := 60) (m := 0) fun d hd => (h d hd).1).mono ?_ (by decide), sm_lst.mpr fun x hx => (h x hx).2⟩
  have := Nat.mul_le_mul_right (60 + 2) hl
  omega
theorem list_ix {L : List D} {v : Int} {n : Nat} (hl : L.length = n) (h0 : 0 ≤ v) (h1 : v < (n : Int)) : ∃ d, d ∈ L ∧ opIx (.d (.list L)) (.d (.int v)) = some (.d d) := by
  obtain ⟨k, rfl⟩ : ∃ k : Nat, v = (k : Int) := ⟨v.toNat, by omega⟩
  have g := List.getElem?_eq_getElem (show k < L.length by omega)
  exact ⟨_, List.getElem_mem _, opIx_l (atI_nat (by omega) (by rw [Int.toNat_natCast]; exact g))⟩
theorem oddShare_ok {B : Nat} {p : Cell} (r : List Cell) {x y : Int} (hp : IsPenL B p) (hB : B < 800000) (hx : -2000000 ≤ x ∧ x ≤ 2000000) (hy : -2000000 ≤ y ∧ y ≤ 2000000) : ∃ d p', f__law_odd_share [.c 0, .d (.tuple [.int x, .int y])] (p :: r) = .ok (.d d) (p' :: r) ∧ (∃ b, Pt b d) ∧ IsPenL (B + 1) p' := by
  suffices h : Ok (f__law_odd_share [.c 0, .d (.tuple [.int x, .int y])] (p :: r)) fun a m => ∃ d p', a = .d d ∧ m = p' :: r ∧ (∃ b, Pt b d) ∧ IsPenL (B + 1) p' by
    obtain ⟨_, _, e, d, p', rfl, rfl, h⟩ := h
    exact ⟨d, p', e, h⟩
  let X1 : Sl := .d (.tuple [.int x, .int y])
  show Ok (f__law_odd_share [.c 0, X1] (p :: r)) _
  unfold f__law_odd_share
  refine run_ok ?_
  unfold c__law_odd_share
  let d2 : Sl := .d (.int x)
  let d3 : Sl := .d (.int y)
  refine st (s1 := ⟨[.c 0, X1, d2, d3, .u], p :: r⟩) (by simp [X1]; exact .rfl) ?_
  have m1 : opMulV (.d (.int 2)) (.d (.int x)) = some (.d (.int (2 * x))) := opMul_b (by omega) (by omega) (by omega) (by omega)
  have m2 : opMulV (.d (.int 2)) (.d (.int y)) = some (.d (.int (2 * y))) := opMul_b (by omega) (by omega) (by omega) (by omega)
  obtain ⟨nx, hnx⟩ : ∃ z : Int, 0 - x = z := ⟨_, rfl⟩
  obtain ⟨ny, hny⟩ : ∃ z : Int, 0 - y = z := ⟨_, rfl⟩
  let L1 : List D := [.tuple [.int (2 * x), .int (2 * y)], .tuple [.int (-x), .int (-y)], .tuple [.int (x - y), .int y], .list [.int x, .int y], .tuple [.int x]]
  refine st (s1 := ⟨[.c 0, X1, d2, d3, .d (.list L1)], p :: r⟩) (by simp [d2, d3, L1, m1, m2]; exact .rfl) ?_
  have os : opStr (.d (.int x)) = some (.d (.str (PyData.int x).shown)) := opStr_i ((b_int (b := true) (z := x) (by omega)).1.ok (by decide) (by decide))
  let L2 : List D := [.tuple [.int x, .int y, .int 1], .int x, .none, .tuple [.bool (decide (x = 1)), .int y], .tuple [.int x, .bool (decide (y = 1))], .tuple [.int 0, .int 2], .str (PyData.int x).shown, .tuple [.int x, .int 0]]
  have a1 := opAdd_l (xs := L1) (ys := L2) (by simp [L1, L2])
  refine st (s1 := ⟨[.c 0, X1, d2, d3, .d (.list (L1 ++ L2))], p :: r⟩) (by
    generalize L1 = l1 at *
    simp only [L2] at a1 ⊢
    simp [d2, d3, os, a1]
    exact .rfl) ?_
  let L3 : List D := [.tuple [], .dict [], .tuple [.int x, .none]]
  have a2 := opAdd_l (xs := L1 ++ L2) (ys := L3) (by simp [L1, L2, L3])
  refine st (s1 := ⟨[.c 0, X1, d2, d3, .d (.list ((L1 ++ L2) ++ L3))], p :: r⟩) (by
    generalize L1 ++ L2 = l1 at *
    simp only [L3] at a2 ⊢
    simp [d2, d3, a2]
    exact .rfl) ?_
  obtain ⟨v, p1, e1, v0, v1, hp1⟩ := dS r 16 hp
  obtain ⟨d, hd, ex⟩ := list_ix (L := (L1 ++ L2) ++ L3) (n := 16) (by simp [L1, L2, L3]) v0 v1
  have ok : ∃ b, Pt b d := by
    simp [L1, L2, L3] at hd
    rcases hd with rfl | rfl | rfl | rfl | rfl | rfl | rfl | rfl | rfl | rfl | rfl | rfl | rfl | rfl | rfl | rfl
    · exact ⟨true, pt_tup (by simp) fun z hz => by
        simp at hz
        rcases hz with rfl | rfl
        · exact b_int (by omega)
        · exact b_int (by omega)⟩
    · exact ⟨true, pt_tup (by simp) fun z hz => by
        simp at hz
        rcases hz with rfl | rfl
        · exact b_int (by omega)
        · exact b_int (by omega)⟩
    · exact ⟨true, pt_tup (by simp) fun z hz => by
        simp at hz
        rcases hz with rfl | rfl
        · exact b_int (by omega)
        · exact b_int (by omega)⟩
    · exact ⟨true, pt_lst (by simp) fun z hz => by
        simp at hz
        rcases hz with rfl | rfl
        · exact b_int (by omega)
        · exact b_int (by omega)⟩
    · exact ⟨true, pt_tup (by simp) fun z hz => by
        simp at hz
        subst hz
        exact b_int (by omega)⟩
    · exact ⟨true, pt_tup (by simp) fun z hz => by
        simp at hz
        rcases hz with rfl | rfl | rfl
        · exact b_int (by omega)
        · exact b_int (by omega)
        · exact b_int (by omega)⟩
    · exact ⟨true, pt_base (b_int (by omega))⟩
    · exact ⟨true, pt_base b_none⟩
    · exact ⟨true, pt_tup (by simp) fun z hz => by
        simp at hz
        rcases hz with rfl | rfl
        · exact b_bool
        · exact b_int (by omega)⟩
    · exact ⟨true, pt_tup (by simp) fun z hz => by
        simp at hz
        rcases hz with rfl | rfl
        · exact b_int (by omega)
        · exact b_bool⟩
    · exact ⟨true, pt_tup (by simp) fun z hz => by
        simp at hz
        rcases hz with rfl | rfl
        · exact b_int (by omega)
        · exact b_int (by omega)⟩
    · exact ⟨true, ((Kd.strI (k := 25) (i := x) (show x.natAbs < 2 ^ 25 by omega) (by decide)).mono (by decide) (by decide)), by simp [sm]⟩
    · exact ⟨true, pt_tup (by simp) fun z hz => by
        simp at hz
        rcases hz with rfl | rfl
        · exact b_int (by omega)
        · exact b_int (by omega)⟩
    · exact ⟨true, pt_tup (by simp) fun z hz => by simp at hz⟩
    · exact ⟨false, Kd.dict0.mono (by decide) (by decide), by simp [sm]⟩
    · exact ⟨true, pt_tup (by simp) fun z hz => by
        simp at hz
        rcases hz with rfl | rfl
        · exact b_int (by omega)
        · exact b_none⟩
  generalize (L1 ++ L2) ++ L3 = LL at *
  exact w_ret (x := .d d) (s1 := ⟨[.c 0, X1, d2, d3, .d (.list LL)], p1 :: r⟩) (by simp [e1, ex]; exact .rfl) (ok_d ⟨d, p1, rfl, by simp, ok, hp1⟩)
theorem put_ok {xs : List D} {k : Nat} {d : D} (hl : xs.length ≤ 1000) : f__law_put [.d (.tuple xs), .d (.int (k : Nat)), .d d] [] = .ok (.d (.tuple ((xs.take k ++ [d]) ++ xs.drop (k + 1)))) [] := by
  have c1 := cutD_to (xs := xs) (k := (k : Int)) (by omega)
  have c2 := cutD_from (xs := xs) (k := (k : Int) + 1) (by omega)
  rw [Int.toNat_natCast] at c1
  rw [show ((k : Int) + 1).toNat = k + 1 by omega] at c2
  have l1 : (xs.take k).length ≤ 1000 := by rw [List.length_take]; omega
  have l2 : (xs.drop (k + 1)).length ≤ 1000 := by rw [List.length_drop]; omega
  have a1 := opAdd_t (xs := xs.take k) (ys := [d]) (by simp; omega)
  have a2 := opAdd_t (xs := xs.take k ++ [d]) (ys := xs.drop (k + 1)) (by simp; omega)
  generalize xs.take k = t1 at *
  generalize xs.drop (k + 1) = t2 at *
  let X0 : Sl := .d (.tuple xs)
  let X2 : Sl := .d d
  show f__law_put [X0, .d (.int (k : Nat)), X2] [] = _
  unfold f__law_put
  rw [runF_s]
  simp [c__law_put, X0, X2, c1, c2, a1, a2, -List.append_assoc]
end Vm
namespace Vm
open PySem L2 PySem.Spec PyProof.Rows
theorem mem_put {α : Type} {xs : List α} {k : Nat} {d x : α} (h : x ∈ (xs.take k ++ [d]) ++ xs.drop (k + 1)) : x = d ∨ x ∈ xs := by
  rcases List.mem_append.mp h with h | h
  · rcases List.mem_append.mp h with h | h
    · exact .inr (List.mem_of_mem_take h)
    · simp at h
      exact .inl h
  · exact .inr (List.mem_of_mem_drop h)
theorem len_put {α : Type} {xs : List α} {k : Nat} {d : α} (hl : xs.length ≤ 12) : ((xs.take k ++ [d]) ++ xs.drop (k + 1)).length ≤ 13 := by
  rw [List.length_append, List.length_append, List.length_take, List.length_drop, List.length_singleton]
  omega
theorem cutm {xs : List D} {x : D} (h : x ∈ cutD xs none (some (-1))) : x ∈ xs := by
  unfold cutD at h
  first | exact List.mem_of_mem_take h | exact List.mem_of_mem_take (List.mem_of_mem_drop h) | exact List.mem_of_mem_drop (List.mem_of_mem_take h)
theorem cutl {xs : List D} : (cutD xs none (some (-1))).length ≤ xs.length := by
  unfold cutD
  simp
  try omega
structure Good (n : Nat) (τ : Nat → Nat → D) : Prop where
  ex : ∀ a b, ∃ x y : Int, τ a b = .tuple [.int x, .int y] ∧ (-2000000 ≤ x ∧ x ≤ 2000000) ∧ (-2000000 ≤ y ∧ y ≤ 2000000)
theorem Good.pt {n : Nat} {τ : Nat → Nat → D} (h : Good n τ) (a b : Nat) (β : Bool) : Pt β (τ a b) := by
  obtain ⟨x, y, e, hx, hy⟩ := h.ex a b
  rw [e]
  exact pt_tup (by simp) fun z hz => by
    simp at hz
    rcases hz with rfl | rfl
    · exact b_int (by omega)
    · exact b_int (by omega)
theorem odd_ok {B n : Nat} {τ : Nat → Nat → D} {p : Cell} (r : List Cell) (hp : IsPenL B p) (hB : B < 700000) (n1 : 1 ≤ n) (n2 : n ≤ 12) (G : Good n τ) : ∃ d p', f__law_odd [.c 0, .d (tbD n τ)] (p :: r) = .ok (.d d) (p' :: r) ∧ (∃ b, Th b d) ∧ IsPenL (B + 10) p' := by
  suffices h : Ok (f__law_odd [.c 0, .d (tbD n τ)] (p :: r)) fun a m => ∃ d p', a = .d d ∧ m = p' :: r ∧ (∃ b, Th b d) ∧ IsPenL (B + 10) p' by
    obtain ⟨_, _, e, d, p', rfl, rfl, h⟩ := h
    exact ⟨d, p', e, h⟩
  obtain ⟨rows, hrows⟩ : ∃ rows, (List.range n).map (fun a => PyData.tuple (rwT n τ a)) = rows := ⟨_, rfl⟩
  have rl : rows.length = n := by rw [← hrows]; simp
  have rget : ∀ a, a < n → rows[a]? = some (.tuple (rwT n τ a)) := fun a ha => by rw [← hrows]; simp [ha]
  have rowOk : ∀ a β, Rw β (.tuple (rwT n τ a)) := fun a β => row_mk (by simp; omega) fun x hx => by
    obtain ⟨b, _, rfl⟩ := List.mem_map.mp hx
    exact G.pt a b β
  have rmem : ∀ x β, x ∈ rows → Rw β x := fun x β hx => by
    rw [← hrows] at hx
    obtain ⟨a, _, rfl⟩ := List.mem_map.mp hx
    exact rowOk a β
  have et : tbD n τ = .tuple rows := by rw [← hrows]
  rw [et]
  let X1 : Sl := .d (.tuple rows)
  show Ok (f__law_odd [.c 0, X1] (p :: r)) _
  unfold f__law_odd
  refine run_ok ?_
  unfold c__law_odd
  let ST := fun (x2 x3 x4 x5 x6 x7 x8 : Sl) (m : List Cell) => (⟨[.c 0, X1, x2, x3, x4, x5, x6, x7, x8, .u, .u], m⟩ : S)
  have ol : opLen (.d (.tuple rows)) = some (.d (.int (n : Nat))) := by rw [opLen_t, rl]
  obtain ⟨w, p1, e1, w0, w1, hp1⟩ := dS r 5 hp
  let d2 : Sl := .d (.int w)
  refine st (s1 := ST d2 .u .u .u .u .u .u (p1 :: r)) (by simp [ST, e1]; exact .rfl) ?_
  obtain ⟨a', p2, e2, a0, a1, hp2⟩ := dS r (n : Int) hp1
  obtain ⟨a, rfl⟩ : ∃ a : Nat, a' = (a : Int) := ⟨a'.toNat, by omega⟩
  let d3 : Sl := .d (.int (a : Nat))
  refine st (s1 := ST d2 d3 .u .u .u .u .u (p2 :: r)) (by simp [ST, X1, ol, e2, -opLen_t]; exact .rfl) ?_
  obtain ⟨s', p3, e3, s0, s1', hp3⟩ := dS r (n : Int) hp2
  obtain ⟨s, rfl⟩ : ∃ s : Nat, s' = (s : Int) := ⟨s'.toNat, by omega⟩
  let d4 : Sl := .d (.int (s : Nat))
  refine st (s1 := ST d2 d3 d4 .u .u .u .u (p3 :: r)) (by simp [ST, X1, ol, e3, -opLen_t]; exact .rfl) ?_
  have ixr : ∀ a, a < n → opIx (.d (.tuple rows)) (.d (.int (a : Nat))) = some (.d (.tuple (rwT n τ a))) := fun a ha => opIx_t (atI_nat (by omega) (by rw [Int.toNat_natCast]; exact rget a ha))
  have ix5 := ixr a (by omega)
  have ixs := ixr s (by omega)
  obtain ⟨line, hline⟩ : ∃ line, rwT n τ a = line := ⟨_, rfl⟩
  have ll : line.length = n := by rw [← hline]; simp
  have lmem : ∀ x β, x ∈ line → Pt β x := fun x β hx => by
    rw [← hline] at hx
    obtain ⟨b, _, rfl⟩ := List.mem_map.mp hx
    exact G.pt a b β
  have ixp : opIx (.d (.tuple line)) (.d (.int (s : Nat))) = some (.d (τ a s)) := by
    rw [← hline]
    exact rwt_ix (by omega)
  rw [hline] at ix5
  let d5 : Sl := .d (.tuple line)
  refine st (s1 := ST d2 d3 d4 d5 .u .u .u (p3 :: r)) (by simp [ST, X1, d3, ix5]; exact .rfl) ?_
  by_cases h2 : w < 2
  · refine w_sif (x := true) (s1 := ST d2 d3 d4 d5 .u .u .u (p3 :: r)) (by simp [ST, d2, h2]; exact .rfl) (fun _ => ?_) fun z => nomatch z
    obtain ⟨x, y, exy, hx, hy⟩ := G.ex a s
    obtain ⟨o, p4, e4, ⟨β, ho⟩, hp4⟩ := oddShare_ok r hp3 (by omega) hx hy
    rw [exy] at ixp
    have u1 := put_ok (xs := line) (k := s) (d := o) (by omega)
    have u2 := put_ok (xs := rows) (k := a) (d := .tuple ((line.take s ++ [o]) ++ line.drop (s + 1))) (by omega)
    have good : Th β (.tuple ((rows.take a ++ [.tuple ((line.take s ++ [o]) ++ line.drop (s + 1))]) ++ rows.drop (a + 1))) := by
      have h := thing_mk (b := β) (xs := (rows.take a ++ [.tuple ((line.take s ++ [o]) ++ line.drop (s + 1))]) ++ rows.drop (a + 1)) (len_put (by omega)) fun x hx => by
        rcases mem_put hx with rfl | hx
        · exact row_mk (len_put (by omega)) fun y hy => by
            rcases mem_put hy with rfl | hy
            · exact ho
            · exact lmem y β hy
        · exact rmem x β hx
      exact ⟨h.1.mono (by decide) (by decide), h.2⟩
    generalize PyData.tuple ((line.take s ++ [o]) ++ line.drop (s + 1)) = nl at *
    generalize PyData.tuple ((rows.take a ++ [nl]) ++ rows.drop (a + 1)) = nt at *
    exact w_retS (x := .d nt) (s1 := ST d2 d3 d4 d5 .u .u .u (p4 :: r)) (by simp [ST, X1, d3, d4, d5, ixp, e4, u1, u2]; exact .rfl) (ok_d ⟨nt, p4, rfl, by simp [ST], ⟨β, good⟩, hp4.mono (by omega)⟩)
  refine st (s1 := ST d2 d3 d4 d5 .u .u .u (p3 :: r)) (by simp [ST, d2, h2]; exact .rfl) ?_
  by_cases h22 : w = 2
  · refine w_sif (x := true) (s1 := ST d2 d3 d4 d5 .u .u .u (p3 :: r)) (by simp [ST, d2, h22]; exact .rfl) (fun _ => ?_) fun z => nomatch z
    refine w_assoc ?_
    have ad := opAdd_t (xs := line) (ys := [PyData.tuple [.int 0, .int 1]]) (by simp; omega)
    obtain ⟨rs, hrs⟩ : ∃ rs, rwT n τ s = rs := ⟨_, rfl⟩
    rw [hrs] at ixs
    let L : List D := [.list line, .tuple (cutD line none (some (-1))), .tuple (line ++ [PyData.tuple [.int 0, .int 1]]), .tuple line.reverse, .none, .tuple rs, .tuple [], τ a s]
    refine st (s1 := ST d2 d3 d4 d5 (.d (.list L)) .u .u (p3 :: r)) (by
      simp [ST, X1, d4, d5, ad, ixs, ixp, L]
      exact .rfl) ?_
    obtain ⟨v, p4, e4, v0, v1, hp4⟩ := dS r 8 hp3
    obtain ⟨o, ho, ex⟩ := list_ix (L := L) (n := 8) (by simp [L]) v0 v1
    have u2 := put_ok (xs := rows) (k := a) (d := o) (by omega)
    have ok : ∃ β, Rw β o := by
      simp [L] at ho
      rcases ho with rfl | rfl | rfl | rfl | rfl | rfl | rfl | rfl
      · exact ⟨true, rowL_mk (by omega) fun x hx => lmem x _ hx⟩
      · exact ⟨true, row_mk (by have := cutl (xs := line); omega) fun x hx => lmem x _ (cutm hx)⟩
      · exact ⟨true, row_mk (by simp; omega) fun x hx => by
          rcases List.mem_append.mp hx with hx | hx
          · exact lmem x _ hx
          · simp at hx
            subst hx
            exact pt_tup (by simp) fun z hz => by
              simp at hz
              rcases hz with rfl | rfl
              · exact b_int (by omega)
              · exact b_int (by omega)⟩
      · exact ⟨true, row_mk (by simp; omega) fun x hx => lmem x _ (List.mem_reverse.mp hx)⟩
      · exact ⟨true, (pt_base b_none).rw'⟩
      · exact ⟨true, hrs ▸ rowOk s true⟩
      · exact ⟨true, row_mk (by simp) fun x hx => by simp at hx⟩
      · exact ⟨true, (G.pt a s true).rw'⟩
    obtain ⟨β, ho'⟩ := ok
    have good : Th β (.tuple ((rows.take a ++ [o]) ++ rows.drop (a + 1))) := by
      have h := thing_mk (b := β) (xs := (rows.take a ++ [o]) ++ rows.drop (a + 1)) (len_put (by omega)) fun x hx => by
        rcases mem_put hx with rfl | hx
        · exact ho'
        · exact rmem x β hx
      exact ⟨h.1.mono (by decide) (by decide), h.2⟩
    generalize PyData.tuple ((rows.take a ++ [o]) ++ rows.drop (a + 1)) = nt at *
    clear ho
    generalize L = LL at *
    exact w_retS (x := .d nt) (s1 := ST d2 d3 d4 d5 (.d (.list LL)) .u .u (p4 :: r)) (by simp [ST, X1, d3, e4, ex, u2]; exact .rfl) (ok_d ⟨nt, p4, rfl, by simp [ST], ⟨β, good⟩, hp4.mono (by omega)⟩)
  refine st (s1 := ST d2 d3 d4 d5 .u .u .u (p3 :: r)) (by simp [ST, d2, h22]; exact .rfl) ?_
  have r1 := ciR1_n (c := cOp1 opLen (cVar 1)) (s := ST d2 d3 d4 d5 .u .u .u (p3 :: r)) (s1 := ST d2 d3 d4 d5 .u .u .u (p3 :: r)) (n := n) (by simp [ST, X1, ol, -opLen_t]) (by omega)
  have lo := lc_for (own := [9]) (tg := tgN 9) (el := (cOp1 opTuple (cLc [10] (ciSeq (cVar 1)) (tgN 10) ctYes (cOp2 opIx (cVar 10) (cVar 9))))) (fun k : Nat => PyData.tuple ((List.range n).map fun a => τ a k)) r1 (by simp; omega) fun k hk => by
    have hk := List.mem_range.mp hk
    let SK := fun (x10 : Sl) => (⟨[.c 0, X1, d2, d3, d4, d5, .u, .u, .u, .d (.int (k : Nat)), x10], p3 :: r⟩ : S)
    have li := lc_for (own := [10]) (ci := ciSeq (cVar 1)) (tg := tgN 10) (el := cOp2 opIx (cVar 10) (cVar 9)) (s := SK .u) (s1 := SK .u) (xs := List.range n) (F := fun a => PyData.tuple (rwT n τ a)) (fun a => τ a k) (by rw [hrows]; simp [SK, X1]) (by simp; omega) fun a _ => by
      have e := rwt_ix (n := n) (τ := τ) (a := a) hk
      generalize PyData.tuple (rwT n τ a) = z at *
      exact ⟨SK (.d z), rfl, [.c 0, X1, d2, d3, d4, d5, .u, .u, .u, .d (.int (k : Nat)), .d z], by simp [SK, e]⟩
    generalize (List.range n).map (fun a => τ a k) = col at *
    refine ⟨SK .u, rfl, [.c 0, X1, d2, d3, d4, d5, .u, .u, .u, .d (.int (k : Nat)), .u], ?_⟩
    simp only [SK] at li ⊢
    simp [li]
    rfl
  obtain ⟨cols, hcols⟩ : ∃ cols, (List.range n).map (fun k : Nat => PyData.tuple ((List.range n).map fun a => τ a k)) = cols := ⟨_, rfl⟩
  rw [hcols] at lo
  have cl : cols.length = n := by rw [← hcols]; simp
  have cmem : ∀ x, x ∈ cols → Rw true x := fun x hx => by
    rw [← hcols] at hx
    obtain ⟨k, _, rfl⟩ := List.mem_map.mp hx
    exact row_mk (by simp; omega) fun y hy => by
      obtain ⟨a, _, rfl⟩ := List.mem_map.mp hy
      exact G.pt a k true
  let d7 : Sl := .d (.tuple cols)
  refine st (s1 := ST d2 d3 d4 d5 .u d7 .u (p3 :: r)) (by simp only [ST] at lo ⊢; simp [lo]; exact .rfl) ?_
  have c1 := cutD_to (xs := rows) (k := (a : Int)) (by omega)
  have c2 := cutD_from (xs := rows) (k := (a : Int) + 1) (by omega)
  have c3 := cutD_from (xs := rows) (k := (a : Int)) (by omega)
  rw [Int.toNat_natCast] at c1 c3
  rw [show ((a : Int) + 1).toNat = a + 1 by omega] at c2
  have lt1 : (rows.take a).length ≤ 12 := by rw [List.length_take]; omega
  have lt2 : (rows.drop (a + 1)).length ≤ 12 := by rw [List.length_drop]; omega
  have lt3 : (rows.drop a).length ≤ 12 := by rw [List.length_drop]; omega
  have ad1 := opAdd_t (xs := rows.take a) (ys := rows.drop (a + 1)) (by omega)
  have ad2 := opAdd_t (xs := rows) (ys := [PyData.tuple line]) (by simp; omega)
  have ad3 := opAdd_t (xs := rows.drop a) (ys := rows.take a) (by omega)
  let L1 : List D := [.list rows, .tuple (rows.take a ++ rows.drop (a + 1)), .tuple (rows ++ [.tuple line]), .tuple rows.reverse, .tuple cols, .list [], .tuple [], .none, .str "pairing", .int 7]
  refine st (s1 := ST d2 d3 d4 d5 .u d7 (.d (.list L1)) (p3 :: r)) (by
    simp [ST, X1, d3, d5, d7, c1, c2, ad1, ad2, L1]
    exact .rfl) ?_
  let M2 : List D := [.dict [(.int 0, .tuple rows)], .tuple [.tuple rows], .tuple (rows.drop a ++ rows.take a), .bool true]
  have ad4 := opAdd_l (xs := L1) (ys := M2) (by simp [L1, M2])
  obtain ⟨v, p4, e4, v0, v1, hp4⟩ := dS r 14 hp3
  obtain ⟨o, ho, ex⟩ := list_ix (L := L1 ++ M2) (n := 14) (by simp [L1, M2]) v0 v1
  have th : ∀ {b : Bool} {xs : List D}, xs.length ≤ 13 → (∀ x, x ∈ xs → Rw b x) → Th b (.tuple xs) := fun hl h => ⟨(thing_mk hl h).1.mono (by decide) (by decide), (thing_mk hl h).2⟩
  have thL : ∀ {xs : List D}, xs.length ≤ 13 → (∀ x, x ∈ xs → Rw true x) → Th true (.list xs) := fun hl h => ⟨(thingL_mk hl h).1.mono (by decide) (by decide), (thingL_mk hl h).2⟩
  have me := fun b => thing_mk (b := b) (xs := rows) (by omega) fun x hx => rmem x b hx
  have lineOk : Rw true (.tuple line) := row_mk (by omega) fun x hx => lmem x _ hx
  have ok : ∃ β, Th β o := by
    simp [L1, M2] at ho
    rcases ho with rfl | rfl | rfl | rfl | rfl | rfl | rfl | rfl | rfl | rfl | rfl | rfl | rfl | rfl
    · exact ⟨true, thL (by omega) fun x hx => rmem x _ hx⟩
    · exact ⟨true, th (by rw [List.length_append, List.length_take, List.length_drop]; omega) fun x hx => by
        rcases List.mem_append.mp hx with hx | hx
        · exact rmem x _ (List.mem_of_mem_take hx)
        · exact rmem x _ (List.mem_of_mem_drop hx)⟩
    · exact ⟨true, th (by simp; omega) fun x hx => by
        rcases List.mem_append.mp hx with hx | hx
        · exact rmem x _ hx
        · simp at hx
          subst hx
          exact lineOk⟩
    · exact ⟨true, th (by simp; omega) fun x hx => rmem x _ (List.mem_reverse.mp hx)⟩
    · exact ⟨true, th (by omega) cmem⟩
    · exact ⟨true, thL (by simp) fun x hx => by simp at hx⟩
    · exact ⟨true, th (by simp) fun x hx => by simp at hx⟩
    · exact ⟨true, (pt_base b_none).rw'.th⟩
    · exact ⟨true, (Kd.str (n := 20) (asc_of _) (by decide)).mono (by decide) (by decide), by simp [sm]⟩
    · exact ⟨true, (pt_base (b_int (by omega))).rw'.th⟩
    · exact ⟨false, (Kd.dict (n := 100000) (m := 4) fun p hp => by
        simp at hp
        subst hp
        exact ⟨b_int (b := false) (z := 0) (by omega) |>.1.mono (by decide) (by decide), (me false).1⟩).mono (by simp) (by decide), by simp [sm]⟩
    · exact ⟨true, (Kd.tuple (n := 100000) (m := 4) fun x hx => by
        simp at hx
        subst hx
        exact (me true).1).mono (by simp) (by decide), sm_tup.mpr fun x hx => by
        simp at hx
        subst hx
        exact (me true).2⟩
    · exact ⟨true, th (by rw [List.length_append, List.length_take, List.length_drop]; omega) fun x hx => by
        rcases List.mem_append.mp hx with hx | hx
        · exact rmem x _ (List.mem_of_mem_drop hx)
        · exact rmem x _ (List.mem_of_mem_take hx)⟩
    · exact ⟨true, (pt_base b_bool).rw'.th⟩
  clear ho
  have fin : Is (cOp2 opIx (cOp2 opAdd (cVar 8) (cLst (cCons (cDisp [(.inl 0)] (cCons (cVar 1) cNil)) (cCons (cTup (cCons (cVar 1) cNil)) (cCons (cOp2 opAdd (cSl (cVar 1) (cPt (some (cVar 3))) (cPt none)) (cSl (cVar 1) (cPt none) (cPt (some (cVar 3))))) (cCons (cC (.bool true)) cNil)))))) (cCall fDrawS (lCons (cVar 0) (lCons (cC (.int 14)) lNil))) (ST d2 d3 d4 d5 .u d7 (.d (.list L1)) (p3 :: r))) (.ok (.d o) (ST d2 d3 d4 d5 .u d7 (.d (.list L1)) (p4 :: r))) := by
    have dd : (mergeD [] [(.inl 0 : L2.Key)] [PyData.tuple rows]) = [(.inl 0, PyData.tuple rows)] := rfl
    simp only [M2] at ad4 ex
    generalize L1 = l1 at *
    have kd0 : kD (.inl 0) = PyData.int 0 := rfl
    simp [ST, X1, d3, c1, c3, ad3, dd, kd0, ad4, e4, ex]
    exact .rfl
  exact w_ret fin (ok_d ⟨o, p4, rfl, by simp [ST], ok, hp4.mono (by omega)⟩)
end Vm
namespace Vm
open PySem L2 PySem.Spec PyProof.Rows
mutual
theorem plain_noTg : ∀ d : D, d.plain = true → noTg d = true
  | .none, _ => rfl
  | .bool _, _ => rfl
  | .int _, _ => rfl
  | .str _, _ => rfl
  | .list xs, h => by
    rw [noTg]
    exact plain_noTgAll xs (by simpa [PyData.plain] using h)
  | .tuple xs, h => by
    rw [noTg]
    exact plain_noTgAll xs (by simpa [PyData.plain] using h)
  | .dict es, h => by simp [PyData.plain] at h
theorem plain_noTgAll : ∀ ds : List D, PyData.plainAll ds = true → noTgAll ds = true
  | [], _ => rfl
  | d :: ds, h => by
    rw [PyData.plainAll, Bool.and_eq_true] at h
    rw [noTgAll, plain_noTg d h.1, plain_noTgAll ds h.2]
    rfl
end
mutual
theorem noLs_noTg : ∀ d : D, noLs d = true → noTg d = true
  | .none, _ => rfl
  | .bool _, _ => rfl
  | .int _, _ => rfl
  | .str _, _ => rfl
  | .list xs, h => by simp [noLs] at h
  | .tuple xs, h => by
    rw [noTg]
    exact noLs_noTgAll xs (by simpa [noLs] using h)
  | .dict es, h => by
    have h2 : noLsKv es = true := by simpa [noLs] using h
    rw [noTg, noLs_noTgKv es h2, Bool.and_true]
    intro tail he
    subst he
    rw [noLsKv] at h2
    simp [noLs] at h2
theorem noLs_noTgAll : ∀ ds : List D, noLsAll ds = true → noTgAll ds = true
  | [], _ => rfl
  | d :: ds, h => by
    rw [noLsAll, Bool.and_eq_true] at h
    rw [noTgAll, noLs_noTg d h.1, noLs_noTgAll ds h.2]
    rfl
theorem noLs_noTgKv : ∀ es : List (D × D), noLsKv es = true → noTgKv es = true
  | [], _ => rfl
  | (k, v) :: es, h => by
    rw [noLsKv, Bool.and_eq_true, Bool.and_eq_true] at h
    rw [noTgKv, noLs_noTg v h.1.2, noLs_noTgKv es h.2]
    rfl
end
theorem Th.rep {b : Bool} {d : D} (h : Th b d) : ∃ z, opReprX (.d d) = some (.d (.str z)) := by
  have nt : noTg d = true := by
    cases b with
    | true => exact plain_noTg d (h.kd.pl rfl)
    | false => exact noLs_noTg d (h.kd.nl rfl)
  have e : shX d = d ∧ tgTop d = true := by
    unfold shX tgTop
    split
    · rename_i es
      rw [noTg] at nt
      simp at nt
    · exact ⟨rfl, nt⟩
  refine ⟨(shX d).shown, ?_⟩
  have ok : okrX d = true := by
    unfold okrX
    rw [e.1, e.2, Bool.and_eq_true, Bool.and_eq_true, Bool.and_eq_true]
    exact ⟨⟨⟨rfl, decide_eq_true (Nat.le_trans h.kd.dp (by decide))⟩, h.kd.sh⟩, decide_eq_true (Nat.le_trans h.kd.len (by decide))⟩
  show (if okrX d = true then _ else none) = _
  rw [if_pos ok]
theorem shareT {W : Int} (W1 : 1 ≤ W) (W2 : W ≤ 5000) : ∃ σ : Int → D, ∀ z, (0 ≤ z ∧ z ≤ 5000) → fShareS [.d (.int z), .d (.int W)] [] = .ok (.d (σ z)) [] ∧ Tell 20 (σ z) ((z : Rat) / (W : Rat)) := by
  have ch : ∀ z : Int, ∃ d : D, (0 ≤ z ∧ z ≤ 5000) → fShareS [.d (.int z), .d (.int W)] [] = .ok (.d d) [] ∧ Tell 20 d ((z : Rat) / (W : Rat)) := fun z => by
    by_cases hz : 0 ≤ z ∧ z ≤ 5000
    · obtain ⟨p, q, e, s, h⟩ := shareS_ok (top := z) (bot := W) (j := 20) (k := 20) W1 (show z.natAbs < 2 ^ 20 by omega) (show W.natAbs < 2 ^ 20 by omega) (by decide)
      refine ⟨shD p q, fun _ => ⟨e, p, q, rfl, s, ?_⟩⟩
      have h1 := rat_ne W1
      have h2 : (p : Rat) * (W : Rat) = (z : Rat) * (q : Rat) := by rw [← Rat.intCast_mul, ← Rat.intCast_mul, h]
      grind
    · exact ⟨.none, fun h => absurd h hz⟩
  exact Classical.axiomOfChoice ch
theorem rs_le {n : Nat} {f : Nat → Int} {c : Int} (h : ∀ a, f a ≤ c) : rs n f ≤ n * c := by
  induction n with
  | zero => simp [rs]
  | succ n ih =>
    rw [rs_succ, Int.natCast_succ, Int.add_mul]
    have := h n
    omega
theorem rs_nn {n : Nat} {f : Nat → Int} (h : ∀ a, 0 ≤ f a) : 0 ≤ rs n f := by
  induction n with
  | zero => simp [rs]
  | succ n ih =>
    rw [rs_succ]
    have := h n
    omega
theorem good_tell {n : Nat} {τ : Nat → Nat → D} {x : Nat → Nat → Rat} (h : ∀ a b, Tell 20 (τ a b) (x a b)) : Good n τ := ⟨fun a b => by
  obtain ⟨p, q, e, s, _⟩ := (h a b).ex
  have h1 := s.bp
  have h2 := s.bq
  unfold Bs at h1 h2
  exact ⟨p, q, e, by omega, by omega⟩⟩
theorem good_th {n : Nat} {τ : Nat → Nat → D} (n2 : n ≤ 12) (h : Good n τ) : Th true (tbD n τ) := by
  have := thing_mk (b := true) (xs := (List.range n).map fun a => PyData.tuple (rwT n τ a)) (by simp; omega) fun x hx => by
    obtain ⟨a, _, rfl⟩ := List.mem_map.mp hx
    exact row_mk (by simp; omega) fun y hy => by
      obtain ⟨b, _, rfl⟩ := List.mem_map.mp hy
      exact h.pt a b true
  exact ⟨this.1.mono (by decide) (by decide), this.2⟩
end Vm
namespace Vm
open PySem L2 PySem.Spec PyProof.Rows
theorem law_true (ns : List Int) (hl : ns.length ≤ 63) : f_law [.d (.list (ns.map PyData.int))] [] = .ok (.d (.bool true)) [] := by
  unfold f_law
  refine run_eq ?_
  unfold c_law
  have e0 := penS_new (ns := ns)
  let SC : Sl := .d (.list (ns.map PyData.int))
  let ST := fun (x2 x3 x4 x5 x6 x7 x8 x9 x10 x11 x12 x13 x14 x15 x16 : Sl) (m : List Cell) => (⟨[SC, .c 0, x2, x3, x4, x5, x6, x7, x8, x9, x10, x11, x12, x13, x14, x15, x16], m⟩ : S)
  refine st (s1 := ST .u .u .u .u .u .u .u .u .u .u .u .u .u .u .u [penL ns 0 0]) (by simp [e0]; exact .rfl) ?_
  refine w_cut (fun s => ∃ x2 x3 x4 x5 ds es g x9 x10 x11 x12 x13 x14 x15 x16 m, s = ST x2 x3 x4 x5 (.d (.tuple ds)) (.d (.tuple es)) (.d g) x9 x10 x11 x12 x13 x14 x15 x16 m ∧ f__law_told [.d (.tuple ds), .d (.tuple es), .d g] [] = .ok (.d (.bool true)) []) ?_ fun s hs => ?_
  · refine w_for (fun i s => ∃ x2 x3 x4 x5 x6 x7 x8 x9 x10 x11 x12 x13 x14 x15 x16 p r, s = ST x2 x3 x4 x5 x6 x7 x8 x9 x10 x11 x12 x13 x14 x15 x16 (p :: r) ∧ IsPenL (1000 * i) p ∧ (1 ≤ i → ∃ ds es g, x6 = .d (.tuple ds) ∧ x7 = .d (.tuple es) ∧ x8 = .d g ∧ f__law_told [.d (.tuple ds), .d (.tuple es), .d g] [] = .ok (.d (.bool true)) [])) (ciR1_c (n := 2) (by decide) (by decide)) ⟨_, _, _, _, _, _, _, _, _, _, _, _, _, _, _, _, [], rfl, penL_is hl, fun z => by omega⟩ (fun i d s hd hi => ?_) fun s hi => by
      obtain ⟨x2, x3, x4, x5, x6, x7, x8, x9, x10, x11, x12, x13, x14, x15, x16, p, r, h, _, h2⟩ := hi
      obtain ⟨ds, es, g, rfl, rfl, rfl, h3⟩ := h2 (by decide)
      exact ⟨_, _, _, _, ds, es, g, _, _, _, _, _, _, _, _, _, h, h3⟩
    obtain ⟨x2, x3, x4, x5, x6, x7, x8, x9, x10, x11, x12, x13, x14, x15, x16, p, r, rfl, hp, _⟩ := hi
    obtain ⟨hi, rfl⟩ := rangeD_lt hd
    have hi : i < 2 := hi
    let d2 : Sl := .d (.int (0 + (i : Int)))
    refine ⟨ST d2 x3 x4 x5 x6 x7 x8 x9 x10 x11 x12 x13 x14 x15 x16 (p :: r), rfl, ?_⟩
    obtain ⟨y, p1, e1, y0, y1, hp1⟩ := dS r 2 hp
    obtain ⟨t, et, t0, t1⟩ : ∃ t : Int, opIx (.d (.tuple [PyData.int 6, .int 12])) (.d (.int y)) = some (.d (.int t)) ∧ 1 ≤ t ∧ t ≤ 12 := by
      have : y = 0 ∨ y = 1 := by omega
      rcases this with rfl | rfl
      · exact ⟨6, rfl, by decide, by decide⟩
      · exact ⟨12, rfl, by decide, by decide⟩
    obtain ⟨c, p2, e2, c0, c1, hp2⟩ := dS r t hp1
    obtain ⟨n, hn⟩ : ∃ n : Nat, 1 + c = (n : Int) := ⟨(1 + c).toNat, by omega⟩
    have n1 : 1 ≤ n := by omega
    have n2 : n ≤ 12 := by omega
    let d3 : Sl := .d (.int (n : Nat))
    refine st (s1 := ST d2 d3 x4 x5 x6 x7 x8 x9 x10 x11 x12 x13 x14 x15 x16 (p2 :: r)) (by simp [ST, e1, et, e2, hn]; exact .rfl) ?_
    obtain ⟨T, p3, e3, LT, hp3⟩ := table_ok (n := n) r hp2 (by omega) n1 n2
    let d4 : Sl := .d (.list (tbI n T))
    refine st (s1 := ST d2 d3 d4 x5 x6 x7 x8 x9 x10 x11 x12 x13 x14 x15 x16 (p3 :: r)) (by
      simp [ST, d3, d4, e3]
      exact .rfl) ?_
    -- the whole
    obtain ⟨W, hW⟩ : ∃ W, (rs n fun a => rs n (T a)) = W := ⟨_, rfl⟩
    have W1 : 1 ≤ W := by rw [← hW]; exact LT.s1
    have rowB : ∀ a, 0 ≤ rs n (T a) ∧ rs n (T a) ≤ 348 := fun a => by
      refine ⟨rs_nn (LT.ge a), ?_⟩
      have := rs_le (n := n) (f := T a) (c := 29) (LT.le a)
      omega
    have colB : ∀ b, 0 ≤ (rs n fun a => T a b) ∧ (rs n fun a => T a b) ≤ 348 := fun b => by
      refine ⟨rs_nn fun a => LT.ge a b, ?_⟩
      have := rs_le (n := n) (f := fun a => T a b) (c := 29) fun a => LT.le a b
      omega
    have W2 : W ≤ 5000 := by
      rw [← hW]
      have := rs_le (n := n) (f := fun a => rs n (T a)) (c := 348) fun a => (rowB a).2
      omega
    have sumRow : ∀ a, opSum (.d (.list ((List.range n).map fun b => PyData.int (T a b)))) = some (.d (.int (rs n (T a)))) := fun a => by
      have so := opSum_il (ns := (List.range n).map (T a))
      rw [List.map_map] at so
      exact so
    have tot : opSum (.d (.list ((List.range n).map fun a => PyData.int (rs n (T a))))) = some (.d (.int W)) := by
      have so := opSum_il (ns := (List.range n).map fun a => rs n (T a))
      rw [List.map_map] at so
      rw [← hW]
      exact so
    have sumCol : ∀ k, opSum (.d (.list ((List.range n).map fun a => PyData.int (T a k)))) = some (.d (.int (rs n fun a => T a k))) := fun k => by
      have so := opSum_il (ns := (List.range n).map fun a => T a k)
      rw [List.map_map] at so
      exact so
    have itT : ∀ x5 x6 x7 x8 x16 m, ciSeq (cVar 4) (ST d2 d3 d4 x5 x6 x7 x8 x9 x10 x11 x12 x13 x14 x15 x16 m) = .ok ((List.range n).map fun a => PyData.list ((List.range n).map fun b => PyData.int (T a b))) (ST d2 d3 d4 x5 x6 x7 x8 x9 x10 x11 x12 x13 x14 x15 x16 m) := fun x5 x6 x7 x8 x16 m => by simp [ST, d4]
    have l5 := lc_for (own := [16]) (tg := tgN 16) (el := cOp1 opSum (cVar 16)) (F := fun a => PyData.list ((List.range n).map fun b => PyData.int (T a b))) (fun a => PyData.int (rs n (T a))) (itT x5 x6 x7 x8 x16 (p3 :: r)) (by simp; omega) fun a _ => by
      have e := sumRow a
      generalize PyData.list ((List.range n).map fun b => PyData.int (T a b)) = z at *
      exact ⟨ST d2 d3 d4 x5 x6 x7 x8 x9 x10 x11 x12 x13 x14 x15 (.d z) (p3 :: r), rfl, [SC, .c 0, d2, d3, d4, x5, x6, x7, x8, x9, x10, x11, x12, x13, x14, x15, .d z], by simp [ST, e]⟩
    let d5 : Sl := .d (.int W)
    refine st (s1 := ST d2 d3 d4 d5 x6 x7 x8 x9 x10 x11 x12 x13 x14 x15 x16 (p3 :: r)) (by
      generalize (List.range n).map (fun a => PyData.int (rs n (T a))) = z at *
      simp only [ST] at l5 ⊢
      simp [l5, tot]
      exact .rfl) ?_
    obtain ⟨σ, hσ⟩ := shareT W1 W2
    let ds := (List.range n).map fun a => σ (rs n (T a))
    let es := (List.range n).map fun k => σ (rs n fun a => T a k)
    have l6 := lc_for (own := [16]) (tg := tgN 16) (el := cCallP fShareS (lCons (cOp1 opSum (cVar 16)) (lCons (cVar 5) lNil))) (F := fun a => PyData.list ((List.range n).map fun b => PyData.int (T a b))) (fun a => σ (rs n (T a))) (itT d5 x6 x7 x8 x16 (p3 :: r)) (by simp; omega) fun a _ => by
      have e := sumRow a
      have e2 := (hσ (rs n (T a)) (by have := rowB a; omega)).1
      generalize PyData.list ((List.range n).map fun b => PyData.int (T a b)) = z at *
      generalize rs n (T a) = y at *
      exact ⟨ST d2 d3 d4 d5 x6 x7 x8 x9 x10 x11 x12 x13 x14 x15 (.d z) (p3 :: r), rfl, [SC, .c 0, d2, d3, d4, d5, x6, x7, x8, x9, x10, x11, x12, x13, x14, x15, .d z], by simp [ST, d5, e, e2]⟩
    have l6 : cLc [16] (ciSeq (cVar 4)) (tgN 16) ctYes (cCallP fShareS (lCons (cOp1 opSum (cVar 16)) (lCons (cVar 5) lNil))) (ST d2 d3 d4 d5 x6 x7 x8 x9 x10 x11 x12 x13 x14 x15 x16 (p3 :: r)) = .ok (.new (.l ds)) (ST d2 d3 d4 d5 x6 x7 x8 x9 x10 x11 x12 x13 x14 x15 x16 (p3 :: r)) := l6
    have dsl : ds.length = n := by simp [ds]
    have esl : es.length = n := by simp [es]
    have A : Rt 20 n ds ((List.range n).map fun a => ((rs n (T a) : Int) : Rat) / (W : Rat)) := ⟨dsl, by simp, fun l d x h1 h2 => by
      obtain ⟨hl, rfl⟩ := rangeG h1
      obtain ⟨_, rfl⟩ := rangeG h2
      exact (hσ _ (by have := rowB l; omega)).2⟩
    have Bq : Rt 20 n es ((List.range n).map fun k => ((rs n (fun a => T a k) : Int) : Rat) / (W : Rat)) := ⟨esl, by simp, fun l d x h1 h2 => by
      obtain ⟨hl, rfl⟩ := rangeG h1
      obtain ⟨_, rfl⟩ := rangeG h2
      exact (hσ _ (by have := colB l; omega)).2⟩
    let d6 : Sl := .d (.tuple ds)
    let d7 : Sl := .d (.tuple es)
    have l7 : cLc [10] (ciR1 (cVar 3)) (tgN 10) ctYes (cCallP fShareS (lCons (cOp1 opSum (cLc [16] (ciSeq (cVar 4)) (tgN 16) ctYes (cOp2 opIx (cVar 16) (cVar 10)))) (lCons (cVar 5) lNil))) (ST d2 d3 d4 d5 d6 x7 x8 x9 x10 x11 x12 x13 x14 x15 x16 (p3 :: r)) = .ok (.new (.l es)) (ST d2 d3 d4 d5 d6 x7 x8 x9 x10 x11 x12 x13 x14 x15 x16 (p3 :: r)) := by
      have r1 := ciR1_n (c := cVar 3) (s := ST d2 d3 d4 d5 d6 x7 x8 x9 x10 x11 x12 x13 x14 x15 x16 (p3 :: r)) (s1 := ST d2 d3 d4 d5 d6 x7 x8 x9 x10 x11 x12 x13 x14 x15 x16 (p3 :: r)) (n := n) (by simp [ST, d3]) (by omega)
      refine lc_for (own := [10]) (tg := tgN 10) (el := (cCallP fShareS (lCons (cOp1 opSum (cLc [16] (ciSeq (cVar 4)) (tgN 16) ctYes (cOp2 opIx (cVar 16) (cVar 10)))) (lCons (cVar 5) lNil)))) (fun k => σ (rs n fun a => T a k)) r1 (by simp; omega) fun k hk => ?_
      have hk := List.mem_range.mp hk
      have li := lc_for (own := [16]) (ci := ciSeq (cVar 4)) (tg := tgN 16) (el := cOp2 opIx (cVar 16) (cVar 10)) (s := ST d2 d3 d4 d5 d6 x7 x8 x9 (.d (.int (k : Nat))) x11 x12 x13 x14 x15 x16 (p3 :: r)) (s1 := ST d2 d3 d4 d5 d6 x7 x8 x9 (.d (.int (k : Nat))) x11 x12 x13 x14 x15 x16 (p3 :: r)) (xs := List.range n) (F := fun a => PyData.list ((List.range n).map fun b => PyData.int (T a b))) (fun a => PyData.int (T a k)) (by simp [ST, d4]) (by simp; omega) fun a _ => by
        have e : opIx (.d (.list ((List.range n).map fun b => PyData.int (T a b)))) (.d (.int (k : Nat))) = some (.d (.int (T a k))) := opIx_l (atI_nat (by omega) (by rw [Int.toNat_natCast]; simp [hk]))
        generalize PyData.list ((List.range n).map fun b => PyData.int (T a b)) = z at *
        exact ⟨ST d2 d3 d4 d5 d6 x7 x8 x9 (.d (.int (k : Nat))) x11 x12 x13 x14 x15 (.d z) (p3 :: r), rfl, [SC, .c 0, d2, d3, d4, d5, d6, x7, x8, x9, .d (.int (k : Nat)), x11, x12, x13, x14, x15, .d z], by simp [ST, e]⟩
      have e := sumCol k
      have e2 := (hσ (rs n fun a => T a k) (by have := colB k; omega)).1
      generalize (List.range n).map (fun a => PyData.int (T a k)) = col at *
      generalize (rs n fun a => T a k) = y at *
      refine ⟨ST d2 d3 d4 d5 d6 x7 x8 x9 (.d (.int (k : Nat))) x11 x12 x13 x14 x15 x16 (p3 :: r), rfl, [SC, .c 0, d2, d3, d4, d5, d6, x7, x8, x9, .d (.int (k : Nat)), x11, x12, x13, x14, x15, x16], ?_⟩
      simp only [ST] at li ⊢
      simp [li, e, d5, e2]
    clear_value ds es
    refine st (s1 := ST d2 d3 d4 d5 d6 x7 x8 x9 x10 x11 x12 x13 x14 x15 x16 (p3 :: r)) (by simp only [ST] at l6 ⊢; simp [l6]; exact .rfl) ?_
    refine st (s1 := ST d2 d3 d4 d5 d6 d7 x8 x9 x10 x11 x12 x13 x14 x15 x16 (p3 :: r)) (by simp only [ST] at l7 ⊢; simp [l7]; exact .rfl) ?_
    obtain ⟨τ, eg, tg⟩ := shares_ok (n := n) (T := T) (W := W) n2 W1 W2 fun a b => by have := LT.ge a b; have := LT.le a b; omega
    have G := good_tell (n := n) tg
    have gth := good_th n2 G
    obtain ⟨g, hg⟩ : ∃ g, tbD n τ = g := ⟨_, rfl⟩
    have wl : ∀ (x : Nat → Int) (i : Nat), i < n → ((List.range n).map fun a => ((x a : Int) : Rat) / (W : Rat)).getD i 0 = ((((List.range n).map x).getD i 0 : Int) : Rat) / (W : Rat) := fun x i hi => by
      rw [List.getD_eq_getElem?_getD, List.getD_eq_getElem?_getD]
      simp [hi]
    have gx : ∀ (x : Nat → Int) (i : Nat), i < n → ((List.range n).map x).getD i 0 = x i := fun x i hi => by
      rw [List.getD_eq_getElem?_getD]
      simp [hi]
    have P : Prg n ((List.range n).map fun a => rs n (T a)) ((List.range n).map fun b => rs n fun a => T a b) T := ⟨fun a ha => (gx (fun a => rs n (T a)) a ha).symm, fun b hb => (gx (fun b => rs n fun a => T a b) b hb).symm, LT.ge, LT.sup⟩
    have TB : Tb 20 W n τ T := ⟨fun a b _ _ => tg a b⟩
    obtain ⟨_, pt, _⟩ := TB.is P W1 ((List.range n).map fun a => ((rs n (T a) : Int) : Rat) / (W : Rat)) ((List.range n).map fun k => ((rs n (fun a => T a k) : Int) : Rat) / (W : Rat)) (fun i hi => wl _ i hi) fun i hi => wl (fun k => rs n fun a => T a k) i hi
    obtain ⟨xs, hxs⟩ : ∃ xs, ((List.range n).map fun a => ((rs n (T a) : Int) : Rat) / (W : Rat)) = xs := ⟨_, rfl⟩
    obtain ⟨ys, hys⟩ : ∃ ys, ((List.range n).map fun k => ((rs n (fun a => T a k) : Int) : Rat) / (W : Rat)) = ys := ⟨_, rfl⟩
    rw [hxs] at A pt
    rw [hys] at Bq pt
    have agree : ∀ (d : D) (b : Bool), Th b d → f__law_told [.d (.tuple ds), .d (.tuple es), .d d] [] = .ok (.d (.bool (prB n xs ys d))) [] ∧ f__law_is_pairing [.d (.tuple ds), .d (.tuple es), .d d] [] = .ok (.d (.bool (prB n xs ys d))) [] := fun d b h => ⟨told_ok A Bq (sm_bd h.sm) (by decide) n2, isPairing_e A Bq (sm_bd h.sm) (by decide) n2⟩
    rw [hg] at eg gth pt
    have last : f__law_told [.d (.tuple ds), .d (.tuple es), .d g] [] = .ok (.d (.bool true)) [] := by
      rw [(agree g true gth).1, pt]
    let d8 : Sl := .d g
    refine st (s1 := ST d2 d3 d4 d5 d6 d7 d8 x9 x10 x11 x12 x13 x14 x15 x16 (p3 :: r)) (by simp [ST, d4, d5, eg]; exact .rfl) ?_
    let d9 : Sl := .c (r.length + 1)
    refine st (s1 := ST d2 d3 d4 d5 d6 d7 d8 d9 x10 x11 x12 x13 x14 x15 x16 (p3 :: (r ++ [Cell.l [g]]))) (by simp [ST, d8]; exact .rfl) ?_
    refine w_cut (fun s => ∃ x10 x11 p L, s = ST d2 d3 d4 d5 d6 d7 d8 d9 x10 x11 x12 x13 x14 x15 x16 (p :: (r ++ [Cell.l L])) ∧ IsPenL (1000 * i + 500) p ∧ L.length = 9 ∧ ∀ d, d ∈ L → ∃ b, Th b d) ?_ fun s hs => ?_
    · refine w_for (fun k s => ∃ x10 x11 p L, s = ST d2 d3 d4 d5 d6 d7 d8 d9 x10 x11 x12 x13 x14 x15 x16 (p :: (r ++ [Cell.l L])) ∧ IsPenL (1000 * i + 250 + 20 * k) p ∧ L.length = k + 1 ∧ ∀ d, d ∈ L → ∃ b, Th b d) (ciR1_c (n := 8) (by decide) (by decide)) ⟨_, _, p3, [g], rfl, hp3.mono (by omega), rfl, fun d hd => by
        simp at hd
        subst hd
        exact ⟨true, gth⟩⟩ (fun k d s hd hk => ?_) fun s hk => by
        obtain ⟨x10, x11, p, L, h1, h2, h3, h4⟩ := hk
        exact ⟨x10, x11, p, L, h1, h2.mono (by rw [rangeD_len]; omega), h3, h4⟩
      obtain ⟨x10, x11, p, L, rfl, hp, hL, hall⟩ := hk
      obtain ⟨hk, rfl⟩ := rangeD_lt hd
      have hk : k < 8 := hk
      let d10 : Sl := .d (.int (0 + (k : Int)))
      refine ⟨ST d2 d3 d4 d5 d6 d7 d8 d9 d10 x11 x12 x13 x14 x15 x16 (p :: (r ++ [Cell.l L])), rfl, ?_⟩
      obtain ⟨sp, p4, e4, s0, s9, hp4⟩ := dS (r ++ [Cell.l L]) 9 hp
      let d11 : Sl := .d (.int sp)
      refine st (s1 := ST d2 d3 d4 d5 d6 d7 d8 d9 d10 d11 x12 x13 x14 x15 x16 (p4 :: (r ++ [Cell.l L]))) (by simp [ST, e4]; exact .rfl) ?_
      have add : ∀ d b, Th b d → ∀ x, x ∈ L ++ [d] → ∃ b, Th b x := fun d b h x hx => by
        rcases List.mem_append.mp hx with hx | hx
        · exact hall x hx
        · simp at hx
          subst hx
          exact ⟨b, h⟩
      by_cases h6 : sp < 6
      · refine w_ifT (s1 := ST d2 d3 d4 d5 d6 d7 d8 d9 d10 d11 x12 x13 x14 x15 x16 (p4 :: (r ++ [Cell.l L]))) (by simp [ST, d11, h6]; exact .rfl) ?_
        obtain ⟨T', p5, e5, hT', hp5⟩ := shifted_ok (n := n) (T := T) (r ++ [Cell.l L]) hp4 (by omega) n1 n2 s0 (by omega) fun a b => ⟨LT.ge a b, LT.le a b⟩
        obtain ⟨τ', eg', tg'⟩ := shares_ok (n := n) (T := T') (W := W) n2 W1 W2 hT'
        have th' := good_th n2 (good_tell (n := n) tg')
        obtain ⟨g', hg'⟩ : ∃ g', tbD n τ' = g' := ⟨_, rfl⟩
        rw [hg'] at eg' th'
        have ap := fApp_s (xs := L) (d := g') (by omega)
        refine st_last (s1 := ST d2 d3 d4 d5 d6 d7 d8 d9 d10 d11 x12 x13 x14 x15 x16 (p5 :: (r ++ [Cell.l (L ++ [g'])]))) (by simp [ST, d4, d5, d9, d11, e5, eg', ap]; exact .rfl) ⟨d10, d11, p5, _, rfl, hp5.mono (by omega), by simp [hL], add g' true th'⟩
      · refine w_ifF (s1 := ST d2 d3 d4 d5 d6 d7 d8 d9 d10 d11 x12 x13 x14 x15 x16 (p4 :: (r ++ [Cell.l L]))) (by simp [ST, d11, h6]; exact .rfl) ?_
        obtain ⟨o, p5, e5, ⟨b, ho⟩, hp5⟩ := odd_ok (n := n) (τ := τ) (r ++ [Cell.l L]) hp4 (by omega) n1 n2 G
        rw [hg] at e5
        have ap := fApp_s (xs := L) (d := o) (by omega)
        refine st_last (s1 := ST d2 d3 d4 d5 d6 d7 d8 d9 d10 d11 x12 x13 x14 x15 x16 (p5 :: (r ++ [Cell.l (L ++ [o])]))) (by simp [ST, d8, d9, e5, ap]; exact .rfl) ⟨d10, d11, p5, _, rfl, hp5.mono (by omega), by simp [hL], add o b ho⟩
    obtain ⟨x10, x11, p, L, rfl, hp, hL, hall⟩ := hs
    have la := opAdd_l (xs := L) (ys := [g]) (by simp; omega)
    have sq : ciSeq (cOp2 opAdd (cVar 9) (cLst (cCons (cVar 8) cNil))) (ST d2 d3 d4 d5 d6 d7 d8 d9 x10 x11 x12 x13 x14 x15 x16 (p :: (r ++ [Cell.l L]))) = .ok (L ++ [g]) (ST d2 d3 d4 d5 d6 d7 d8 d9 x10 x11 x12 x13 x14 x15 x16 (p :: (r ++ [Cell.l L]))) := by
      simp [ST, d8, d9, la]
    refine w_cut (fun s => ∃ x12 x13 x14, s = ST d2 d3 d4 d5 d6 d7 d8 d9 x10 x11 x12 x13 x14 x15 x16 (p :: (r ++ [Cell.l L]))) ?_ fun s hs => ?_
    · refine w_for (fun _ s => ∃ x12 x13 x14, s = ST d2 d3 d4 d5 d6 d7 d8 d9 x10 x11 x12 x13 x14 x15 x16 (p :: (r ++ [Cell.l L]))) sq ⟨_, _, _, rfl⟩ (fun k d s hd hk => ?_) fun s h => h
      obtain ⟨x12, x13, x14, rfl⟩ := hk
      obtain ⟨b, hth⟩ : ∃ b, Th b d := by
        rcases List.mem_append.mp (List.mem_of_getElem? hd) with h | h
        · exact hall d h
        · simp at h
          subst h
          exact ⟨true, gth⟩
      obtain ⟨z, ez⟩ := hth.rep
      obtain ⟨ea, eb⟩ := agree d b hth
      generalize prB n xs ys d = pb at *
      let d12 : Sl := .d d
      let d13 : Sl := .d (.str z)
      let d14 : Sl := .d (.bool pb)
      refine ⟨ST d2 d3 d4 d5 d6 d7 d8 d9 x10 x11 d12 x13 x14 x15 x16 (p :: (r ++ [Cell.l L])), rfl, ?_⟩
      have nb : opNe (.d (.bool pb)) (.d (.bool pb)) = some (.d (.bool false)) := opNe_self rfl
      refine st (s1 := ST d2 d3 d4 d5 d6 d7 d8 d9 x10 x11 d12 d13 x14 x15 x16 (p :: (r ++ [Cell.l L]))) (by simp [ST, d12, ez]; exact .rfl) ?_
      refine st (s1 := ST d2 d3 d4 d5 d6 d7 d8 d9 x10 x11 d12 d13 d14 x15 x16 (p :: (r ++ [Cell.l L]))) (by simp [ST, d6, d7, d12, ea]; exact .rfl) ?_
      exact w_ifF (s1 := ST d2 d3 d4 d5 d6 d7 d8 d9 x10 x11 d12 d13 d14 x15 x16 (p :: (r ++ [Cell.l L]))) (by simp [ST, d6, d7, d12, d13, d14, isi_b, eb, nb, ez, str_ne]; exact .rfl) (w_nx ⟨_, _, _, rfl⟩)
    obtain ⟨x12, x13, x14, rfl⟩ := hs
    have om : opMod (.d (.int (n : Nat))) (.d (.int 12)) = some (.d (.int ((n % 12 : Nat) : Int))) := by
      have := opMod_i (i := (n : Int)) (j := 12) (by omega)
      rw [this]
      rfl
    obtain ⟨k, hk⟩ : ∃ k : Nat, n % 12 = k := ⟨_, rfl⟩
    rw [hk] at om
    have orep : opMulV (.d (.tuple [PyData.tuple [.int 0, .int 1]])) (.d (.int (k : Nat))) = some (.d (.tuple (List.replicate k (shD 0 1)))) := by
      by_cases z : k = 0
      · subst z
        exact rep_0
      · have := rep_t (x := shD 0 1) (n := (k : Int)) (by omega) (by omega)
        rw [Int.toNat_natCast] at this
        exact this
    have oadd : opAdd (.d (.tuple [PyData.tuple [.int 1, .int 1]])) (.d (.tuple (List.replicate k (shD 0 1)))) = some (.d (.tuple (shD 1 1 :: List.replicate k (shD 0 1)))) := opAdd_t (by simp; omega)
    have wlen : (shD 1 1 :: List.replicate k (shD 0 1)).length = k + 1 := by simp
    generalize hwd : (shD 1 1 :: List.replicate k (shD 0 1)) = wd at *
    let d15 : Sl := .d (.tuple wd)
    refine st (s1 := ST d2 d3 d4 d5 d6 d7 d8 d9 x10 x11 x12 x13 x14 d15 x16 (p :: (r ++ [Cell.l L]))) (by
      generalize List.replicate k (shD 0 1) = lr at *
      simp [ST, d3, om, orep, oadd]
      exact .rfl) ?_
    obtain ⟨q, hq⟩ : ∃ q, L[1]? = some q := ⟨_, List.getElem?_eq_getElem (by omega)⟩
    have ix1 : opIx (.d (.list L)) (.d (.int 1)) = some (.d q) := opIx_l (atI_nat (by decide) hq)
    have sq2 : ciSeq (cLst (cCons (cVar 8) (cCons (cC .none) (cCons (cOp2 opIx (cVar 9) (cC (.int 1))) cNil)))) (ST d2 d3 d4 d5 d6 d7 d8 d9 x10 x11 x12 x13 x14 d15 x16 (p :: (r ++ [Cell.l L]))) = .ok [g, .none, q] (ST d2 d3 d4 d5 d6 d7 d8 d9 x10 x11 x12 x13 x14 d15 x16 (p :: (r ++ [Cell.l L]))) := by
      simp [ST, d8, d9, ix1]
    refine w_for (fun _ s => ∃ x12, s = ST d2 d3 d4 d5 d6 d7 d8 d9 x10 x11 x12 x13 x14 d15 x16 (p :: (r ++ [Cell.l L]))) sq2 ⟨_, rfl⟩ (fun j d s hd hj => ?_) fun s hj => by
      obtain ⟨x12, rfl⟩ := hj
      exact ⟨_, _, _, _, _, _, _, _, _, _, _, _, _, _, _, p, _, rfl, hp.mono (by omega), fun _ => ⟨ds, es, g, rfl, rfl, rfl, last⟩⟩
    obtain ⟨x12, rfl⟩ := hj
    let d12 : Sl := .d d
    refine ⟨ST d2 d3 d4 d5 d6 d7 d8 d9 x10 x11 d12 x13 x14 d15 x16 (p :: (r ++ [Cell.l L])), rfl, ?_⟩
    have t1 := told_not (ds := wd) (es := es) (d := d) (by omega)
    have t2 := told_not (ds := ds) (es := wd) (d := d) (by omega)
    exact w_ifF (s1 := ST d2 d3 d4 d5 d6 d7 d8 d9 x10 x11 d12 x13 x14 d15 x16 (p :: (r ++ [Cell.l L]))) (by simp [ST, d6, d7, d12, d15, t1, t2, str_ne]; exact .rfl) (w_nx ⟨_, rfl⟩)
  · obtain ⟨x2, x3, x4, x5, ds, es, g, x9, x10, x11, x12, x13, x14, x15, x16, m, rfl, h⟩ := hs
    exact w_ret (x := .d (.bool true)) (s1 := ST x2 x3 x4 x5 (.d (.tuple ds)) (.d (.tuple es)) (.d g) x9 x10 x11 x12 x13 x14 x15 x16 m) (by simp [ST, h]; exact .rfl) (ok_d ⟨rfl, by simp⟩)
end Vm
namespace Vm
open PySem L2 PySem.Spec PyProof.Rows
def topS (i : Nat) : Stmt := PySem.Challenge.pw_emptierbox_k26_pairings_known.main.body.getD i (.Pass ⟨0, 0, 0, 0⟩)
abbrev s_is_whole : Stmt := topS 5
abbrev N_is_whole : List Str := ["thing"]
theorem sc_is_whole : FnScope N_is_whole ["thing"] (defScope s_is_whole) := ⟨rfl, rfl, rfl, by decide +kernel, rfl, by decide +kernel, by decide +kernel⟩
abbrev s_measure : Stmt := topS 6
abbrev N_measure : List Str := ["a", "b"]
theorem sc_measure : FnScope N_measure ["a", "b"] (defScope s_measure) := ⟨rfl, rfl, rfl, by decide +kernel, rfl, by decide +kernel, by decide +kernel⟩
abbrev s_share : Stmt := topS 7
abbrev N_share : List Str := ["top", "bottom", "common"]
theorem sc_share : FnScope N_share ["top", "bottom"] (defScope s_share) := ⟨rfl, rfl, rfl, by decide +kernel, rfl, by decide +kernel, by decide +kernel⟩
abbrev s_is_share : Stmt := topS 8
abbrev N_is_share : List Str := ["thing", "part"]
theorem sc_is_share : FnScope N_is_share ["thing"] (defScope s_is_share) := ⟨rfl, rfl, rfl, by decide +kernel, rfl, by decide +kernel, by decide +kernel⟩
abbrev s_plus : Stmt := topS 9
abbrev N_plus : List Str := ["a", "b"]
theorem sc_plus : FnScope N_plus ["a", "b"] (defScope s_plus) := ⟨rfl, rfl, rfl, by decide +kernel, rfl, by decide +kernel, by decide +kernel⟩
abbrev s_total : Stmt := topS 10
abbrev N_total : List Str := ["some", "found", "one"]
theorem sc_total : FnScope N_total ["some"] (defScope s_total) := ⟨rfl, rfl, rfl, by decide +kernel, rfl, by decide +kernel, by decide +kernel⟩
abbrev s_need_alike : Stmt := topS 12
abbrev N_need_alike : List Str := ["one", "other"]
theorem sc_need_alike : FnScope N_need_alike ["one", "other"] (defScope s_need_alike) := ⟨rfl, rfl, rfl, by decide +kernel, rfl, by decide +kernel, by decide +kernel⟩
abbrev s_is_table : Stmt := topS 14
abbrev N_is_table : List Str := ["boxes", "thing", "row", "part"]
theorem sc_is_table : FnScope N_is_table ["boxes", "thing"] (defScope s_is_table) := ⟨rfl, rfl, rfl, by decide +kernel, rfl, by decide +kernel, by decide +kernel⟩
abbrev s_lets_pairing : Stmt := topS 15
abbrev N_lets_pairing : List Str := ["one", "other", "thing", "boxes", "i", "row", "part"]
theorem sc_lets_pairing : FnScope N_lets_pairing ["one", "other", "thing"] (defScope s_lets_pairing) := ⟨rfl, rfl, rfl, by decide +kernel, rfl, by decide +kernel, by decide +kernel⟩
abbrev s__law_pen : Stmt := topS 17
abbrev N__law_pen : List Str := ["_law_script"]
theorem sc__law_pen : FnScope N__law_pen ["_law_script"] (defScope s__law_pen) := ⟨rfl, rfl, rfl, by decide +kernel, rfl, by decide +kernel, by decide +kernel⟩
abbrev s__law_take : Stmt := topS 18
abbrev N__law_take : List Str := ["_law_pen_here", "_law_many", "_law_digit", "_law_turns", "_law_cell", "_law_prime", "_law_mixed_cell"]
theorem sc__law_take : FnScope N__law_take ["_law_pen_here", "_law_many"] (defScope s__law_take) := ⟨rfl, rfl, rfl, by decide +kernel, rfl, by decide +kernel, by decide +kernel⟩
abbrev s__law_share : Stmt := topS 19
abbrev N__law_share : List Str := ["_law_top", "_law_bottom", "_law_one", "_law_rest"]
theorem sc__law_share : FnScope N__law_share ["_law_top", "_law_bottom"] (defScope s__law_share) := ⟨rfl, rfl, rfl, by decide +kernel, rfl, by decide +kernel, by decide +kernel⟩
abbrev s__law_sum : Stmt := topS 20
abbrev N__law_sum : List Str := ["_law_some", "_law_top", "_law_bottom", "_law_one"]
theorem sc__law_sum : FnScope N__law_sum ["_law_some"] (defScope s__law_sum) := ⟨rfl, rfl, rfl, by decide +kernel, rfl, by decide +kernel, by decide +kernel⟩
abbrev s__law_table : Stmt := topS 21
abbrev N__law_table : List Str := ["_law_pen_here", "_law_boxes", "_law_most", "_law_spot", "_law_found", "_law_i", "_law_j", "_law_line"]
theorem sc__law_table : FnScope N__law_table ["_law_pen_here", "_law_boxes"] (defScope s__law_table) := ⟨rfl, rfl, rfl, by decide +kernel, rfl, by decide +kernel, by decide +kernel⟩
abbrev s__law_shares : Stmt := topS 22
abbrev N__law_shares : List Str := ["_law_table_here", "_law_whole", "_law_line", "_law_part"]
theorem sc__law_shares : FnScope N__law_shares ["_law_table_here", "_law_whole"] (defScope s__law_shares) := ⟨rfl, rfl, rfl, by decide +kernel, rfl, by decide +kernel, by decide +kernel⟩
abbrev s__law_is_share : Stmt := topS 23
abbrev N__law_is_share : List Str := ["_law_thing", "_law_part"]
theorem sc__law_is_share : FnScope N__law_is_share ["_law_thing"] (defScope s__law_is_share) := ⟨rfl, rfl, rfl, by decide +kernel, rfl, by decide +kernel, by decide +kernel⟩
abbrev s__law_is_pairing : Stmt := topS 24
abbrev N__law_is_pairing : List Str := ["_law_one", "_law_other", "_law_thing", "_law_line", "_law_i", "_law_part"]
theorem sc__law_is_pairing : FnScope N__law_is_pairing ["_law_one", "_law_other", "_law_thing"] (defScope s__law_is_pairing) := ⟨rfl, rfl, rfl, by decide +kernel, rfl, by decide +kernel, by decide +kernel⟩
abbrev s__law_shifted : Stmt := topS 25
abbrev N__law_shifted : List Str := ["_law_pen_here", "_law_table_here", "_law_spoil", "_law_boxes", "_law_found", "_law_i", "_law_j", "_law_far", "_law_wide", "_law_much", "_law_changes", "_law_row", "_law_column", "_law_more", "_law_line"]
theorem sc__law_shifted : FnScope N__law_shifted ["_law_pen_here", "_law_table_here", "_law_spoil"] (defScope s__law_shifted) := ⟨rfl, rfl, rfl, by decide +kernel, rfl, by decide +kernel, by decide +kernel⟩
abbrev s__law_put : Stmt := topS 26
abbrev N__law_put : List Str := ["_law_some", "_law_at", "_law_thing"]
theorem sc__law_put : FnScope N__law_put ["_law_some", "_law_at", "_law_thing"] (defScope s__law_put) := ⟨rfl, rfl, rfl, by decide +kernel, rfl, by decide +kernel, by decide +kernel⟩
abbrev s__law_odd_share : Stmt := topS 27
abbrev N__law_odd_share : List Str := ["_law_pen_here", "_law_part", "_law_top", "_law_bottom", "_law_some"]
theorem sc__law_odd_share : FnScope N__law_odd_share ["_law_pen_here", "_law_part"] (defScope s__law_odd_share) := ⟨rfl, rfl, rfl, by decide +kernel, rfl, by decide +kernel, by decide +kernel⟩
abbrev s__law_odd : Stmt := topS 28
abbrev N__law_odd : List Str := ["_law_pen_here", "_law_thing", "_law_way", "_law_at", "_law_spot", "_law_line", "_law_lines", "_law_turned", "_law_some", "_law_k", "_law_one"]
theorem sc__law_odd : FnScope N__law_odd ["_law_pen_here", "_law_thing"] (defScope s__law_odd) := ⟨rfl, rfl, rfl, by decide +kernel, rfl, by decide +kernel, by decide +kernel⟩
abbrev s__law_told : Stmt := topS 29
abbrev N__law_told : List Str := ["_law_one", "_law_other", "_law_thing", "_law_found", "_law_caught", "e"]
theorem sc__law_told : FnScope N__law_told ["_law_one", "_law_other", "_law_thing"] (defScope s__law_told) := ⟨rfl, rfl, rfl, by decide +kernel, rfl, by decide +kernel, by decide +kernel⟩
abbrev s_law : Stmt := topS 30
abbrev N_law : List Str := ["_law_script", "_law_pen_here", "_law_turns", "_law_boxes", "_law_table_here", "_law_whole", "_law_one", "_law_other", "_law_good", "_law_some", "_law_k", "_law_spoil", "_law_thing", "_law_kept", "_law_told_here", "_law_wide", "_law_line"]
theorem sc_law : FnScope N_law ["_law_script"] (defScope s_law) := ⟨rfl, rfl, rfl, by decide +kernel, rfl, by decide +kernel, by decide +kernel⟩
/-- what the top leaves beside the defs -/
structure Txt (K : Fg) (mg : Str → Option Value) (ec : EC) : Prop where
  z_abs : mg "abs" = none
  z_all : mg "all" = none
  z_bool : mg "bool" = none
  z_int : mg "int" = none
  z_isinstance : mg "isinstance" = none
  z_len : mg "len" = none
  z_list : mg "list" = none
  z_range : mg "range" = none
  z_repr : mg "repr" = none
  z_str : mg "str" = none
  z_sum : mg "sum" = none
  z_tuple : mg "tuple" = none
  x_NoShare : ExcF K mg ec "NoShare" "NoShare"
  x_Unlike : ExcF K mg ec "Unlike" "Unlike"
  w : Bas ec.w
  exc : ∀ m, m ∈ ec.X → ExcC K (ec.f m)
  i_Unlike : IsF K mg ec "Unlike" "Unlike"
  c_BallError : CatF K mg ec "BallError" ["NoShare", "Unlike"]
section
variable {P : Program} {wo : World} {K : Fg} {mg : Str → Option Value} {base : Heap} {ec : EC}
theorem ok_is_whole (T : Txt K mg ec) (Df : DefF K mg "is_whole" s_is_whole ["thing"])   : Cal P wo K mg base ec "is_whole" ["thing"] f_is_whole 1 :=
  Df.cal fun F => fn_ok (k := 0) F sc_is_whole c_is_whole fun cdv A outer s H E hr tk hp => by
    have nd := sc_is_whole.nd
    have hu := hr.units
    have hu1 := hu_of hr
    have hw := T.w
    exact (b_one (s_ret (e_and (e_isi (T := "int") T.z_isinstance T.z_int PyProof.Rows.boot_int (by decide +kernel) (e_var 0)) (e_one (e_not (e_isi (T := "bool") T.z_isinstance T.z_bool PyProof.Rows.boot_bool (by decide +kernel) (e_var 0)))))))
theorem ok_measure (T : Txt K mg ec) (Df : DefF K mg "measure" s_measure ["a", "b"])   : Cal P wo K mg base ec "measure" ["a", "b"] f_measure 1 :=
  Df.cal fun F => fn_ok (k := 0) F sc_measure c_measure fun cdv A outer s H E hr tk hp => by
    have nd := sc_measure.nd
    have hu := hr.units
    have hu1 := hu_of hr
    have hw := T.w
    exact (b_cons (s_while (fun _ => 1000000) hp (t_cmp (OpR.or op_gt (op_gtV hu)) s_ord (e_var 1) e_int)
 (b_one (s_par 0 1 nd (e_var 1) (e_bin op_modN s_mod (e_var 0) (e_var 1)) (by decide))))
 (b_one (s_ret (e_var 0))))
theorem ok_share (T : Txt K mg ec) (Df : DefF K mg "share" s_share ["top", "bottom"])  (C_measure : Cal P wo K mg base ec "measure" ["a", "b"] f_measure 1) : Cal P wo K mg base ec "share" ["top", "bottom"] f_share 2 :=
  Df.cal fun F => fn_ok (k := 1) F sc_share c_share fun cdv A outer s H E hr tk hp => by
    have nd := sc_share.nd
    have hu := hr.units
    have hu1 := hu_of hr
    have hw := T.w
    exact (b_cons (s_if (t_cmp (op_eqV hu) s_eq (e_var 1) e_int)
 (b_one (s_raise T.x_NoShare tk))
 b_nil)
 (b_cons (s_set 2 nd (e_callP C_measure (hr.mono (by decide)) tk (l_cons (e_call1 call_abs s_abs T.z_abs PyProof.Rows.boot_abs (e_var 0)) (l_cons (e_call1 call_abs s_abs T.z_abs PyProof.Rows.boot_abs (e_var 1)) l_nil)) (ll_cons (ll_cons ll_nil))))
 (b_cons (s_if (t_cmp (OpR.or op_lt (op_ltV hu)) s_ord (e_var 1) e_int)
 (b_one (s_set 2 nd (e_bin op_sub s_sub e_int (e_var 2))))
 b_nil)
 (b_one (s_ret (e_tup (a_cons (e_bin op_fdivV s_div (e_var 0) (e_var 2)) (a_cons (e_bin op_fdivV s_div (e_var 1) (e_var 2)) a_nil)) (CLen.le (cl_cons (cl_cons cl_nil)) (by decide))))))))
theorem ok_is_share (T : Txt K mg ec) (Df : DefF K mg "is_share" s_is_share ["thing"])  (C_is_whole : Cal P wo K mg base ec "is_whole" ["thing"] f_is_whole 1) (C_measure : Cal P wo K mg base ec "measure" ["a", "b"] f_measure 1) : Cal P wo K mg base ec "is_share" ["thing"] f_is_share 2 :=
  Df.cal fun F => fn_ok (k := 1) F sc_is_share c_is_share fun cdv A outer s H E hr tk hp => by
    have nd := sc_is_share.nd
    have hu := hr.units
    have hu1 := hu_of hr
    have hw := T.w
    exact (b_cons (s_if (t_bop (p_or (t_not (t_of (e_isi (T := "tuple") T.z_isinstance T.z_tuple PyProof.Rows.boot_tuple (by decide +kernel) (e_var 0)))) (p_or (t_cmp (op_neV hu) s_ne (e_call1 call_lenV s_len T.z_len PySem.boot_len (e_var 0)) e_int) (p_or1 (t_not (t_of (e_call1 (cr_all rfl) s_all T.z_all (by decide +kernel) (e_lc (own := [("part", 1)]) nd (blkOk_by (own := [("part", 1)]) (N := N_is_share) (sc := defScope s_is_share) (by decide +kernel)) (i_seq (e_var 0)) (fun _ _ _ _ _ => (g_name 1 nd (by decide))) (fun _ _ _ _ _ => ts_nil) (fun _ _ _ _ _ => (e_callP C_is_whole (hr.mono (by decide)) takes0 (l_cons (e_var 1) l_nil) (ll_cons ll_nil)))))))))))
 (b_one (s_ret e_bool))
 b_nil)
 (b_one (s_ret (e_and (e_cmp (OpR.or op_gt (op_gtV hu)) s_ord (e_ixR ixr_V s_ix (e_var 0) e_int) e_int) (e_one (e_cmp (op_eqV hu) s_eq (e_callP C_measure (hr.mono (by decide)) tk (l_cons (e_call1 call_abs s_abs T.z_abs PyProof.Rows.boot_abs (e_ixR ixr_V s_ix (e_var 0) e_int)) (l_cons (e_ixR ixr_V s_ix (e_var 0) e_int) l_nil)) (ll_cons (ll_cons ll_nil))) e_int))))))
theorem ok_plus (T : Txt K mg ec) (Df : DefF K mg "plus" s_plus ["a", "b"])  (C_share : Cal P wo K mg base ec "share" ["top", "bottom"] f_share 2) : Cal P wo K mg base ec "plus" ["a", "b"] f_plus 3 :=
  Df.cal fun F => fn_ok (k := 2) F sc_plus c_plus fun cdv A outer s H E hr tk hp => by
    have nd := sc_plus.nd
    have hu := hr.units
    have hu1 := hu_of hr
    have hw := T.w
    exact (b_one (s_ret (e_callP C_share (hr.mono (by decide)) tk (l_cons (e_bin or_add s_add (e_bin or_mul s_mulV (e_ixR ixr_V s_ix (e_var 0) e_int) (e_ixR ixr_V s_ix (e_var 1) e_int)) (e_bin or_mul s_mulV (e_ixR ixr_V s_ix (e_var 1) e_int) (e_ixR ixr_V s_ix (e_var 0) e_int))) (l_cons (e_bin or_mul s_mulV (e_ixR ixr_V s_ix (e_var 0) e_int) (e_ixR ixr_V s_ix (e_var 1) e_int)) l_nil)) (ll_cons (ll_cons ll_nil)))))
theorem ok_total (T : Txt K mg ec) (Df : DefF K mg "total" s_total ["some"])  (C_plus : Cal P wo K mg base ec "plus" ["a", "b"] f_plus 3) : Cal P wo K mg base ec "total" ["some"] f_total 4 :=
  Df.cal fun F => fn_ok (k := 3) F sc_total c_total fun cdv A outer s H E hr tk hp => by
    have nd := sc_total.nd
    have hu := hr.units
    have hu1 := hu_of hr
    have hw := T.w
    exact (b_cons (s_set 1 nd (e_tup (a_cons e_int (a_cons e_int a_nil)) (CLen.le (cl_cons (cl_cons cl_nil)) (by decide))))
 (b_cons (s_for (own := [2]) hp (i_seq (e_var 0)) (g_name 2 nd (by decide))
 (b_one (s_set 1 nd (e_callP C_plus (hr.mono (by decide)) tk (l_cons (e_var 1) (l_cons (e_var 2) l_nil)) (ll_cons (ll_cons ll_nil))))))
 (b_one (s_ret (e_var 1)))))
theorem ok_need_alike (T : Txt K mg ec) (Df : DefF K mg "need_alike" s_need_alike ["one", "other"])   : Cal P wo K mg base ec "need_alike" ["one", "other"] f_need_alike 1 :=
  Df.cal fun F => fn_ok (k := 0) F sc_need_alike c_need_alike fun cdv A outer s H E hr tk hp => by
    have nd := sc_need_alike.nd
    have hu := hr.units
    have hu1 := hu_of hr
    have hw := T.w
    exact (b_one (s_if (t_cmp (op_neV hu) s_ne (e_call1 call_lenV s_len T.z_len PySem.boot_len (e_var 0)) (e_call1 call_lenV s_len T.z_len PySem.boot_len (e_var 1)))
 (b_one (s_raise T.x_Unlike tk))
 b_nil))
theorem ok_is_table (T : Txt K mg ec) (Df : DefF K mg "is_table" s_is_table ["boxes", "thing"])  (C_is_share : Cal P wo K mg base ec "is_share" ["thing"] f_is_share 2) : Cal P wo K mg base ec "is_table" ["boxes", "thing"] f_is_table 3 :=
  Df.cal fun F => fn_ok (k := 2) F sc_is_table c_is_table fun cdv A outer s H E hr tk hp => by
    have nd := sc_is_table.nd
    have hu := hr.units
    have hu1 := hu_of hr
    have hw := T.w
    exact (b_cons (s_if (t_bop (p_or (t_not (t_of (e_isi (T := "tuple") T.z_isinstance T.z_tuple PyProof.Rows.boot_tuple (by decide +kernel) (e_var 1)))) (p_or1 (t_cmp (op_neV hu) s_ne (e_call1 call_lenV s_len T.z_len PySem.boot_len (e_var 1)) (e_var 0)))))
 (b_one (s_ret e_bool))
 b_nil)
 (b_cons (s_for (own := [2]) hp (i_seq (e_var 1)) (g_name 2 nd (by decide))
 (b_cons (s_if (t_bop (p_or (t_not (t_of (e_isi (T := "tuple") T.z_isinstance T.z_tuple PyProof.Rows.boot_tuple (by decide +kernel) (e_var 2)))) (p_or1 (t_cmp (op_neV hu) s_ne (e_call1 call_lenV s_len T.z_len PySem.boot_len (e_var 2)) (e_var 0)))))
 (b_one (s_ret e_bool))
 b_nil)
 (b_one (s_for (own := [3]) hp (i_seq (e_var 2)) (g_name 3 nd (by decide))
 (b_one (s_if (t_bop (p_or (t_not (t_of (e_callP C_is_share (hr.mono (by decide)) tk (l_cons (e_var 3) l_nil) (ll_cons ll_nil)))) (p_or1 (t_cmp (OpR.or op_lt (op_ltV hu)) s_ord (e_ixR ixr_V s_ix (e_var 3) e_int) e_int))))
 (b_one (s_ret e_bool))
 b_nil))))))
 (b_one (s_ret e_bool))))
theorem ok_lets_pairing (T : Txt K mg ec) (Df : DefF K mg "lets_pairing" s_lets_pairing ["one", "other", "thing"])  (C_total : Cal P wo K mg base ec "total" ["some"] f_total 4) (C_need_alike : Cal P wo K mg base ec "need_alike" ["one", "other"] f_need_alike 1) (C_is_table : Cal P wo K mg base ec "is_table" ["boxes", "thing"] f_is_table 3) : Cal P wo K mg base ec "lets_pairing" ["one", "other", "thing"] f_lets_pairing 5 :=
  Df.cal fun F => fn_ok (k := 4) F sc_lets_pairing c_lets_pairing fun cdv A outer s H E hr tk hp => by
    have nd := sc_lets_pairing.nd
    have hu := hr.units
    have hu1 := hu_of hr
    have hw := T.w
    exact (b_cons (s_expr (e_callP C_need_alike (hr.mono (by decide)) tk (l_cons (e_var 0) (l_cons (e_var 1) l_nil)) (ll_cons (ll_cons ll_nil))))
 (b_cons (s_set 3 nd (e_call1 call_lenV s_len T.z_len PySem.boot_len (e_var 0)))
 (b_cons (s_if (t_not (t_of (e_callP C_is_table (hr.mono (by decide)) tk (l_cons (e_var 3) (l_cons (e_var 2) l_nil)) (ll_cons (ll_cons ll_nil)))))
 (b_one (s_ret e_bool))
 b_nil)
 (b_cons (s_for (own := [4]) hp (i_range1 (e_var 3) T.z_range) (g_name 4 nd (by decide))
 (b_cons (s_if (t_bop (p_or (t_cmp (op_neV hu) s_ne (e_callP C_total (hr.mono (by decide)) tk (l_cons (e_callT1 call_list_of s_list T.z_list (by decide +kernel) (e_ixR ixr_V s_ix (e_var 2) (e_var 4))) l_nil) (ll_cons ll_nil)) (e_ixR ixr_V s_ix (e_var 0) (e_var 4))) (p_or1 (t_cmp (op_neV hu) s_ne (e_callP C_total (hr.mono (by decide)) tk (l_cons (e_lc (own := [("row", 5)]) nd (blkOk_by (own := [("row", 5)]) (N := N_lets_pairing) (sc := defScope s_lets_pairing) (by decide +kernel)) (i_seq (e_var 2)) (fun _ _ _ _ _ => (g_name 5 nd (by decide))) (fun _ _ _ _ _ => ts_nil) (fun _ _ _ _ _ => (e_ixR ixr_V s_ix (e_var 5) (e_var 4)))) l_nil) (ll_cons ll_nil)) (e_ixR ixr_V s_ix (e_var 1) (e_var 4))))))
 (b_one (s_ret e_bool))
 b_nil)
 (b_one (s_if (t_cmp (op_neV hu) s_ne (e_lc (own := [("part", 6)]) nd (blkOk_by (own := [("part", 6)]) (N := N_lets_pairing) (sc := defScope s_lets_pairing) (by decide +kernel)) (i_seq (e_sl (e_ixR ixr_V s_ix (e_var 2) (e_var 4)) (o_some (e_bin or_add s_add (e_var 4) e_int)) o_none)) (fun _ _ _ _ _ => (g_name 6 nd (by decide))) (fun _ _ _ _ _ => (ts_one (t_cmp (op_neV hu) s_ne (e_ixR ixr_V s_ix (e_var 6) e_int) e_int))) (fun _ _ _ _ _ => (e_var 6))) (e_lst a_nil (CLen.le cl_nil (by decide))))
 (b_one (s_ret e_bool))
 b_nil))))
 (b_one (s_ret e_bool))))))
theorem ok__law_pen (T : Txt K mg ec) (Df : DefF K mg "_law_pen" s__law_pen ["_law_script"])   : Cal P wo K mg base ec "_law_pen" ["_law_script"] f__law_pen 1 :=
  Df.cal fun F => fn_ok (k := 0) F sc__law_pen c__law_pen fun cdv A outer s H E hr tk hp => by
    have nd := sc__law_pen.nd
    have hu := hr.units
    have hu1 := hu_of hr
    have hw := T.w
    exact (b_one (s_ret (e_lst (a_cons (e_var 0) (a_cons e_int (a_cons e_int a_nil))) (CLen.le (cl_cons (cl_cons (cl_cons cl_nil))) (by decide)))))
theorem ok__law_take (T : Txt K mg ec) (Df : DefF K mg "_law_take" s__law_take ["_law_pen_here", "_law_many"])   : Cal P wo K mg base ec "_law_take" ["_law_pen_here", "_law_many"] f__law_take 1 :=
  Df.cal fun F => fn_ok (k := 0) F sc__law_take c__law_take fun cdv A outer s H E hr tk hp => by
    have nd := sc__law_take.nd
    have hu := hr.units
    have hu1 := hu_of hr
    have hw := T.w
    exact (b_cons (s_if (t_cmp (OpR.or op_gt (op_gtV hu)) s_ord (e_ixR ixr_V s_ix (e_var 0) e_int) e_int)
 (b_cons (s_set 2 nd (e_bin op_modN s_mod (e_ixR ixr_V s_ix (e_var 0) e_int) (e_var 1)))
 (b_cons (s_putL (e_var 0) e_int (e_bin op_fdivV s_div (e_ixR ixr_V s_ix (e_var 0) e_int) (e_var 1)))
 (b_one (s_ret (e_var 2)))))
 b_nil)
 (b_cons (s_set 3 nd (e_ixR ixr_V s_ix (e_var 0) e_int))
 (b_cons (s_putL (e_var 0) e_int (e_bin or_add s_add (e_var 3) e_int))
 (b_cons (s_set 4 nd (e_bin or_add s_add (e_bin or_mul s_mulV e_int (e_var 3)) e_int))
 (b_cons (s_if (t_cmp (OpR.or op_gt (op_gtV hu)) s_ord (e_call1 call_lenV s_len T.z_len PySem.boot_len (e_ixR ixr_V s_ix (e_var 0) e_int)) e_int)
 (b_one (s_set 4 nd (e_ixR ixr_V s_ix (e_ixR ixr_V s_ix (e_var 0) e_int) (e_bin op_modN s_mod (e_var 3) (e_call1 call_lenV s_len T.z_len PySem.boot_len (e_ixR ixr_V s_ix (e_var 0) e_int))))))
 b_nil)
 (b_cons (s_if (t_bop (p_and (t_cmp (OpR.or op_lt (op_ltV hu)) s_ord (e_var 3) (e_call1 call_lenV s_len T.z_len PySem.boot_len (e_ixR ixr_V s_ix (e_var 0) e_int))) (p_and1 (t_cmp (OpR.or op_ge (op_geV hu)) s_ord (e_call1 call_abs s_abs T.z_abs PyProof.Rows.boot_abs (e_var 4)) (e_bin op_pow s_pow e_int e_int)))))
 (b_cons (s_putL (e_var 0) e_int (e_bin op_fdivV s_div (e_call1 call_abs s_abs T.z_abs PyProof.Rows.boot_abs (e_var 4)) (e_var 1)))
 (b_one (s_ret (e_bin op_modN s_mod (e_call1 call_abs s_abs T.z_abs PyProof.Rows.boot_abs (e_var 4)) (e_var 1)))))
 b_nil)
 (b_cons (s_set 5 nd (e_ixR ixr_V s_ix (e_tup (a_cons e_int (a_cons e_int (a_cons e_int (a_cons e_int (a_cons e_int (a_cons e_int (a_cons e_int a_nil))))))) (CLen.le (cl_cons (cl_cons (cl_cons (cl_cons (cl_cons (cl_cons (cl_cons cl_nil))))))) (by decide))) (e_bin op_modN s_mod (e_var 3) e_int)))
 (b_cons (s_set 6 nd (e_bin op_modN s_mod (e_bin op_pow s_pow (e_bin or_add s_add (e_bin or_mul s_mulV (e_bin op_modN s_mod (e_var 4) (e_var 5)) (e_bin or_add s_add (e_bin or_mul s_mulV e_int (e_var 3)) e_int)) (e_var 3)) e_int) (e_var 5)))
 (b_cons (s_set 6 nd (e_bin op_modN s_mod (e_bin or_add s_add (e_bin or_mul s_mulV (e_var 6) (e_bin or_add s_add (e_bin or_add s_add (e_bin op_modN s_mod (e_var 6) e_int) (e_var 3)) e_int)) (e_bin op_modN s_mod (e_var 4) e_int)) e_int))
 (b_one (s_ret (e_bin op_modN s_mod (e_bin op_fdivV s_div (e_var 6) e_int) (e_var 1)))))))))))))
theorem ok__law_share (T : Txt K mg ec) (Df : DefF K mg "_law_share" s__law_share ["_law_top", "_law_bottom"])   : Cal P wo K mg base ec "_law_share" ["_law_top", "_law_bottom"] f__law_share 1 :=
  Df.cal fun F => fn_ok (k := 0) F sc__law_share c__law_share fun cdv A outer s H E hr tk hp => by
    have nd := sc__law_share.nd
    have hu := hr.units
    have hu1 := hu_of hr
    have hw := T.w
    exact (b_cons (s_set 2 nd (e_call1 call_abs s_abs T.z_abs PyProof.Rows.boot_abs (e_var 0)))
 (b_cons (s_set 3 nd (e_var 1))
 (b_cons (s_while (fun _ => 1000000) hp (t_cmp (OpR.or op_gt (op_gtV hu)) s_ord (e_var 3) e_int)
 (b_one (s_par 2 3 nd (e_var 3) (e_bin op_modN s_mod (e_var 2) (e_var 3)) (by decide))))
 (b_one (s_ret (e_tup (a_cons (e_bin op_fdivV s_div (e_var 0) (e_var 2)) (a_cons (e_bin op_fdivV s_div (e_var 1) (e_var 2)) a_nil)) (CLen.le (cl_cons (cl_cons cl_nil)) (by decide))))))))
theorem ok__law_sum (T : Txt K mg ec) (Df : DefF K mg "_law_sum" s__law_sum ["_law_some"])  (C__law_share : Cal P wo K mg base ec "_law_share" ["_law_top", "_law_bottom"] f__law_share 1) : Cal P wo K mg base ec "_law_sum" ["_law_some"] f__law_sum 2 :=
  Df.cal fun F => fn_ok (k := 1) F sc__law_sum c__law_sum fun cdv A outer s H E hr tk hp => by
    have nd := sc__law_sum.nd
    have hu := hr.units
    have hu1 := hu_of hr
    have hw := T.w
    exact (b_cons (s_set 1 nd e_int)
 (b_cons (s_set 2 nd e_int)
 (b_cons (s_for (own := [3]) hp (i_seq (e_var 0)) (g_name 3 nd (by decide))
 (b_one (s_asg (own := [1, 2]) (e_callP C__law_share (hr.mono (by decide)) tk (l_cons (e_bin or_add s_add (e_bin or_mul s_mulV (e_var 1) (e_ixR ixr_V s_ix (e_var 3) e_int)) (e_bin or_mul s_mulV (e_ixR ixr_V s_ix (e_var 3) e_int) (e_var 2))) (l_cons (e_bin or_mul s_mulV (e_var 2) (e_ixR ixr_V s_ix (e_var 3) e_int)) l_nil)) (ll_cons (ll_cons ll_nil))) (g_tup (gs_cons (g_name 1 nd (by decide)) (gs_cons (g_name 2 nd (by decide)) gs_nil))))))
 (b_one (s_ret (e_tup (a_cons (e_var 1) (a_cons (e_var 2) a_nil)) (CLen.le (cl_cons (cl_cons cl_nil)) (by decide))))))))
theorem ok__law_table (T : Txt K mg ec) (Df : DefF K mg "_law_table" s__law_table ["_law_pen_here", "_law_boxes"])  (C__law_take : Cal P wo K mg base ec "_law_take" ["_law_pen_here", "_law_many"] f__law_take 1) : Cal P wo K mg base ec "_law_table" ["_law_pen_here", "_law_boxes"] f__law_table 2 :=
  Df.cal fun F => fn_ok (k := 1) F sc__law_table c__law_table fun cdv A outer s H E hr tk hp => by
    have nd := sc__law_table.nd
    have hu := hr.units
    have hu1 := hu_of hr
    have hw := T.w
    exact (b_cons (s_set 2 nd (e_ixR ixr_V s_ix (e_tup (a_cons e_int (a_cons e_int (a_cons e_int (a_cons (e_ixR ixr_V s_ix (e_tup (a_cons e_int (a_cons e_int a_nil)) (CLen.le (cl_cons (cl_cons cl_nil)) (by decide))) (e_callT1 call_int1 s_int T.z_int (by decide +kernel) (e_cmp (OpR.or op_gt (op_gtV hu)) s_ord (e_var 1) e_int))) a_nil)))) (CLen.le (cl_cons (cl_cons (cl_cons (cl_cons cl_nil)))) (by decide))) (e_callC C__law_take (hr.mono (by decide)) tk (l_cons (e_var 0) (l_cons e_int l_nil)) (ll_cons (ll_cons ll_nil)))))
 (b_cons (s_set 3 nd (e_callC C__law_take (hr.mono (by decide)) tk (l_cons (e_var 0) (l_cons (e_var 1) l_nil)) (ll_cons (ll_cons ll_nil))))
 (b_cons (s_setLcN 4 (own := [("_law_i", 5)]) nd (blkOk_by (own := [("_law_i", 5)]) (N := N__law_table) (sc := defScope s__law_table) (by decide +kernel)) (i_range1 (e_var 1) T.z_range) (fun _ _ _ _ _ => (g_name 5 nd (by decide))) (fun _ _ _ _ _ => ts_nil) (fun _ _ _ _ _ => (e_lc (own := [("_law_j", 6)]) nd (blkOk_in (own := [("_law_j", 6)]) (N := N__law_table) (by rfl) (by decide +kernel)) (i_range1 (e_var 1) T.z_range) (fun _ _ _ _ _ => (g_name 6 nd (by decide))) (fun _ _ _ _ _ => ts_nil) (fun _ _ _ _ _ => (e_bin or_mul s_mulV (e_callC C__law_take (hr.mono (by decide)) takes0 (l_cons (e_var 0) (l_cons (e_var 2) l_nil)) (ll_cons (ll_cons ll_nil))) (e_callT1 call_int1 s_int T.z_int (by decide +kernel) (e_cmp (OpR.or op_le (op_leV hu)) s_ord (e_var 6) (e_var 5))))))))
 (b_cons (s_if (t_cmp (op_eqV hu) s_eq (e_call1 (call_sumV rfl) s_sum T.z_sum (by decide +kernel) (e_lcE (own := [("_law_line", 7)]) nd (blkOk_by (own := [("_law_line", 7)]) (N := N__law_table) (sc := defScope s__law_table) (by decide +kernel)) (i_T (e_var 4)) (fun _ _ _ _ _ => (g_nameE 7 nd (by decide))) (fun _ _ _ _ _ => ts_nil) (fun _ _ _ _ _ => (e_call1 (call_sumV rfl) s_sum T.z_sum (by decide +kernel) (e_var 7))))) e_int)
 (b_one (s_putL (e_ixT (e_var 4) (e_var 3)) e_int e_int))
 b_nil)
 (b_one (s_ret (e_fzE 4)))))))
theorem ok__law_shares (T : Txt K mg ec) (Df : DefF K mg "_law_shares" s__law_shares ["_law_table_here", "_law_whole"])  (C__law_share : Cal P wo K mg base ec "_law_share" ["_law_top", "_law_bottom"] f__law_share 1) : Cal P wo K mg base ec "_law_shares" ["_law_table_here", "_law_whole"] f__law_shares 2 :=
  Df.cal fun F => fn_ok (k := 1) F sc__law_shares c__law_shares fun cdv A outer s H E hr tk hp => by
    have nd := sc__law_shares.nd
    have hu := hr.units
    have hu1 := hu_of hr
    have hw := T.w
    exact (b_one (s_ret (e_callT1 call_tuple_of s_tuple T.z_tuple (by decide +kernel) (e_lc (own := [("_law_line", 2)]) nd (blkOk_by (own := [("_law_line", 2)]) (N := N__law_shares) (sc := defScope s__law_shares) (by decide +kernel)) (i_seq (e_var 0)) (fun _ _ _ _ _ => (g_name 2 nd (by decide))) (fun _ _ _ _ _ => ts_nil) (fun _ _ _ _ _ => (e_callT1 call_tuple_of s_tuple T.z_tuple (by decide +kernel) (e_lc (own := [("_law_part", 3)]) nd (blkOk_in (own := [("_law_part", 3)]) (N := N__law_shares) (by rfl) (by decide +kernel)) (i_seq (e_var 2)) (fun _ _ _ _ _ => (g_name 3 nd (by decide))) (fun _ _ _ _ _ => ts_nil) (fun _ _ _ _ _ => (e_callP C__law_share (hr.mono (by decide)) takes0 (l_cons (e_var 3) (l_cons (e_var 1) l_nil)) (ll_cons (ll_cons ll_nil)))))))))))
theorem ok__law_is_share (T : Txt K mg ec) (Df : DefF K mg "_law_is_share" s__law_is_share ["_law_thing"])  (C__law_share : Cal P wo K mg base ec "_law_share" ["_law_top", "_law_bottom"] f__law_share 1) : Cal P wo K mg base ec "_law_is_share" ["_law_thing"] f__law_is_share 2 :=
  Df.cal fun F => fn_ok (k := 1) F sc__law_is_share c__law_is_share fun cdv A outer s H E hr tk hp => by
    have nd := sc__law_is_share.nd
    have hu := hr.units
    have hu1 := hu_of hr
    have hw := T.w
    exact (b_cons (s_if (t_bop (p_or (t_not (t_of (e_isi (T := "tuple") T.z_isinstance T.z_tuple PyProof.Rows.boot_tuple (by decide +kernel) (e_var 0)))) (p_or1 (t_cmp (op_neV hu) s_ne (e_call1 call_lenV s_len T.z_len PySem.boot_len (e_var 0)) e_int))))
 (b_one (s_ret e_bool))
 b_nil)
 (b_cons (s_for (own := [1]) hp (i_seq (e_var 0)) (g_name 1 nd (by decide))
 (b_one (s_if (t_bop (p_or (t_not (t_of (e_isi (T := "int") T.z_isinstance T.z_int PyProof.Rows.boot_int (by decide +kernel) (e_var 1)))) (p_or (t_of (e_isi (T := "bool") T.z_isinstance T.z_bool PyProof.Rows.boot_bool (by decide +kernel) (e_var 1))) (p_or1 (t_cmp (OpR.or op_lt (op_ltV hu)) s_ord (e_var 1) e_int)))))
 (b_one (s_ret e_bool))
 b_nil)))
 (b_one (s_ret (e_and (e_cmp (OpR.or op_gt (op_gtV hu)) s_ord (e_ixR ixr_V s_ix (e_var 0) e_int) e_int) (e_one (e_cmp (op_eqV hu) s_eq (e_callP C__law_share (hr.mono (by decide)) tk (l_cons (e_ixR ixr_V s_ix (e_var 0) e_int) (l_cons (e_ixR ixr_V s_ix (e_var 0) e_int) l_nil)) (ll_cons (ll_cons ll_nil))) (e_var 0))))))))
theorem ok__law_is_pairing (T : Txt K mg ec) (Df : DefF K mg "_law_is_pairing" s__law_is_pairing ["_law_one", "_law_other", "_law_thing"])  (C__law_sum : Cal P wo K mg base ec "_law_sum" ["_law_some"] f__law_sum 2) (C__law_is_share : Cal P wo K mg base ec "_law_is_share" ["_law_thing"] f__law_is_share 2) : Cal P wo K mg base ec "_law_is_pairing" ["_law_one", "_law_other", "_law_thing"] f__law_is_pairing 3 :=
  Df.cal fun F => fn_ok (k := 2) F sc__law_is_pairing c__law_is_pairing fun cdv A outer s H E hr tk hp => by
    have nd := sc__law_is_pairing.nd
    have hu := hr.units
    have hu1 := hu_of hr
    have hw := T.w
    exact (b_cons (s_if (t_bop (p_or (t_not (t_of (e_isi (T := "tuple") T.z_isinstance T.z_tuple PyProof.Rows.boot_tuple (by decide +kernel) (e_var 2)))) (p_or1 (t_cmp (op_neV hu) s_ne (e_call1 call_lenV s_len T.z_len PySem.boot_len (e_var 2)) (e_call1 call_lenV s_len T.z_len PySem.boot_len (e_var 0))))))
 (b_one (s_ret e_bool))
 b_nil)
 (b_cons (s_for (own := [3]) hp (i_seq (e_var 2)) (g_name 3 nd (by decide))
 (b_cons (s_if (t_bop (p_or (t_not (t_of (e_isi (T := "tuple") T.z_isinstance T.z_tuple PyProof.Rows.boot_tuple (by decide +kernel) (e_var 3)))) (p_or1 (t_cmp (op_neV hu) s_ne (e_call1 call_lenV s_len T.z_len PySem.boot_len (e_var 3)) (e_call1 call_lenV s_len T.z_len PySem.boot_len (e_var 0))))))
 (b_one (s_ret e_bool))
 b_nil)
 (b_one (s_if (t_cmp (OpR.or (op_neNil hu) (op_neV hu)) s_neE (e_lc (own := [("_law_part", 5)]) nd (blkOk_by (own := [("_law_part", 5)]) (N := N__law_is_pairing) (sc := defScope s__law_is_pairing) (by decide +kernel)) (i_seq (e_var 3)) (fun _ _ _ _ _ => (g_name 5 nd (by decide))) (fun _ _ _ _ _ => (ts_one (t_not (t_of (e_callP C__law_is_share (hr.mono (by decide)) takes0 (l_cons (e_var 5) l_nil) (ll_cons ll_nil)))))) (fun _ _ _ _ _ => (e_var 5))) (e_lst a_nil (CLen.le cl_nil (by decide))))
 (b_one (s_ret e_bool))
 b_nil))))
 (b_cons (s_for (own := [4]) hp (i_range1 (e_call1 call_lenV s_len T.z_len PySem.boot_len (e_var 0)) T.z_range) (g_name 4 nd (by decide))
 (b_cons (s_if (t_bop (p_or (t_cmp (op_neV hu) s_ne (e_callP C__law_sum (hr.mono (by decide)) tk (l_cons (e_ixR ixr_V s_ix (e_var 2) (e_var 4)) l_nil) (ll_cons ll_nil)) (e_ixR ixr_V s_ix (e_var 0) (e_var 4))) (p_or1 (t_cmp (op_neV hu) s_ne (e_callP C__law_sum (hr.mono (by decide)) tk (l_cons (e_lc (own := [("_law_line", 3)]) nd (blkOk_by (own := [("_law_line", 3)]) (N := N__law_is_pairing) (sc := defScope s__law_is_pairing) (by decide +kernel)) (i_seq (e_var 2)) (fun _ _ _ _ _ => (g_name 3 nd (by decide))) (fun _ _ _ _ _ => ts_nil) (fun _ _ _ _ _ => (e_ixR ixr_V s_ix (e_var 3) (e_var 4)))) l_nil) (ll_cons ll_nil)) (e_ixR ixr_V s_ix (e_var 1) (e_var 4))))))
 (b_one (s_ret e_bool))
 b_nil)
 (b_one (s_if (t_cmp (OpR.or (op_neNil hu) (op_neV hu)) s_neE (e_lc (own := [("_law_part", 5)]) nd (blkOk_by (own := [("_law_part", 5)]) (N := N__law_is_pairing) (sc := defScope s__law_is_pairing) (by decide +kernel)) (i_seq (e_sl (e_ixR ixr_V s_ix (e_var 2) (e_var 4)) (o_some (e_bin or_add s_add (e_var 4) e_int)) o_none)) (fun _ _ _ _ _ => (g_name 5 nd (by decide))) (fun _ _ _ _ _ => (ts_one (t_cmp (op_neV hu) s_ne (e_var 5) (e_tup (a_cons e_int (a_cons e_int a_nil)) (CLen.le (cl_cons (cl_cons cl_nil)) (by decide)))))) (fun _ _ _ _ _ => (e_var 5))) (e_lst a_nil (CLen.le cl_nil (by decide))))
 (b_one (s_ret e_bool))
 b_nil))))
 (b_one (s_ret e_bool)))))
theorem ok__law_shifted (T : Txt K mg ec) (Df : DefF K mg "_law_shifted" s__law_shifted ["_law_pen_here", "_law_table_here", "_law_spoil"])  (C__law_take : Cal P wo K mg base ec "_law_take" ["_law_pen_here", "_law_many"] f__law_take 1) : Cal P wo K mg base ec "_law_shifted" ["_law_pen_here", "_law_table_here", "_law_spoil"] f__law_shifted 2 :=
  Df.cal fun F => fn_ok (k := 1) F sc__law_shifted c__law_shifted fun cdv A outer s H E hr tk hp => by
    have nd := sc__law_shifted.nd
    have hu := hr.units
    have hu1 := hu_of hr
    have hw := T.w
    exact (b_cons (s_set 3 nd (e_call1 call_lenV s_len T.z_len PySem.boot_len (e_var 1)))
 (b_cons (s_setLcN 4 (own := [("_law_line", 14)]) nd (blkOk_by (own := [("_law_line", 14)]) (N := N__law_shifted) (sc := defScope s__law_shifted) (by decide +kernel)) (i_seq (e_var 1)) (fun _ _ _ _ _ => (g_name 14 nd (by decide))) (fun _ _ _ _ _ => ts_nil) (fun _ _ _ _ _ => (e_callT1 call_list_of s_list T.z_list (by decide +kernel) (e_var 14))))
 (b_cons (s_set 5 nd (e_callC C__law_take (hr.mono (by decide)) tk (l_cons (e_var 0) (l_cons (e_var 3) l_nil)) (ll_cons (ll_cons ll_nil))))
 (b_cons (s_set 6 nd (e_callC C__law_take (hr.mono (by decide)) tk (l_cons (e_var 0) (l_cons (e_var 3) l_nil)) (ll_cons (ll_cons ll_nil))))
 (b_cons (s_set 7 nd (e_callC C__law_take (hr.mono (by decide)) tk (l_cons (e_var 0) (l_cons (e_var 3) l_nil)) (ll_cons (ll_cons ll_nil))))
 (b_cons (s_set 8 nd (e_callC C__law_take (hr.mono (by decide)) tk (l_cons (e_var 0) (l_cons (e_var 3) l_nil)) (ll_cons (ll_cons ll_nil))))
 (b_cons (s_set 9 nd (e_bin or_add s_add e_int (e_callC C__law_take (hr.mono (by decide)) tk (l_cons (e_var 0) (l_cons e_int l_nil)) (ll_cons (ll_cons ll_nil)))))
 (b_cons (s_set 10 nd (e_ixR ixr_V s_ix (e_lst (a_cons (e_lst (a_cons (e_tup (a_cons (e_var 5) (a_cons (e_var 6) (a_cons (e_var 9) a_nil))) (CLen.le (cl_cons (cl_cons (cl_cons cl_nil))) (by decide))) (a_cons (e_tup (a_cons (e_var 7) (a_cons (e_var 6) (a_cons (e_un un_neg s_neg (e_var 9)) a_nil))) (CLen.le (cl_cons (cl_cons (cl_cons cl_nil))) (by decide))) a_nil)) (CLen.le (cl_cons (cl_cons cl_nil)) (by decide))) (a_cons (e_lst (a_cons (e_tup (a_cons (e_var 5) (a_cons (e_var 6) (a_cons (e_var 9) a_nil))) (CLen.le (cl_cons (cl_cons (cl_cons cl_nil))) (by decide))) (a_cons (e_tup (a_cons (e_var 5) (a_cons (e_var 8) (a_cons (e_un un_neg s_neg (e_var 9)) a_nil))) (CLen.le (cl_cons (cl_cons (cl_cons cl_nil))) (by decide))) a_nil)) (CLen.le (cl_cons (cl_cons cl_nil)) (by decide))) (a_cons (e_lst (a_cons (e_tup (a_cons (e_var 5) (a_cons (e_var 6) (a_cons (e_var 9) a_nil))) (CLen.le (cl_cons (cl_cons (cl_cons cl_nil))) (by decide))) a_nil) (CLen.le (cl_cons cl_nil) (by decide))) a_nil))) (CLen.le (cl_cons (cl_cons (cl_cons cl_nil))) (by decide))) (e_bin op_modN s_mod (e_var 2) e_int)))
 (b_cons (s_if (t_cmp (OpR.or op_gt (op_gtV hu)) s_ord (e_var 2) e_int)
 (b_one (s_set 10 nd (e_lst (a_cons (e_tup (a_cons (e_var 5) (a_cons (e_var 6) (a_cons (e_var 9) a_nil))) (CLen.le (cl_cons (cl_cons (cl_cons cl_nil))) (by decide))) (a_cons (e_tup (a_cons (e_var 7) (a_cons (e_var 8) (a_cons (e_var 9) a_nil))) (CLen.le (cl_cons (cl_cons (cl_cons cl_nil))) (by decide))) (a_cons (e_tup (a_cons (e_var 5) (a_cons (e_var 8) (a_cons (e_un un_neg s_neg (e_var 9)) a_nil))) (CLen.le (cl_cons (cl_cons (cl_cons cl_nil))) (by decide))) (a_cons (e_tup (a_cons (e_var 7) (a_cons (e_var 6) (a_cons (e_un un_neg s_neg (e_var 9)) a_nil))) (CLen.le (cl_cons (cl_cons (cl_cons cl_nil))) (by decide))) a_nil)))) (CLen.le (cl_cons (cl_cons (cl_cons (cl_cons cl_nil)))) (by decide)))))
 b_nil)
 (b_cons (s_for (own := [11, 12, 13]) hp (i_seq (e_var 10)) (g_tup (gs_cons (g_name 11 nd (by decide)) (gs_cons (g_name 12 nd (by decide)) (gs_cons (g_name 13 nd (by decide)) gs_nil))))
 (b_one (s_putL (e_ixT (e_var 4) (e_var 11)) (e_var 12) (e_bin or_add s_add (e_ixR ixr_V s_ix (e_ixT (e_var 4) (e_var 11)) (e_var 12)) (e_var 13)))))
 (b_one (s_ret (e_fzE 4)))))))))))))
theorem ok__law_put (T : Txt K mg ec) (Df : DefF K mg "_law_put" s__law_put ["_law_some", "_law_at", "_law_thing"])   : Cal P wo K mg base ec "_law_put" ["_law_some", "_law_at", "_law_thing"] f__law_put 1 :=
  Df.cal fun F => fn_ok (k := 0) F sc__law_put c__law_put fun cdv A outer s H E hr tk hp => by
    have nd := sc__law_put.nd
    have hu := hr.units
    have hu1 := hu_of hr
    have hw := T.w
    exact (b_one (s_ret (e_bin or_add s_add (e_bin or_add s_add (e_sl (e_var 0) o_none (o_some (e_var 1))) (e_tup (a_cons (e_var 2) a_nil) (CLen.le (cl_cons cl_nil) (by decide)))) (e_sl (e_var 0) (o_some (e_bin or_add s_add (e_var 1) e_int)) o_none))))
theorem ok__law_odd_share (T : Txt K mg ec) (Df : DefF K mg "_law_odd_share" s__law_odd_share ["_law_pen_here", "_law_part"])  (C__law_take : Cal P wo K mg base ec "_law_take" ["_law_pen_here", "_law_many"] f__law_take 1) : Cal P wo K mg base ec "_law_odd_share" ["_law_pen_here", "_law_part"] f__law_odd_share 2 :=
  Df.cal fun F => fn_ok (k := 1) F sc__law_odd_share c__law_odd_share fun cdv A outer s H E hr tk hp => by
    have nd := sc__law_odd_share.nd
    have hu := hr.units
    have hu1 := hu_of hr
    have hw := T.w
    exact (b_cons (s_asg (own := [2, 3]) (e_var 1) (g_tup (gs_cons (g_name 2 nd (by decide)) (gs_cons (g_name 3 nd (by decide)) gs_nil))))
 (b_cons (s_set 4 nd (e_lst (a_cons (e_tup (a_cons (e_bin or_mul s_mulV e_int (e_var 2)) (a_cons (e_bin or_mul s_mulV e_int (e_var 3)) a_nil)) (CLen.le (cl_cons (cl_cons cl_nil)) (by decide))) (a_cons (e_tup (a_cons (e_bin op_sub s_sub e_int (e_var 2)) (a_cons (e_bin op_sub s_sub e_int (e_var 3)) a_nil)) (CLen.le (cl_cons (cl_cons cl_nil)) (by decide))) (a_cons (e_tup (a_cons (e_bin op_sub s_sub (e_var 2) (e_var 3)) (a_cons (e_var 3) a_nil)) (CLen.le (cl_cons (cl_cons cl_nil)) (by decide))) (a_cons (e_lst (a_cons (e_var 2) (a_cons (e_var 3) a_nil)) (CLen.le (cl_cons (cl_cons cl_nil)) (by decide))) (a_cons (e_tup (a_cons (e_var 2) a_nil) (CLen.le (cl_cons cl_nil) (by decide))) a_nil))))) (CLen.le (cl_cons (cl_cons (cl_cons (cl_cons (cl_cons cl_nil))))) (by decide))))
 (b_cons (s_set 4 nd (e_bin or_add s_add (e_var 4) (e_lst (a_cons (e_tup (a_cons (e_var 2) (a_cons (e_var 3) (a_cons e_int a_nil))) (CLen.le (cl_cons (cl_cons (cl_cons cl_nil))) (by decide))) (a_cons (e_var 2) (a_cons e_none (a_cons (e_tup (a_cons (e_cmp (op_eqV hu) s_eq (e_var 2) e_int) (a_cons (e_var 3) a_nil)) (CLen.le (cl_cons (cl_cons cl_nil)) (by decide))) (a_cons (e_tup (a_cons (e_var 2) (a_cons (e_cmp (op_eqV hu) s_eq (e_var 3) e_int) a_nil)) (CLen.le (cl_cons (cl_cons cl_nil)) (by decide))) (a_cons (e_tup (a_cons e_int (a_cons e_int a_nil)) (CLen.le (cl_cons (cl_cons cl_nil)) (by decide))) (a_cons (e_callT1 (call_strV hr) s_str T.z_str PyProof.Rows.boot_str (e_var 2)) (a_cons (e_tup (a_cons (e_var 2) (a_cons e_int a_nil)) (CLen.le (cl_cons (cl_cons cl_nil)) (by decide))) a_nil)))))))) (CLen.le (cl_cons (cl_cons (cl_cons (cl_cons (cl_cons (cl_cons (cl_cons (cl_cons cl_nil)))))))) (by decide)))))
 (b_cons (s_set 4 nd (e_bin or_add s_add (e_var 4) (e_lst (a_cons (e_tup a_nil (CLen.le cl_nil (by decide))) (a_cons e_newK (a_cons (e_tup (a_cons (e_var 2) (a_cons e_none a_nil)) (CLen.le (cl_cons (cl_cons cl_nil)) (by decide))) a_nil))) (CLen.le (cl_cons (cl_cons (cl_cons cl_nil))) (by decide)))))
 (b_one (s_ret (e_ixR ixr_V s_ix (e_var 4) (e_callC C__law_take (hr.mono (by decide)) tk (l_cons (e_var 0) (l_cons e_int l_nil)) (ll_cons (ll_cons ll_nil))))))))))
theorem ok__law_odd (T : Txt K mg ec) (Df : DefF K mg "_law_odd" s__law_odd ["_law_pen_here", "_law_thing"])  (C__law_take : Cal P wo K mg base ec "_law_take" ["_law_pen_here", "_law_many"] f__law_take 1) (C__law_put : Cal P wo K mg base ec "_law_put" ["_law_some", "_law_at", "_law_thing"] f__law_put 1) (C__law_odd_share : Cal P wo K mg base ec "_law_odd_share" ["_law_pen_here", "_law_part"] f__law_odd_share 2) : Cal P wo K mg base ec "_law_odd" ["_law_pen_here", "_law_thing"] f__law_odd 3 :=
  Df.cal fun F => fn_ok (k := 2) F sc__law_odd c__law_odd fun cdv A outer s H E hr tk hp => by
    have nd := sc__law_odd.nd
    have hu := hr.units
    have hu1 := hu_of hr
    have hw := T.w
    exact (b_cons (s_set 2 nd (e_callC C__law_take (hr.mono (by decide)) tk (l_cons (e_var 0) (l_cons e_int l_nil)) (ll_cons (ll_cons ll_nil))))
 (b_cons (s_set 3 nd (e_callC C__law_take (hr.mono (by decide)) tk (l_cons (e_var 0) (l_cons (e_call1 call_lenV s_len T.z_len PySem.boot_len (e_var 1)) l_nil)) (ll_cons (ll_cons ll_nil))))
 (b_cons (s_set 4 nd (e_callC C__law_take (hr.mono (by decide)) tk (l_cons (e_var 0) (l_cons (e_call1 call_lenV s_len T.z_len PySem.boot_len (e_var 1)) l_nil)) (ll_cons (ll_cons ll_nil))))
 (b_cons (s_set 5 nd (e_ixR ixr_V s_ix (e_var 1) (e_var 3)))
 (b_cons (s_if (t_cmp (OpR.or op_lt (op_ltV hu)) s_ord (e_var 2) e_int)
 (b_one (s_ret (e_callP C__law_put (hr.mono (by decide)) tk (l_cons (e_var 1) (l_cons (e_var 3) (l_cons (e_callP C__law_put (hr.mono (by decide)) tk (l_cons (e_var 5) (l_cons (e_var 4) (l_cons (e_callC C__law_odd_share (hr.mono (by decide)) tk (l_cons (e_var 0) (l_cons (e_ixR ixr_V s_ix (e_var 5) (e_var 4)) l_nil)) (ll_cons (ll_cons ll_nil))) l_nil))) (ll_cons (ll_cons (ll_cons ll_nil)))) l_nil))) (ll_cons (ll_cons (ll_cons ll_nil))))))
 b_nil)
 (b_cons (s_if (t_cmp (op_eqV hu) s_eq (e_var 2) e_int)
 (b_cons (s_set 6 nd (e_lst (a_cons (e_callT1 call_list_of s_list T.z_list (by decide +kernel) (e_var 5)) (a_cons (e_sl (e_var 5) o_none (o_some (e_un un_neg s_neg e_int))) (a_cons (e_bin or_add s_add (e_var 5) (e_tup (a_cons (e_tup (a_cons e_int (a_cons e_int a_nil)) (CLen.le (cl_cons (cl_cons cl_nil)) (by decide))) a_nil) (CLen.le (cl_cons cl_nil) (by decide)))) (a_cons (e_revA (e_var 5)) (a_cons e_none (a_cons (e_ixR ixr_V s_ix (e_var 1) (e_var 4)) (a_cons (e_tup a_nil (CLen.le cl_nil (by decide))) (a_cons (e_ixR ixr_V s_ix (e_var 5) (e_var 4)) a_nil)))))))) (CLen.le (cl_cons (cl_cons (cl_cons (cl_cons (cl_cons (cl_cons (cl_cons (cl_cons cl_nil)))))))) (by decide))))
 (b_one (s_ret (e_callP C__law_put (hr.mono (by decide)) tk (l_cons (e_var 1) (l_cons (e_var 3) (l_cons (e_ixR ixr_V s_ix (e_var 6) (e_callC C__law_take (hr.mono (by decide)) tk (l_cons (e_var 0) (l_cons e_int l_nil)) (ll_cons (ll_cons ll_nil)))) l_nil))) (ll_cons (ll_cons (ll_cons ll_nil)))))))
 b_nil)
 (b_cons (s_set 7 nd (e_callT1 call_tuple_of s_tuple T.z_tuple (by decide +kernel) (e_lc (own := [("_law_k", 9)]) nd (blkOk_by (own := [("_law_k", 9)]) (N := N__law_odd) (sc := defScope s__law_odd) (by decide +kernel)) (i_range1 (e_call1 call_lenV s_len T.z_len PySem.boot_len (e_var 1)) T.z_range) (fun _ _ _ _ _ => (g_name 9 nd (by decide))) (fun _ _ _ _ _ => ts_nil) (fun _ _ _ _ _ => (e_callT1 call_tuple_of s_tuple T.z_tuple (by decide +kernel) (e_lc (own := [("_law_one", 10)]) nd (blkOk_in (own := [("_law_one", 10)]) (N := N__law_odd) (by rfl) (by decide +kernel)) (i_seq (e_var 1)) (fun _ _ _ _ _ => (g_name 10 nd (by decide))) (fun _ _ _ _ _ => ts_nil) (fun _ _ _ _ _ => (e_ixR ixr_V s_ix (e_var 10) (e_var 9)))))))))
 (b_cons (s_set 8 nd (e_lst (a_cons (e_callT1 call_list_of s_list T.z_list (by decide +kernel) (e_var 1)) (a_cons (e_bin or_add s_add (e_sl (e_var 1) o_none (o_some (e_var 3))) (e_sl (e_var 1) (o_some (e_bin or_add s_add (e_var 3) e_int)) o_none)) (a_cons (e_bin or_add s_add (e_var 1) (e_tup (a_cons (e_var 5) a_nil) (CLen.le (cl_cons cl_nil) (by decide)))) (a_cons (e_revA (e_var 1)) (a_cons (e_var 7) (a_cons (e_lst a_nil (CLen.le cl_nil (by decide))) (a_cons (e_tup a_nil (CLen.le cl_nil (by decide))) (a_cons e_none (a_cons e_str (a_cons e_int a_nil)))))))))) (CLen.le (cl_cons (cl_cons (cl_cons (cl_cons (cl_cons (cl_cons (cl_cons (cl_cons (cl_cons (cl_cons cl_nil)))))))))) (by decide))))
 (b_one (s_ret (e_ixR ixr_V s_ix (e_bin or_add s_add (e_var 8) (e_lst (a_cons (e_disp (dp_cons (key := (.inl 0)) pe_int (e_var 1) dp_nil cl_nil rfl) (cl_cons cl_nil) (by decide)) (a_cons (e_tup (a_cons (e_var 1) a_nil) (CLen.le (cl_cons cl_nil) (by decide))) (a_cons (e_bin or_add s_add (e_sl (e_var 1) (o_some (e_var 3)) o_none) (e_sl (e_var 1) o_none (o_some (e_var 3)))) (a_cons e_bool a_nil)))) (CLen.le (cl_cons (cl_cons (cl_cons (cl_cons cl_nil)))) (by decide)))) (e_callC C__law_take (hr.mono (by decide)) tk (l_cons (e_var 0) (l_cons e_int l_nil)) (ll_cons (ll_cons ll_nil))))))))))))))
theorem ok__law_told (T : Txt K mg ec) (Df : DefF K mg "_law_told" s__law_told ["_law_one", "_law_other", "_law_thing"])  (C_lets_pairing : Cal P wo K mg base ec "lets_pairing" ["one", "other", "thing"] f_lets_pairing 5) : Cal P wo K mg base ec "_law_told" ["_law_one", "_law_other", "_law_thing"] f__law_told 6 :=
  Df.cal fun F => fn_ok (k := 5) F sc__law_told c__law_told fun cdv A outer s H E hr tk hp => by
    have nd := sc__law_told.nd
    have hu := hr.units
    have hu1 := hu_of hr
    have hw := T.w
    exact (b_cons (s_set 3 nd e_none)
 (b_cons (s_set 4 nd e_none)
 (b_cons (s_try ["NoShare", "Unlike"] 5 4 rfl rfl nd tk T.c_BallError (fun W pn xe tk hp =>
 (b_one (s_set 3 nd (e_callP C_lets_pairing (hr.mono (by decide)) tk (l_cons (e_var 0) (l_cons (e_var 1) (l_cons (e_var 2) l_nil))) (ll_cons (ll_cons (ll_cons ll_nil))))))))
 (b_cons (s_if (t_isN 4)
 (b_one (s_ret (e_var 3)))
 b_nil)
 (b_one (s_ret (e_ixR ixr_V s_ix (e_lst (a_cons e_str (a_cons e_str a_nil)) (CLen.le (cl_cons (cl_cons cl_nil)) (by decide))) (e_callT1 call_int1 s_int T.z_int (by decide +kernel) (e_isX 4 T.z_isinstance T.i_Unlike T.exc)))))))))
theorem ok_law (T : Txt K mg ec) (Df : DefF K mg "law" s_law ["_law_script"])  (C__law_pen : Cal P wo K mg base ec "_law_pen" ["_law_script"] f__law_pen 1) (C__law_take : Cal P wo K mg base ec "_law_take" ["_law_pen_here", "_law_many"] f__law_take 1) (C__law_share : Cal P wo K mg base ec "_law_share" ["_law_top", "_law_bottom"] f__law_share 1) (C__law_table : Cal P wo K mg base ec "_law_table" ["_law_pen_here", "_law_boxes"] f__law_table 2) (C__law_shares : Cal P wo K mg base ec "_law_shares" ["_law_table_here", "_law_whole"] f__law_shares 2) (C__law_is_pairing : Cal P wo K mg base ec "_law_is_pairing" ["_law_one", "_law_other", "_law_thing"] f__law_is_pairing 3) (C__law_shifted : Cal P wo K mg base ec "_law_shifted" ["_law_pen_here", "_law_table_here", "_law_spoil"] f__law_shifted 2) (C__law_odd : Cal P wo K mg base ec "_law_odd" ["_law_pen_here", "_law_thing"] f__law_odd 3) (C__law_told : Cal P wo K mg base ec "_law_told" ["_law_one", "_law_other", "_law_thing"] f__law_told 6) : Cal P wo K mg base ec "law" ["_law_script"] f_law 7 :=
  Df.cal fun F => fn_ok (k := 6) F sc_law c_law fun cdv A outer s H E hr tk hp => by
    have nd := sc_law.nd
    have hu := hr.units
    have hu1 := hu_of hr
    have hw := T.w
    exact (b_cons (s_setM 1 nd (e_callP C__law_pen (hr.mono (by decide)) tk (l_cons (e_var 0) l_nil) (ll_cons ll_nil)))
 (b_cons (s_for (own := [2]) hp (i_range1 e_int T.z_range) (g_name 2 nd (by decide))
 (b_cons (s_set 3 nd (e_bin or_add s_add e_int (e_callC C__law_take (hr.mono (by decide)) tk (l_cons (e_var 1) (l_cons (e_ixR ixr_V s_ix (e_tup (a_cons e_int (a_cons e_int a_nil)) (CLen.le (cl_cons (cl_cons cl_nil)) (by decide))) (e_callC C__law_take (hr.mono (by decide)) tk (l_cons (e_var 1) (l_cons e_int l_nil)) (ll_cons (ll_cons ll_nil)))) l_nil)) (ll_cons (ll_cons ll_nil)))))
 (b_cons (s_set 4 nd (e_callC C__law_table (hr.mono (by decide)) tk (l_cons (e_var 1) (l_cons (e_var 3) l_nil)) (ll_cons (ll_cons ll_nil))))
 (b_cons (s_set 5 nd (e_call1 (call_sumV rfl) s_sum T.z_sum (by decide +kernel) (e_lc (own := [("_law_line", 16)]) nd (blkOk_by (own := [("_law_line", 16)]) (N := N_law) (sc := defScope s_law) (by decide +kernel)) (i_seq (e_var 4)) (fun _ _ _ _ _ => (g_name 16 nd (by decide))) (fun _ _ _ _ _ => ts_nil) (fun _ _ _ _ _ => (e_call1 (call_sumV rfl) s_sum T.z_sum (by decide +kernel) (e_var 16))))))
 (b_cons (s_set 6 nd (e_callT1 call_tuple_of s_tuple T.z_tuple (by decide +kernel) (e_lc (own := [("_law_line", 16)]) nd (blkOk_by (own := [("_law_line", 16)]) (N := N_law) (sc := defScope s_law) (by decide +kernel)) (i_seq (e_var 4)) (fun _ _ _ _ _ => (g_name 16 nd (by decide))) (fun _ _ _ _ _ => ts_nil) (fun _ _ _ _ _ => (e_callP C__law_share (hr.mono (by decide)) takes0 (l_cons (e_call1 (call_sumV rfl) s_sum T.z_sum (by decide +kernel) (e_var 16)) (l_cons (e_var 5) l_nil)) (ll_cons (ll_cons ll_nil)))))))
 (b_cons (s_set 7 nd (e_callT1 call_tuple_of s_tuple T.z_tuple (by decide +kernel) (e_lc (own := [("_law_k", 10)]) nd (blkOk_by (own := [("_law_k", 10)]) (N := N_law) (sc := defScope s_law) (by decide +kernel)) (i_range1 (e_var 3) T.z_range) (fun _ _ _ _ _ => (g_name 10 nd (by decide))) (fun _ _ _ _ _ => ts_nil) (fun _ _ _ _ _ => (e_callP C__law_share (hr.mono (by decide)) takes0 (l_cons (e_call1 (call_sumV rfl) s_sum T.z_sum (by decide +kernel) (e_lc (own := [("_law_line", 16)]) nd (blkOk_in (own := [("_law_line", 16)]) (N := N_law) (by rfl) (by decide +kernel)) (i_seq (e_var 4)) (fun _ _ _ _ _ => (g_name 16 nd (by decide))) (fun _ _ _ _ _ => ts_nil) (fun _ _ _ _ _ => (e_ixR ixr_V s_ix (e_var 16) (e_var 10))))) (l_cons (e_var 5) l_nil)) (ll_cons (ll_cons ll_nil)))))))
 (b_cons (s_set 8 nd (e_callP C__law_shares (hr.mono (by decide)) tk (l_cons (e_var 4) (l_cons (e_var 5) l_nil)) (ll_cons (ll_cons ll_nil))))
 (b_cons (s_setM 9 nd (e_lst (a_cons (e_var 8) a_nil) (CLen.le (cl_cons cl_nil) (by decide))))
 (b_cons (s_for (own := [10]) hp (i_range1 e_int T.z_range) (g_name 10 nd (by decide))
 (b_cons (s_set 11 nd (e_callC C__law_take (hr.mono (by decide)) tk (l_cons (e_var 1) (l_cons e_int l_nil)) (ll_cons (ll_cons ll_nil))))
 (b_one (s_if (t_cmp (OpR.or op_lt (op_ltV hu)) s_ord (e_var 11) e_int)
 (b_one (s_expr (e_append (e_var 9) (a_cons (e_callP C__law_shares (hr.mono (by decide)) tk (l_cons (e_callC C__law_shifted (hr.mono (by decide)) tk (l_cons (e_var 1) (l_cons (e_var 4) (l_cons (e_var 11) l_nil))) (ll_cons (ll_cons (ll_cons ll_nil)))) (l_cons (e_var 5) l_nil)) (ll_cons (ll_cons ll_nil))) a_nil))))
 (b_one (s_expr (e_append (e_var 9) (a_cons (e_callC C__law_odd (hr.mono (by decide)) tk (l_cons (e_var 1) (l_cons (e_var 8) l_nil)) (ll_cons (ll_cons ll_nil))) a_nil))))))))
 (b_cons (s_for (own := [12]) hp (i_seq (e_bin or_add s_add (e_var 9) (e_lst (a_cons (e_var 8) a_nil) (CLen.le (cl_cons cl_nil) (by decide))))) (g_name 12 nd (by decide))
 (b_cons (s_set 13 nd (e_reprX hr T.z_repr (e_var 12)))
 (b_cons (s_set 14 nd (e_callP C__law_told (hr.mono (by decide)) tk (l_cons (e_var 6) (l_cons (e_var 7) (l_cons (e_var 12) l_nil))) (ll_cons (ll_cons (ll_cons ll_nil)))))
 (b_one (s_if (t_bop (p_or (t_not (t_of (e_isi (T := "bool") T.z_isinstance T.z_bool PyProof.Rows.boot_bool (by decide +kernel) (e_var 14)))) (p_or (t_cmp (op_neV hu) s_ne (e_var 14) (e_callP C__law_is_pairing (hr.mono (by decide)) tk (l_cons (e_var 6) (l_cons (e_var 7) (l_cons (e_var 12) l_nil))) (ll_cons (ll_cons (ll_cons ll_nil))))) (p_or1 (t_cmp (op_neV hu) s_ne (e_reprX hr T.z_repr (e_var 12)) (e_var 13))))))
 (b_one (s_ret e_bool))
 b_nil)))))
 (b_cons (s_set 15 nd (e_bin or_add s_add (e_tup (a_cons (e_tup (a_cons e_int (a_cons e_int a_nil)) (CLen.le (cl_cons (cl_cons cl_nil)) (by decide))) a_nil) (CLen.le (cl_cons cl_nil) (by decide))) (e_bin or_mul s_mulV (e_tup (a_cons (e_tup (a_cons e_int (a_cons e_int a_nil)) (CLen.le (cl_cons (cl_cons cl_nil)) (by decide))) a_nil) (CLen.le (cl_cons cl_nil) (by decide))) (e_bin op_modN s_mod (e_var 3) e_int))))
 (b_one (s_for (own := [12]) hp (i_seq (e_lst (a_cons (e_var 8) (a_cons e_none (a_cons (e_ixR ixr_V s_ix (e_var 9) e_int) a_nil))) (CLen.le (cl_cons (cl_cons (cl_cons cl_nil))) (by decide)))) (g_name 12 nd (by decide))
 (b_one (s_if (t_bop (p_or (t_cmp (op_neV hu) s_ne (e_callP C__law_told (hr.mono (by decide)) tk (l_cons (e_var 15) (l_cons (e_var 7) (l_cons (e_var 12) l_nil))) (ll_cons (ll_cons (ll_cons ll_nil)))) e_str) (p_or1 (t_cmp (op_neV hu) s_ne (e_callP C__law_told (hr.mono (by decide)) tk (l_cons (e_var 6) (l_cons (e_var 15) (l_cons (e_var 12) l_nil))) (ll_cons (ll_cons (ll_cons ll_nil)))) e_str))))
 (b_one (s_ret e_bool))
 b_nil)))))))))))))))
 (b_one (s_ret (e_cmp op_isV s_is (e_callP C__law_told (hr.mono (by decide)) tk (l_cons (e_var 6) (l_cons (e_var 7) (l_cons (e_var 8) l_nil))) (ll_cons (ll_cons (ll_cons ll_nil)))) e_bool)))))
end
theorem all_mk {l : PySem.W.OpenLaw} {w : World} {K : Fg} {h : Heap} {mg : Str → Option Value} {fa : Addr} (X : K.In h) (G : h.Ns mainGlobals mg) (hfa : mg "law" = some (.ref fa))
    {a0 a1 a2 a3 a4 a5 a6 a7 a8 a9 a10 a11 a12 a13 a14 a15 a16 a17 a18 a19 a20 a21 a22 : Addr} {od0 an0 od1 an1 od2 an2 od3 an3 od4 an4 od5 an5 od6 an6 od7 an7 od8 an8 od9 an9 od10 an10 od11 an11 od12 an12 od13 an13 od14 an14 od15 an15 od16 an16 od17 an17 od18 an18 od19 an19 od20 an20 od21 an21 od22 an22 : Option Addr} {sl0 sl1 sl2 sl3 sl4 sl5 sl6 sl7 sl8 sl9 sl10 sl11 sl12 sl13 sl14 sl15 sl16 sl17 sl18 sl19 sl20 sl21 sl22 : Array (Option Value)} {oc0 kV0 dc0 pm0 cd0 ct0 oc1 kV1 dc1 pm1 cd1 ct1 oc2 kV2 dc2 pm2 cd2 ct2 oc3 kV3 dc3 pm3 cd3 ct3 oc4 kV4 dc4 pm4 cd4 ct4 oc5 kV5 dc5 pm5 cd5 ct5 oc6 kV6 dc6 pm6 cd6 ct6 oc7 kV7 dc7 pm7 cd7 ct7 oc8 kV8 dc8 pm8 cd8 ct8 oc9 kV9 dc9 pm9 cd9 ct9 oc10 kV10 dc10 pm10 cd10 ct10 oc11 kV11 dc11 pm11 cd11 ct11 oc12 kV12 dc12 pm12 cd12 ct12 oc13 kV13 dc13 pm13 cd13 ct13 oc14 kV14 dc14 pm14 cd14 ct14 oc15 kV15 dc15 pm15 cd15 ct15 oc16 kV16 dc16 pm16 cd16 ct16 oc17 kV17 dc17 pm17 cd17 ct17 oc18 kV18 dc18 pm18 cd18 ct18 oc19 kV19 dc19 pm19 cd19 ct19 oc20 kV20 dc20 pm20 cd20 ct20 oc21 kV21 dc21 pm21 cd21 ct21 oc22 kV22 dc22 pm22 cd22 ct22 : Value} {xNoShare xUnlike : Addr}
    {d_BallError d_Unlike : Addr}
    (a_0 : PySem.W.nsIn K mainGlobals "is_whole" = some (some (.ref a0))) (l_0 : K.lookup a0 = some ⟨oc0, od0, .func (PySem.W.fnOf "is_whole" "is_whole" (defArgs s_is_whole) (defBody s_is_whole) (defScope s_is_whole) .none kV0 dc0 pm0 an0 cd0 ct0), sl0⟩) (c_0 : PySem.W.codeIn K cd0 "is_whole" = true) (k_0 : PySem.W.keepIn K (.ref a0) = true)
    (a_1 : PySem.W.nsIn K mainGlobals "measure" = some (some (.ref a1))) (l_1 : K.lookup a1 = some ⟨oc1, od1, .func (PySem.W.fnOf "measure" "measure" (defArgs s_measure) (defBody s_measure) (defScope s_measure) .none kV1 dc1 pm1 an1 cd1 ct1), sl1⟩) (c_1 : PySem.W.codeIn K cd1 "measure" = true) (k_1 : PySem.W.keepIn K (.ref a1) = true)
    (a_2 : PySem.W.nsIn K mainGlobals "share" = some (some (.ref a2))) (l_2 : K.lookup a2 = some ⟨oc2, od2, .func (PySem.W.fnOf "share" "share" (defArgs s_share) (defBody s_share) (defScope s_share) .none kV2 dc2 pm2 an2 cd2 ct2), sl2⟩) (c_2 : PySem.W.codeIn K cd2 "share" = true) (k_2 : PySem.W.keepIn K (.ref a2) = true)
    (a_3 : PySem.W.nsIn K mainGlobals "is_share" = some (some (.ref a3))) (l_3 : K.lookup a3 = some ⟨oc3, od3, .func (PySem.W.fnOf "is_share" "is_share" (defArgs s_is_share) (defBody s_is_share) (defScope s_is_share) .none kV3 dc3 pm3 an3 cd3 ct3), sl3⟩) (c_3 : PySem.W.codeIn K cd3 "is_share" = true) (k_3 : PySem.W.keepIn K (.ref a3) = true)
    (a_4 : PySem.W.nsIn K mainGlobals "plus" = some (some (.ref a4))) (l_4 : K.lookup a4 = some ⟨oc4, od4, .func (PySem.W.fnOf "plus" "plus" (defArgs s_plus) (defBody s_plus) (defScope s_plus) .none kV4 dc4 pm4 an4 cd4 ct4), sl4⟩) (c_4 : PySem.W.codeIn K cd4 "plus" = true) (k_4 : PySem.W.keepIn K (.ref a4) = true)
    (a_5 : PySem.W.nsIn K mainGlobals "total" = some (some (.ref a5))) (l_5 : K.lookup a5 = some ⟨oc5, od5, .func (PySem.W.fnOf "total" "total" (defArgs s_total) (defBody s_total) (defScope s_total) .none kV5 dc5 pm5 an5 cd5 ct5), sl5⟩) (c_5 : PySem.W.codeIn K cd5 "total" = true) (k_5 : PySem.W.keepIn K (.ref a5) = true)
    (a_6 : PySem.W.nsIn K mainGlobals "need_alike" = some (some (.ref a6))) (l_6 : K.lookup a6 = some ⟨oc6, od6, .func (PySem.W.fnOf "need_alike" "need_alike" (defArgs s_need_alike) (defBody s_need_alike) (defScope s_need_alike) .none kV6 dc6 pm6 an6 cd6 ct6), sl6⟩) (c_6 : PySem.W.codeIn K cd6 "need_alike" = true) (k_6 : PySem.W.keepIn K (.ref a6) = true)
    (a_7 : PySem.W.nsIn K mainGlobals "is_table" = some (some (.ref a7))) (l_7 : K.lookup a7 = some ⟨oc7, od7, .func (PySem.W.fnOf "is_table" "is_table" (defArgs s_is_table) (defBody s_is_table) (defScope s_is_table) .none kV7 dc7 pm7 an7 cd7 ct7), sl7⟩) (c_7 : PySem.W.codeIn K cd7 "is_table" = true) (k_7 : PySem.W.keepIn K (.ref a7) = true)
    (a_8 : PySem.W.nsIn K mainGlobals "lets_pairing" = some (some (.ref a8))) (l_8 : K.lookup a8 = some ⟨oc8, od8, .func (PySem.W.fnOf "lets_pairing" "lets_pairing" (defArgs s_lets_pairing) (defBody s_lets_pairing) (defScope s_lets_pairing) .none kV8 dc8 pm8 an8 cd8 ct8), sl8⟩) (c_8 : PySem.W.codeIn K cd8 "lets_pairing" = true) (k_8 : PySem.W.keepIn K (.ref a8) = true)
    (a_9 : PySem.W.nsIn K mainGlobals "_law_pen" = some (some (.ref a9))) (l_9 : K.lookup a9 = some ⟨oc9, od9, .func (PySem.W.fnOf "_law_pen" "_law_pen" (defArgs s__law_pen) (defBody s__law_pen) (defScope s__law_pen) .none kV9 dc9 pm9 an9 cd9 ct9), sl9⟩) (c_9 : PySem.W.codeIn K cd9 "_law_pen" = true) (k_9 : PySem.W.keepIn K (.ref a9) = true)
    (a_10 : PySem.W.nsIn K mainGlobals "_law_take" = some (some (.ref a10))) (l_10 : K.lookup a10 = some ⟨oc10, od10, .func (PySem.W.fnOf "_law_take" "_law_take" (defArgs s__law_take) (defBody s__law_take) (defScope s__law_take) .none kV10 dc10 pm10 an10 cd10 ct10), sl10⟩) (c_10 : PySem.W.codeIn K cd10 "_law_take" = true) (k_10 : PySem.W.keepIn K (.ref a10) = true)
    (a_11 : PySem.W.nsIn K mainGlobals "_law_share" = some (some (.ref a11))) (l_11 : K.lookup a11 = some ⟨oc11, od11, .func (PySem.W.fnOf "_law_share" "_law_share" (defArgs s__law_share) (defBody s__law_share) (defScope s__law_share) .none kV11 dc11 pm11 an11 cd11 ct11), sl11⟩) (c_11 : PySem.W.codeIn K cd11 "_law_share" = true) (k_11 : PySem.W.keepIn K (.ref a11) = true)
    (a_12 : PySem.W.nsIn K mainGlobals "_law_sum" = some (some (.ref a12))) (l_12 : K.lookup a12 = some ⟨oc12, od12, .func (PySem.W.fnOf "_law_sum" "_law_sum" (defArgs s__law_sum) (defBody s__law_sum) (defScope s__law_sum) .none kV12 dc12 pm12 an12 cd12 ct12), sl12⟩) (c_12 : PySem.W.codeIn K cd12 "_law_sum" = true) (k_12 : PySem.W.keepIn K (.ref a12) = true)
    (a_13 : PySem.W.nsIn K mainGlobals "_law_table" = some (some (.ref a13))) (l_13 : K.lookup a13 = some ⟨oc13, od13, .func (PySem.W.fnOf "_law_table" "_law_table" (defArgs s__law_table) (defBody s__law_table) (defScope s__law_table) .none kV13 dc13 pm13 an13 cd13 ct13), sl13⟩) (c_13 : PySem.W.codeIn K cd13 "_law_table" = true) (k_13 : PySem.W.keepIn K (.ref a13) = true)
    (a_14 : PySem.W.nsIn K mainGlobals "_law_shares" = some (some (.ref a14))) (l_14 : K.lookup a14 = some ⟨oc14, od14, .func (PySem.W.fnOf "_law_shares" "_law_shares" (defArgs s__law_shares) (defBody s__law_shares) (defScope s__law_shares) .none kV14 dc14 pm14 an14 cd14 ct14), sl14⟩) (c_14 : PySem.W.codeIn K cd14 "_law_shares" = true) (k_14 : PySem.W.keepIn K (.ref a14) = true)
    (a_15 : PySem.W.nsIn K mainGlobals "_law_is_share" = some (some (.ref a15))) (l_15 : K.lookup a15 = some ⟨oc15, od15, .func (PySem.W.fnOf "_law_is_share" "_law_is_share" (defArgs s__law_is_share) (defBody s__law_is_share) (defScope s__law_is_share) .none kV15 dc15 pm15 an15 cd15 ct15), sl15⟩) (c_15 : PySem.W.codeIn K cd15 "_law_is_share" = true) (k_15 : PySem.W.keepIn K (.ref a15) = true)
    (a_16 : PySem.W.nsIn K mainGlobals "_law_is_pairing" = some (some (.ref a16))) (l_16 : K.lookup a16 = some ⟨oc16, od16, .func (PySem.W.fnOf "_law_is_pairing" "_law_is_pairing" (defArgs s__law_is_pairing) (defBody s__law_is_pairing) (defScope s__law_is_pairing) .none kV16 dc16 pm16 an16 cd16 ct16), sl16⟩) (c_16 : PySem.W.codeIn K cd16 "_law_is_pairing" = true) (k_16 : PySem.W.keepIn K (.ref a16) = true)
    (a_17 : PySem.W.nsIn K mainGlobals "_law_shifted" = some (some (.ref a17))) (l_17 : K.lookup a17 = some ⟨oc17, od17, .func (PySem.W.fnOf "_law_shifted" "_law_shifted" (defArgs s__law_shifted) (defBody s__law_shifted) (defScope s__law_shifted) .none kV17 dc17 pm17 an17 cd17 ct17), sl17⟩) (c_17 : PySem.W.codeIn K cd17 "_law_shifted" = true) (k_17 : PySem.W.keepIn K (.ref a17) = true)
    (a_18 : PySem.W.nsIn K mainGlobals "_law_put" = some (some (.ref a18))) (l_18 : K.lookup a18 = some ⟨oc18, od18, .func (PySem.W.fnOf "_law_put" "_law_put" (defArgs s__law_put) (defBody s__law_put) (defScope s__law_put) .none kV18 dc18 pm18 an18 cd18 ct18), sl18⟩) (c_18 : PySem.W.codeIn K cd18 "_law_put" = true) (k_18 : PySem.W.keepIn K (.ref a18) = true)
    (a_19 : PySem.W.nsIn K mainGlobals "_law_odd_share" = some (some (.ref a19))) (l_19 : K.lookup a19 = some ⟨oc19, od19, .func (PySem.W.fnOf "_law_odd_share" "_law_odd_share" (defArgs s__law_odd_share) (defBody s__law_odd_share) (defScope s__law_odd_share) .none kV19 dc19 pm19 an19 cd19 ct19), sl19⟩) (c_19 : PySem.W.codeIn K cd19 "_law_odd_share" = true) (k_19 : PySem.W.keepIn K (.ref a19) = true)
    (a_20 : PySem.W.nsIn K mainGlobals "_law_odd" = some (some (.ref a20))) (l_20 : K.lookup a20 = some ⟨oc20, od20, .func (PySem.W.fnOf "_law_odd" "_law_odd" (defArgs s__law_odd) (defBody s__law_odd) (defScope s__law_odd) .none kV20 dc20 pm20 an20 cd20 ct20), sl20⟩) (c_20 : PySem.W.codeIn K cd20 "_law_odd" = true) (k_20 : PySem.W.keepIn K (.ref a20) = true)
    (a_21 : PySem.W.nsIn K mainGlobals "_law_told" = some (some (.ref a21))) (l_21 : K.lookup a21 = some ⟨oc21, od21, .func (PySem.W.fnOf "_law_told" "_law_told" (defArgs s__law_told) (defBody s__law_told) (defScope s__law_told) .none kV21 dc21 pm21 an21 cd21 ct21), sl21⟩) (c_21 : PySem.W.codeIn K cd21 "_law_told" = true) (k_21 : PySem.W.keepIn K (.ref a21) = true)
    (a_22 : PySem.W.nsIn K mainGlobals "law" = some (some (.ref a22))) (l_22 : K.lookup a22 = some ⟨oc22, od22, .func (PySem.W.fnOf "law" "law" (defArgs s_law) (defBody s_law) (defScope s_law) .none kV22 dc22 pm22 an22 cd22 ct22), sl22⟩) (c_22 : PySem.W.codeIn K cd22 "law" = true) (k_22 : PySem.W.keepIn K (.ref a22) = true)
    (z_abs : PySem.W.nsIn K mainGlobals "abs" = some none)
    (z_all : PySem.W.nsIn K mainGlobals "all" = some none)
    (z_bool : PySem.W.nsIn K mainGlobals "bool" = some none)
    (z_int : PySem.W.nsIn K mainGlobals "int" = some none)
    (z_isinstance : PySem.W.nsIn K mainGlobals "isinstance" = some none)
    (z_len : PySem.W.nsIn K mainGlobals "len" = some none)
    (z_list : PySem.W.nsIn K mainGlobals "list" = some none)
    (z_range : PySem.W.nsIn K mainGlobals "range" = some none)
    (z_repr : PySem.W.nsIn K mainGlobals "repr" = some none)
    (z_str : PySem.W.nsIn K mainGlobals "str" = some none)
    (z_sum : PySem.W.nsIn K mainGlobals "sum" = some none)
    (z_tuple : PySem.W.nsIn K mainGlobals "tuple" = some none)
    (xa_NoShare : PySem.W.nsIn K mainGlobals "NoShare" = some (some (.ref xNoShare))) (xx_NoShare : PySem.W.excIn K xNoShare [.type "ValueError", .type "Exception", .type "BaseException", .type "object"] "ValueError.__new__" = true) (xk_NoShare : PySem.W.keepIn K (.ref xNoShare) = true) (xb_NoShare : PySem.W.subIn K (.ref xNoShare) (.type "BaseException") = some true) (xt_NoShare : PySem.W.typeIn K (.ref xNoShare) = some (.type "type"))
    (xa_Unlike : PySem.W.nsIn K mainGlobals "Unlike" = some (some (.ref xUnlike))) (xx_Unlike : PySem.W.excIn K xUnlike [.type "ValueError", .type "Exception", .type "BaseException", .type "object"] "ValueError.__new__" = true) (xk_Unlike : PySem.W.keepIn K (.ref xUnlike) = true) (xb_Unlike : PySem.W.subIn K (.ref xUnlike) (.type "BaseException") = some true) (xt_Unlike : PySem.W.typeIn K (.ref xUnlike) = some (.type "type"))
    (en : PySem.W.specialIn K (.builtin "object.__class__") "__get__" = some (some (.builtin "getset_descriptor.__get__")))
    (et : PySem.W.takesIn K (.builtin "object.__class__") = some true)
    (eg_NoShare : PySem.W.findIn K (.ref xNoShare) "__getattribute__" = some (some (.builtin "BaseException.__getattribute__")))
    (eh_NoShare : PySem.W.findIn K (.ref xNoShare) "__getattr__" = some none)
    (ed_NoShare : PySem.W.hasDictIn K xNoShare = true)
    (ea_NoShare : PySem.W.findIn K (.ref xNoShare) "__class__" = some (some (.builtin "object.__class__")))
    (em_NoShare : PySem.W.mroIn K xNoShare (.type "object") = some true)
    (eg_Unlike : PySem.W.findIn K (.ref xUnlike) "__getattribute__" = some (some (.builtin "BaseException.__getattribute__")))
    (eh_Unlike : PySem.W.findIn K (.ref xUnlike) "__getattr__" = some none)
    (ed_Unlike : PySem.W.hasDictIn K xUnlike = true)
    (ea_Unlike : PySem.W.findIn K (.ref xUnlike) "__class__" = some (some (.builtin "object.__class__")))
    (em_Unlike : PySem.W.mroIn K xUnlike (.type "object") = some true)
    (na_BallError : PySem.W.nsIn K mainGlobals "BallError" = some (some (.ref d_BallError)))
    (na_Unlike : PySem.W.nsIn K mainGlobals "Unlike" = some (some (.ref d_Unlike)))
    (ki_NoShare_Unlike : PySem.W.kitOne K (.ref xNoShare) (.ref d_Unlike) = some false)
    (ki_Unlike_Unlike : PySem.W.kitOne K (.ref xUnlike) (.ref d_Unlike) = some true)
    (kx_NoShare_BallError : PySem.W.exmOne K (.ref xNoShare) (.ref d_BallError) = some true)
    (kx_Unlike_BallError : PySem.W.exmOne K (.ref xUnlike) (.ref d_BallError) = some true)
    : ∃ fd : FuncData, (∀ (s : Shared) (v : Value), BindsTo s fd ⟨[v], []⟩ [("_law_script", v)]) ∧ ∀ base : Heap, K.In base → base.Ns mainGlobals mg → FnG l.prog w K mg base 7 fa fd ["_law_script"] (spLaw K f_law []) := by
  have e := hfa.symm.trans (PySem.W.mg_of X G a_22)
  have T : Txt K mg (ecOf mg [] ["NoShare", "Unlike"]) := ⟨PySem.W.mg_none_of X G z_abs, PySem.W.mg_none_of X G z_all, PySem.W.mg_none_of X G z_bool, PySem.W.mg_none_of X G z_int, PySem.W.mg_none_of X G z_isinstance, PySem.W.mg_none_of X G z_len, PySem.W.mg_none_of X G z_list, PySem.W.mg_none_of X G z_range, PySem.W.mg_none_of X G z_repr, PySem.W.mg_none_of X G z_str, PySem.W.mg_none_of X G z_sum, PySem.W.mg_none_of X G z_tuple, ⟨exc_g (PySem.W.mg_of X G xa_NoShare), exc_e (P := fun a => PySem.W.excIn K a [.type "ValueError", .type "Exception", .type "BaseException", .type "object"] "ValueError.__new__" = true) (PySem.W.mg_of X G xa_NoShare) xx_NoShare, exc_e (P := fun a => PySem.W.keepIn K (.ref a) = true) (PySem.W.mg_of X G xa_NoShare) xk_NoShare, exc_e (P := fun a => PySem.W.subIn K (.ref a) (.type "BaseException") = some true) (PySem.W.mg_of X G xa_NoShare) xb_NoShare, exc_e (P := fun a => PySem.W.typeIn K (.ref a) = some (.type "type")) (PySem.W.mg_of X G xa_NoShare) xt_NoShare⟩, ⟨exc_g (PySem.W.mg_of X G xa_Unlike), exc_e (P := fun a => PySem.W.excIn K a [.type "ValueError", .type "Exception", .type "BaseException", .type "object"] "ValueError.__new__" = true) (PySem.W.mg_of X G xa_Unlike) xx_Unlike, exc_e (P := fun a => PySem.W.keepIn K (.ref a) = true) (PySem.W.mg_of X G xa_Unlike) xk_Unlike, exc_e (P := fun a => PySem.W.subIn K (.ref a) (.type "BaseException") = some true) (PySem.W.mg_of X G xa_Unlike) xb_Unlike, exc_e (P := fun a => PySem.W.typeIn K (.ref a) = some (.type "type")) (PySem.W.mg_of X G xa_Unlike) xt_Unlike⟩, bas_bot, (show ∀ m, m ∈ ["NoShare", "Unlike"] → ExcC K ((ecOf mg [] ["NoShare", "Unlike"]).f m) from List.forall_mem_cons.mpr ⟨⟨exc_e (P := fun a => PySem.W.findIn K (.ref a) "__getattribute__" = some (some (.builtin "BaseException.__getattribute__"))) (PySem.W.mg_of X G xa_NoShare) eg_NoShare, exc_e (P := fun a => PySem.W.findIn K (.ref a) "__getattr__" = some none) (PySem.W.mg_of X G xa_NoShare) eh_NoShare, exc_e (P := fun a => PySem.W.subIn K (.ref a) (.type "BaseException") = some true) (PySem.W.mg_of X G xa_NoShare) xb_NoShare, exc_e (P := fun a => PySem.W.hasDictIn K a = true) (PySem.W.mg_of X G xa_NoShare) ed_NoShare, exc_e (P := fun a => PySem.W.findIn K (.ref a) "__class__" = some (some (.builtin "object.__class__"))) (PySem.W.mg_of X G xa_NoShare) ea_NoShare, en, et, exc_e (P := fun a => PySem.W.mroIn K a (.type "object") = some true) (PySem.W.mg_of X G xa_NoShare) em_NoShare⟩, List.forall_mem_cons.mpr ⟨⟨exc_e (P := fun a => PySem.W.findIn K (.ref a) "__getattribute__" = some (some (.builtin "BaseException.__getattribute__"))) (PySem.W.mg_of X G xa_Unlike) eg_Unlike, exc_e (P := fun a => PySem.W.findIn K (.ref a) "__getattr__" = some none) (PySem.W.mg_of X G xa_Unlike) eh_Unlike, exc_e (P := fun a => PySem.W.subIn K (.ref a) (.type "BaseException") = some true) (PySem.W.mg_of X G xa_Unlike) xb_Unlike, exc_e (P := fun a => PySem.W.hasDictIn K a = true) (PySem.W.mg_of X G xa_Unlike) ed_Unlike, exc_e (P := fun a => PySem.W.findIn K (.ref a) "__class__" = some (some (.builtin "object.__class__"))) (PySem.W.mg_of X G xa_Unlike) ea_Unlike, en, et, exc_e (P := fun a => PySem.W.mroIn K a (.type "object") = some true) (PySem.W.mg_of X G xa_Unlike) em_Unlike⟩, fun _ h => nomatch h⟩⟩), isF_own (PySem.W.mg_of X G na_Unlike) (show ∀ m, m ∈ ["NoShare", "Unlike"] → PySem.W.kitOne K (.ref ((ecOf mg [] ["NoShare", "Unlike"]).f m)) (.ref d_Unlike) = some (isSub m "Unlike") from List.forall_mem_cons.mpr ⟨exc_e (P := fun a => PySem.W.kitOne K (.ref a) (.ref d_Unlike) = some (isSub "NoShare" "Unlike")) (PySem.W.mg_of X G xa_NoShare) ki_NoShare_Unlike, List.forall_mem_cons.mpr ⟨exc_e (P := fun a => PySem.W.kitOne K (.ref a) (.ref d_Unlike) = some (isSub "Unlike" "Unlike")) (PySem.W.mg_of X G xa_Unlike) ki_Unlike_Unlike, fun _ h => nomatch h⟩⟩), ⟨_, .inl (PySem.W.mg_of X G na_BallError), (show ∀ m, m ∈ ["NoShare", "Unlike"] → m ∈ (ecOf mg [] ["NoShare", "Unlike"]).X ∧ PySem.W.exmOne K (.ref ((ecOf mg [] ["NoShare", "Unlike"]).f m)) (.ref d_BallError) = some true from List.forall_mem_cons.mpr ⟨⟨(show "NoShare" ∈ ["NoShare", "Unlike"] from by decide), exc_e (P := fun a => PySem.W.exmOne K (.ref a) (.ref d_BallError) = some true) (PySem.W.mg_of X G xa_NoShare) kx_NoShare_BallError⟩, List.forall_mem_cons.mpr ⟨⟨(show "Unlike" ∈ ["NoShare", "Unlike"] from by decide), exc_e (P := fun a => PySem.W.exmOne K (.ref a) (.ref d_BallError) = some true) (PySem.W.mg_of X G xa_Unlike) kx_Unlike_BallError⟩, fun _ h => nomatch h⟩⟩)⟩⟩
  have D0 : DefF K mg "is_whole" s_is_whole ["thing"] := defF_mk (st := s_is_whole) (PySem.W.mg_of X G a_0) l_0 c_0 k_0 fun _ _ _ _ _ _ us hl => match us, hl with | [_], _ => rfl
  have D1 : DefF K mg "measure" s_measure ["a", "b"] := defF_mk (st := s_measure) (PySem.W.mg_of X G a_1) l_1 c_1 k_1 fun _ _ _ _ _ _ us hl => match us, hl with | [_, _], _ => rfl
  have D2 : DefF K mg "share" s_share ["top", "bottom"] := defF_mk (st := s_share) (PySem.W.mg_of X G a_2) l_2 c_2 k_2 fun _ _ _ _ _ _ us hl => match us, hl with | [_, _], _ => rfl
  have D3 : DefF K mg "is_share" s_is_share ["thing"] := defF_mk (st := s_is_share) (PySem.W.mg_of X G a_3) l_3 c_3 k_3 fun _ _ _ _ _ _ us hl => match us, hl with | [_], _ => rfl
  have D4 : DefF K mg "plus" s_plus ["a", "b"] := defF_mk (st := s_plus) (PySem.W.mg_of X G a_4) l_4 c_4 k_4 fun _ _ _ _ _ _ us hl => match us, hl with | [_, _], _ => rfl
  have D5 : DefF K mg "total" s_total ["some"] := defF_mk (st := s_total) (PySem.W.mg_of X G a_5) l_5 c_5 k_5 fun _ _ _ _ _ _ us hl => match us, hl with | [_], _ => rfl
  have D6 : DefF K mg "need_alike" s_need_alike ["one", "other"] := defF_mk (st := s_need_alike) (PySem.W.mg_of X G a_6) l_6 c_6 k_6 fun _ _ _ _ _ _ us hl => match us, hl with | [_, _], _ => rfl
  have D7 : DefF K mg "is_table" s_is_table ["boxes", "thing"] := defF_mk (st := s_is_table) (PySem.W.mg_of X G a_7) l_7 c_7 k_7 fun _ _ _ _ _ _ us hl => match us, hl with | [_, _], _ => rfl
  have D8 : DefF K mg "lets_pairing" s_lets_pairing ["one", "other", "thing"] := defF_mk (st := s_lets_pairing) (PySem.W.mg_of X G a_8) l_8 c_8 k_8 fun _ _ _ _ _ _ us hl => match us, hl with | [_, _, _], _ => rfl
  have D9 : DefF K mg "_law_pen" s__law_pen ["_law_script"] := defF_mk (st := s__law_pen) (PySem.W.mg_of X G a_9) l_9 c_9 k_9 fun _ _ _ _ _ _ us hl => match us, hl with | [_], _ => rfl
  have D10 : DefF K mg "_law_take" s__law_take ["_law_pen_here", "_law_many"] := defF_mk (st := s__law_take) (PySem.W.mg_of X G a_10) l_10 c_10 k_10 fun _ _ _ _ _ _ us hl => match us, hl with | [_, _], _ => rfl
  have D11 : DefF K mg "_law_share" s__law_share ["_law_top", "_law_bottom"] := defF_mk (st := s__law_share) (PySem.W.mg_of X G a_11) l_11 c_11 k_11 fun _ _ _ _ _ _ us hl => match us, hl with | [_, _], _ => rfl
  have D12 : DefF K mg "_law_sum" s__law_sum ["_law_some"] := defF_mk (st := s__law_sum) (PySem.W.mg_of X G a_12) l_12 c_12 k_12 fun _ _ _ _ _ _ us hl => match us, hl with | [_], _ => rfl
  have D13 : DefF K mg "_law_table" s__law_table ["_law_pen_here", "_law_boxes"] := defF_mk (st := s__law_table) (PySem.W.mg_of X G a_13) l_13 c_13 k_13 fun _ _ _ _ _ _ us hl => match us, hl with | [_, _], _ => rfl
  have D14 : DefF K mg "_law_shares" s__law_shares ["_law_table_here", "_law_whole"] := defF_mk (st := s__law_shares) (PySem.W.mg_of X G a_14) l_14 c_14 k_14 fun _ _ _ _ _ _ us hl => match us, hl with | [_, _], _ => rfl
  have D15 : DefF K mg "_law_is_share" s__law_is_share ["_law_thing"] := defF_mk (st := s__law_is_share) (PySem.W.mg_of X G a_15) l_15 c_15 k_15 fun _ _ _ _ _ _ us hl => match us, hl with | [_], _ => rfl
  have D16 : DefF K mg "_law_is_pairing" s__law_is_pairing ["_law_one", "_law_other", "_law_thing"] := defF_mk (st := s__law_is_pairing) (PySem.W.mg_of X G a_16) l_16 c_16 k_16 fun _ _ _ _ _ _ us hl => match us, hl with | [_, _, _], _ => rfl
  have D17 : DefF K mg "_law_shifted" s__law_shifted ["_law_pen_here", "_law_table_here", "_law_spoil"] := defF_mk (st := s__law_shifted) (PySem.W.mg_of X G a_17) l_17 c_17 k_17 fun _ _ _ _ _ _ us hl => match us, hl with | [_, _, _], _ => rfl
  have D18 : DefF K mg "_law_put" s__law_put ["_law_some", "_law_at", "_law_thing"] := defF_mk (st := s__law_put) (PySem.W.mg_of X G a_18) l_18 c_18 k_18 fun _ _ _ _ _ _ us hl => match us, hl with | [_, _, _], _ => rfl
  have D19 : DefF K mg "_law_odd_share" s__law_odd_share ["_law_pen_here", "_law_part"] := defF_mk (st := s__law_odd_share) (PySem.W.mg_of X G a_19) l_19 c_19 k_19 fun _ _ _ _ _ _ us hl => match us, hl with | [_, _], _ => rfl
  have D20 : DefF K mg "_law_odd" s__law_odd ["_law_pen_here", "_law_thing"] := defF_mk (st := s__law_odd) (PySem.W.mg_of X G a_20) l_20 c_20 k_20 fun _ _ _ _ _ _ us hl => match us, hl with | [_, _], _ => rfl
  have D21 : DefF K mg "_law_told" s__law_told ["_law_one", "_law_other", "_law_thing"] := defF_mk (st := s__law_told) (PySem.W.mg_of X G a_21) l_21 c_21 k_21 fun _ _ _ _ _ _ us hl => match us, hl with | [_, _, _], _ => rfl
  have D22 : DefF K mg "law" s_law ["_law_script"] := defF_mk (st := s_law) (PySem.W.mg_of X G a_22) l_22 c_22 k_22 fun _ _ _ _ _ _ us hl => match us, hl with | [_], _ => rfl
  refine spLaw_of (ec := (ecOf mg [] ["NoShare", "Unlike"])) rfl D22 hfa fun base _ _ => ?_
  have C0 := ok_is_whole (P := l.prog) (wo := w) (base := base) T D0 
  have C1 := ok_measure (P := l.prog) (wo := w) (base := base) T D1 
  have C2 := ok_share (P := l.prog) (wo := w) (base := base) T D2 C1
  have C3 := ok_is_share (P := l.prog) (wo := w) (base := base) T D3 C0 C1
  have C4 := ok_plus (P := l.prog) (wo := w) (base := base) T D4 C2
  have C5 := ok_total (P := l.prog) (wo := w) (base := base) T D5 C4
  have C6 := ok_need_alike (P := l.prog) (wo := w) (base := base) T D6 
  have C7 := ok_is_table (P := l.prog) (wo := w) (base := base) T D7 C3
  have C8 := ok_lets_pairing (P := l.prog) (wo := w) (base := base) T D8 C5 C6 C7
  have C9 := ok__law_pen (P := l.prog) (wo := w) (base := base) T D9 
  have C10 := ok__law_take (P := l.prog) (wo := w) (base := base) T D10 
  have C11 := ok__law_share (P := l.prog) (wo := w) (base := base) T D11 
  have C12 := ok__law_sum (P := l.prog) (wo := w) (base := base) T D12 C11
  have C13 := ok__law_table (P := l.prog) (wo := w) (base := base) T D13 C10
  have C14 := ok__law_shares (P := l.prog) (wo := w) (base := base) T D14 C11
  have C15 := ok__law_is_share (P := l.prog) (wo := w) (base := base) T D15 C11
  have C16 := ok__law_is_pairing (P := l.prog) (wo := w) (base := base) T D16 C12 C15
  have C17 := ok__law_shifted (P := l.prog) (wo := w) (base := base) T D17 C10
  have C18 := ok__law_put (P := l.prog) (wo := w) (base := base) T D18 
  have C19 := ok__law_odd_share (P := l.prog) (wo := w) (base := base) T D19 C10
  have C20 := ok__law_odd (P := l.prog) (wo := w) (base := base) T D20 C10 C18 C19
  have C21 := ok__law_told (P := l.prog) (wo := w) (base := base) T D21 C8
  have C22 := ok_law (P := l.prog) (wo := w) (base := base) T D22 C9 C10 C11 C13 C14 C16 C17 C20 C21
  exact C22
end Vm
open PySem PySem.W PyProof.Rows
set_option maxRecDepth 100000 in
set_option maxHeartbeats 0 in
theorem PySem.Challenge.cw_emptierbox_k26_pairings_known_holds : PySem.Challenge.rw_emptierbox_k26_pairings_known.Holds := by
  w_on; o_law; k_head; (case hw => w_witness2)
  k_fill
  refine Vm.walkG (l := PySem.Challenge.rw_emptierbox_k26_pairings_known) (n := 63) (k := 7) (f := Vm.f_law) rfl (by decide) rfl ⟨rfl, by decide, by decide⟩ (fun w h Y => PySem.W.kIn_of Y) ?F (fun ns hl => Vm.law_true ns hl)
  case F =>
    intro w mg fa h KX G hmg
    refine' Vm.all_mk KX G hmg ?a_0 ?l_0 ?c_0 ?k_0 ?a_1 ?l_1 ?c_1 ?k_1 ?a_2 ?l_2 ?c_2 ?k_2 ?a_3 ?l_3 ?c_3 ?k_3 ?a_4 ?l_4 ?c_4 ?k_4 ?a_5 ?l_5 ?c_5 ?k_5 ?a_6 ?l_6 ?c_6 ?k_6 ?a_7 ?l_7 ?c_7 ?k_7 ?a_8 ?l_8 ?c_8 ?k_8 ?a_9 ?l_9 ?c_9 ?k_9 ?a_10 ?l_10 ?c_10 ?k_10 ?a_11 ?l_11 ?c_11 ?k_11 ?a_12 ?l_12 ?c_12 ?k_12 ?a_13 ?l_13 ?c_13 ?k_13 ?a_14 ?l_14 ?c_14 ?k_14 ?a_15 ?l_15 ?c_15 ?k_15 ?a_16 ?l_16 ?c_16 ?k_16 ?a_17 ?l_17 ?c_17 ?k_17 ?a_18 ?l_18 ?c_18 ?k_18 ?a_19 ?l_19 ?c_19 ?k_19 ?a_20 ?l_20 ?c_20 ?k_20 ?a_21 ?l_21 ?c_21 ?k_21 ?a_22 ?l_22 ?c_22 ?k_22 ?z_abs ?z_all ?z_bool ?z_int ?z_isinstance ?z_len ?z_list ?z_range ?z_repr ?z_str ?z_sum ?z_tuple ?xa_NoShare ?xx_NoShare ?xk_NoShare ?xb_NoShare ?xt_NoShare ?xa_Unlike ?xx_Unlike ?xk_Unlike ?xb_Unlike ?xt_Unlike ?en ?et ?eg_NoShare ?eh_NoShare ?ed_NoShare ?ea_NoShare ?em_NoShare ?eg_Unlike ?eh_Unlike ?ed_Unlike ?ea_Unlike ?em_Unlike ?na_BallError ?na_Unlike ?ki_NoShare_Unlike ?ki_Unlike_Unlike ?kx_NoShare_BallError ?kx_Unlike_BallError
    (case a_0 => k_is)
    (case l_0 => k_is)
    (case c_0 => k_is)
    (case k_0 => k_is)
    (case a_1 => k_is)
    (case l_1 => k_is)
    (case c_1 => k_is)
    (case k_1 => k_is)
    (case a_2 => k_is)
    (case l_2 => k_is)
    (case c_2 => k_is)
    (case k_2 => k_is)
    (case a_3 => k_is)
    (case l_3 => k_is)
    (case c_3 => k_is)
    (case k_3 => k_is)
    (case a_4 => k_is)
    (case l_4 => k_is)
    (case c_4 => k_is)
    (case k_4 => k_is)
    (case a_5 => k_is)
    (case l_5 => k_is)
    (case c_5 => k_is)
    (case k_5 => k_is)
    (case a_6 => k_is)
    (case l_6 => k_is)
    (case c_6 => k_is)
    (case k_6 => k_is)
    (case a_7 => k_is)
    (case l_7 => k_is)
    (case c_7 => k_is)
    (case k_7 => k_is)
    (case a_8 => k_is)
    (case l_8 => k_is)
    (case c_8 => k_is)
    (case k_8 => k_is)
    (case a_9 => k_is)
    (case l_9 => k_is)
    (case c_9 => k_is)
    (case k_9 => k_is)
    (case a_10 => k_is)
    (case l_10 => k_is)
    (case c_10 => k_is)
    (case k_10 => k_is)
    (case a_11 => k_is)
    (case l_11 => k_is)
    (case c_11 => k_is)
    (case k_11 => k_is)
    (case a_12 => k_is)
    (case l_12 => k_is)
    (case c_12 => k_is)
    (case k_12 => k_is)
    (case a_13 => k_is)
    (case l_13 => k_is)
    (case c_13 => k_is)
    (case k_13 => k_is)
    (case a_14 => k_is)
    (case l_14 => k_is)
    (case c_14 => k_is)
    (case k_14 => k_is)
    (case a_15 => k_is)
    (case l_15 => k_is)
    (case c_15 => k_is)
    (case k_15 => k_is)
    (case a_16 => k_is)
    (case l_16 => k_is)
    (case c_16 => k_is)
    (case k_16 => k_is)
    (case a_17 => k_is)
    (case l_17 => k_is)
    (case c_17 => k_is)
    (case k_17 => k_is)
    (case a_18 => k_is)
    (case l_18 => k_is)
    (case c_18 => k_is)
    (case k_18 => k_is)
    (case a_19 => k_is)
    (case l_19 => k_is)
    (case c_19 => k_is)
    (case k_19 => k_is)
    (case a_20 => k_is)
    (case l_20 => k_is)
    (case c_20 => k_is)
    (case k_20 => k_is)
    (case a_21 => k_is)
    (case l_21 => k_is)
    (case c_21 => k_is)
    (case k_21 => k_is)
    (case a_22 => k_is)
    (case l_22 => k_is)
    (case c_22 => k_is)
    (case k_22 => k_is)
    (case z_abs => k_is)
    (case z_all => k_is)
    (case z_bool => k_is)
    (case z_int => k_is)
    (case z_isinstance => k_is)
    (case z_len => k_is)
    (case z_list => k_is)
    (case z_range => k_is)
    (case z_repr => k_is)
    (case z_str => k_is)
    (case z_sum => k_is)
    (case z_tuple => k_is)
    (case xa_NoShare => k_is)
    (case xx_NoShare => k_exc)
    (case xk_NoShare => k_is)
    (case xb_NoShare => k_is)
    (case xt_NoShare => k_is)
    (case xa_Unlike => k_is)
    (case xx_Unlike => k_exc)
    (case xk_Unlike => k_is)
    (case xb_Unlike => k_is)
    (case xt_Unlike => k_is)
    (case en => k_is)
    (case et => k_is)
    (case eg_NoShare => k_is)
    (case eh_NoShare => k_is)
    (case ed_NoShare => k_is)
    (case ea_NoShare => k_is)
    (case em_NoShare => k_is)
    (case eg_Unlike => k_is)
    (case eh_Unlike => k_is)
    (case ed_Unlike => k_is)
    (case ea_Unlike => k_is)
    (case em_Unlike => k_is)
    (case na_BallError => k_is)
    (case na_Unlike => k_is)
    (case ki_NoShare_Unlike => kernel_rfl)
    (case ki_Unlike_Unlike => kernel_rfl)
    (case kx_NoShare_BallError => kernel_rfl)
    (case kx_Unlike_BallError => kernel_rfl)
